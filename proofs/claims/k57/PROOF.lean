import PyProof.Rows.All
import HandS.ForMost
import HandS.SetFor
import HandS.TupAny
import HandS.Star
import HandS.Walk
import HandS.Conv
import HandS.DictComp
import HandS.GenList
import HandS.IsInst
import HandS.Zip
import KE.DataFind
import KE.KEqDict
import KE.GoesEnum
import KE.GoesMore
import KE.KDictWalk
import PySem.Challenge.RW_savelines_k57_whole_histories_that_go_on
import HandS.Style
set_option Elab.async false
set_option linter.all false
set_option maxRecDepth 100000
set_option maxHeartbeats 4000000
/-! ## KMath -/
namespace K57
abbrev Rows := List (List Int)
def row (R : Rows) (p : Nat) : List Int := R.getD p []
def ev (R : Rows) (p i : Nat) : Option Int := (row R p)[i]?
def cz (l : List Int) : Nat := l.count 0

theorem ev_lt {R : Rows} {p i : Nat} {e : Int} (h : ev R p i = some e) : i < (row R p).length := (List.getElem?_eq_some_iff.mp h).1
theorem ev_pl {R : Rows} {p i : Nat} {e : Int} (h : ev R p i = some e) : p < R.length := by
  by_cases hp : p < R.length
  · exact hp
  · have h1 : row R p = [] := by
      unfold row
      rw [List.getD_eq_getElem?_getD, List.getElem?_eq_none (by omega)]
      rfl
    unfold ev at h
    rw [h1] at h
    simp at h
theorem row_at {R : Rows} {p : Nat} (h : p < R.length) : R[p]? = some (row R p) := by
  unfold row
  rw [List.getD_eq_getElem?_getD, List.getElem?_eq_getElem h]
  rfl
theorem row_out {R : Rows} {p : Nat} (h : R.length ≤ p) : row R p = [] := by
  unfold row
  rw [List.getD_eq_getElem?_getD, List.getElem?_eq_none h]
  rfl
theorem row_of {R : Rows} {p : Nat} {l : List Int} (h : R[p]? = some l) : row R p = l := by
  unfold row
  rw [List.getD_eq_getElem?_getD, h]
  rfl

/-! ### histories -/
structure Good (R : Rows) : Prop where
  rng : ∀ p i e, ev R p i = some e → -24 ≤ e ∧ e ≤ 24
  uniq : ∀ p i p' i' e, e ≠ 0 → ev R p i = some e → ev R p' i' = some e → p = p' ∧ i = i'
  sent : ∀ q j e, e < 0 → ev R q j = some e → ∃ p i, ev R p i = some (-e) ∧ p ≠ q
  ord : ∃ (rk : Nat → Nat → Nat) (T : Nat), (∀ p i, i < (row R p).length → rk p i < T) ∧ (∀ p i i', i < i' → i' < (row R p).length → rk p i < rk p i') ∧
    (∀ p i q j m, 0 < m → ev R p i = some m → ev R q j = some (-m) → rk p i < rk q j)
/-- S: the first events of L -/
structure Pre (S L : Rows) : Prop where
  len : S.length = L.length
  pre : ∀ p, row S p = (row L p).take (row S p).length
  closed : ∀ q j e, e < 0 → ev S q j = some e → ∃ p i, ev S p i = some (-e)
theorem Pre.le {S L : Rows} (h : Pre S L) (p : Nat) : (row S p).length ≤ (row L p).length := by
  have e := congrArg List.length (h.pre p)
  rw [List.length_take] at e
  omega
theorem Pre.ev {S L : Rows} (h : Pre S L) {p i : Nat} {e : Int} (x : ev S p i = some e) : ev L p i = some e := by
  have hl := ev_lt x
  unfold K57.ev at x ⊢
  rw [h.pre p, List.getElem?_take_of_lt hl] at x
  exact x
theorem Pre.back {S L : Rows} (h : Pre S L) {p i : Nat} {e : Int} (hi : i < (row S p).length) (x : K57.ev L p i = some e) : K57.ev S p i = some e := by
  unfold K57.ev at x ⊢
  rw [h.pre p, List.getElem?_take_of_lt hi]
  exact x
theorem Pre.take {S L : Rows} (h : Pre S L) {p i : Nat} (hi : i ≤ (row S p).length) : (row S p).take i = (row L p).take i := by
  have e := congrArg (List.take i) (h.pre p)
  rw [List.take_take, Nat.min_eq_left hi] at e
  exact e
theorem Pre.good {S L : Rows} (h : Pre S L) (g : Good L) : Good S where
  rng := fun p i e x => g.rng p i e (h.ev x)
  uniq := fun p i p' i' e h0 x y => g.uniq p i p' i' e h0 (h.ev x) (h.ev y)
  sent := fun q j e he x => by
    obtain ⟨p, i, y⟩ := h.closed q j e he x
    obtain ⟨p', i', z, hne⟩ := g.sent q j e he (h.ev x)
    obtain ⟨rfl, rfl⟩ := g.uniq p i p' i' (-e) (by omega) (h.ev y) z
    exact ⟨p, i, y, hne⟩
  ord := by
    obtain ⟨rk, T, h1, h2, h3⟩ := g.ord
    exact ⟨rk, T, fun p i hi => h1 p i (Nat.lt_of_lt_of_le hi (h.le p)), fun p i i' hi hi' => h2 p i i' hi (Nat.lt_of_lt_of_le hi' (h.le p)), fun p i q j m hm x y => h3 p i q j m hm (h.ev x) (h.ev y)⟩
theorem Good.pre {L : Rows} (g : Good L) : Pre L L := ⟨rfl, fun p => (List.take_length).symm, fun q j e he x => let ⟨p, i, y, _⟩ := g.sent q j e he x; ⟨p, i, y⟩⟩

/-! ### places of states -/
def savesTo (l : List Int) (k : Nat) : List Nat := (List.range k).filter fun i => decide (l[i]? = some 0)
def saves (l : List Int) : List Nat := savesTo l l.length
def place (l : List Int) (n : Nat) : Nat := if n = 0 then 0 else (saves l).getD (n - 1) l.length
theorem savesTo_zero (l : List Int) : savesTo l 0 = [] := rfl
theorem savesTo_yes {l : List Int} {k : Nat} (h : l[k]? = some 0) : savesTo l (k + 1) = savesTo l k ++ [k] := by
  unfold savesTo
  rw [List.range_succ, List.filter_append]
  simp [h]
theorem savesTo_no {l : List Int} {k : Nat} (h : l[k]? ≠ some 0) : savesTo l (k + 1) = savesTo l k := by
  unfold savesTo
  rw [List.range_succ, List.filter_append]
  simp [h]
theorem cz_take {l : List Int} {k : Nat} {e : Int} (h : l[k]? = some e) : cz (l.take (k + 1)) = cz (l.take k) + if e = 0 then 1 else 0 := by
  unfold cz
  rw [List.take_add_one, h, List.count_append]
  by_cases e0 : e = 0
  · subst e0; simp
  · simp [e0]
theorem savesTo_len {l : List Int} : ∀ {k : Nat}, k ≤ l.length → (savesTo l k).length = cz (l.take k)
  | 0, _ => by simp [savesTo, cz]
  | k + 1, h => by
    have ih := savesTo_len (l := l) (k := k) (by omega)
    have hk : l[k]? = some l[k] := List.getElem?_eq_getElem (by omega)
    rw [cz_take hk]
    by_cases e0 : l[k] = 0
    · rw [if_pos e0, savesTo_yes (by rw [hk, e0]), List.length_append, ih]
      rfl
    · rw [if_neg e0, savesTo_no (by rw [hk]; simpa using e0), ih]
      rfl
theorem saves_len (l : List Int) : (saves l).length = cz l := by
  unfold saves
  rw [savesTo_len (Nat.le_refl _), List.take_length]
theorem savesTo_mem {l : List Int} {k i : Nat} (h : i ∈ savesTo l k) : i < k ∧ l[i]? = some 0 := by
  unfold savesTo at h
  rw [List.mem_filter, List.mem_range] at h
  exact ⟨h.1, of_decide_eq_true h.2⟩
theorem savesTo_take {l : List Int} {m k : Nat} (h : k ≤ m) : savesTo (l.take m) k = savesTo l k := by
  unfold savesTo
  apply List.filter_congr
  intro i hi
  rw [List.mem_range] at hi
  rw [List.getElem?_take_of_lt (by omega)]
theorem savesTo_pre {l : List Int} {k : Nat} : ∀ d, savesTo l k <+: savesTo l (k + d)
  | 0 => List.prefix_refl _
  | d + 1 => by
    have ih := savesTo_pre (l := l) (k := k) d
    refine ih.trans ?_
    rw [← Nat.add_assoc]
    by_cases h : l[k + d]? = some 0
    · rw [savesTo_yes h]; exact List.prefix_append _ _
    · rw [savesTo_no h]; exact List.prefix_refl _
theorem place_le (l : List Int) (n : Nat) : place l n ≤ l.length := by
  unfold place
  split
  · exact Nat.zero_le _
  · rw [List.getD_eq_getElem?_getD]
    cases h : (saves l)[n - 1]? with
    | none => exact Nat.le_refl _
    | some x =>
      have := savesTo_mem (List.mem_of_getElem? h)
      exact Nat.le_of_lt this.1
theorem place_pre {S L : Rows} (h : Pre S L) {p n : Nat} (hn : n ≤ cz (row S p)) : place (row S p) n = place (row L p) n := by
  unfold place
  by_cases h0 : n = 0
  · rw [if_pos h0, if_pos h0]
  · rw [if_neg h0, if_neg h0]
    have e1 : saves (row S p) = savesTo (row L p) (row S p).length := by
      have e : saves (row S p) = savesTo ((row L p).take (row S p).length) (row S p).length := by
        unfold saves
        exact congrArg (fun x => savesTo x (row S p).length) (h.pre p)
      rw [e, savesTo_take (Nat.le_refl _)]
    have hl : n - 1 < (saves (row S p)).length := by rw [saves_len]; omega
    obtain ⟨d, hd⟩ : ∃ d, (row L p).length = (row S p).length + d := ⟨(row L p).length - (row S p).length, by have := h.le p; omega⟩
    have e2 : saves (row S p) <+: saves (row L p) := by
      rw [e1]
      unfold saves
      rw [hd]
      exact savesTo_pre d
    rw [List.getD_eq_getElem?_getD, List.getD_eq_getElem?_getD]
    obtain ⟨t, ht⟩ := e2
    rw [← ht, List.getElem?_append_left hl, List.getElem?_eq_getElem hl]
    rfl

/-! ### what comes before a state -/
def Closed (R : Rows) (v : Nat → Nat) : Prop := ∀ p i q j m, 0 < m → ev R p i = some m → ev R q j = some (-m) → j < v q → i < v p
def init (R : Rows) (p n : Nat) : Nat → Nat := fun q => if q = p then place (row R p) n else 0
structure IsPast (R : Rows) (p n : Nat) (v : Nat → Nat) : Prop where
  closed : Closed R v
  ge : ∀ q, init R p n q ≤ v q
  least : ∀ u, Closed R u → (∀ q, init R p n q ≤ u q) → ∀ q, v q ≤ u q
theorem IsPast.bound {R : Rows} {p n : Nat} {v : Nat → Nat} (h : IsPast R p n v) (q : Nat) : v q ≤ (row R q).length := by
  refine h.least (fun q => (row R q).length) (fun p i q j m _ x _ _ => ev_lt x) (fun q => ?_) q
  unfold init
  split
  · rename_i e
    rw [e]
    exact place_le _ _
  · exact Nat.zero_le _
theorem IsPast.one {R : Rows} {p n : Nat} {v u : Nat → Nat} (h : IsPast R p n v) (k : IsPast R p n u) : v = u := by
  funext q
  exact Nat.le_antisymm (h.least u k.closed k.ge q) (k.least v h.closed h.ge q)
theorem IsPast.pre {S L : Rows} {p n : Nat} {v : Nat → Nat} (g : Good L) (h : Pre S L) (hn : n ≤ cz (row S p)) (x : IsPast S p n v) : IsPast L p n v := by
  have ei : init S p n = init L p n := by
    funext q
    unfold init
    rw [place_pre h hn]
  refine ⟨fun p i q j m hm y z hj => ?_, fun q => by rw [← ei]; exact x.ge q, fun u hu hg q => x.least u (fun p i q j m hm y z hj => hu p i q j m hm (h.ev y) (h.ev z) hj) (fun q => by rw [ei]; exact hg q) q⟩
  have hz := h.back (Nat.lt_of_lt_of_le hj (x.bound q)) z
  obtain ⟨p', i', w⟩ := h.closed q j (-m) (by omega) hz
  rw [Int.neg_neg] at w
  obtain ⟨rfl, rfl⟩ := g.uniq p i p' i' m (by omega) y (h.ev w)
  exact x.closed p i q j m hm w hz hj
def comp (l : List Int) (c : Nat) : Nat := if 0 < c then cz (l.take (c - 1)) + 1 else 0
def vec (R : Rows) (v : Nat → Nat) (p n : Nat) : List Nat := ((List.range R.length).map fun q => comp (row R q) (v q)).set p n
theorem vec_len (R : Rows) (v : Nat → Nat) (p n : Nat) : (vec R v p n).length = R.length := by
  unfold vec
  rw [List.length_set, List.length_map, List.length_range]
theorem vec_pre {S L : Rows} (h : Pre S L) {v : Nat → Nat} (hv : ∀ q, v q ≤ (row S q).length) (p n : Nat) : vec S v p n = vec L v p n := by
  unfold vec
  rw [h.len]
  congr 1
  apply List.map_congr_left
  intro q _
  unfold comp
  split
  · rw [h.take (by have := hv q; omega)]
  · rfl

/-! ### zigzags -/
def Mv (R : Rows) (p a q b : Nat) : Prop := ∃ m i j, 0 < m ∧ ev R p i = some m ∧ ev R q j = some (-m) ∧ a = cz ((row R p).take i) ∧ b = cz ((row R q).take j)
inductive Zg (R : Rows) (p n : Nat) : Nat → Nat → Prop
  | one {a q b : Nat} : Mv R p a q b → n ≤ a → Zg R p n q b
  | more {q b a r c : Nat} : Zg R p n q b → Mv R q a r c → b ≤ a → Zg R p n r c
theorem Mv.pre {S L : Rows} (h : Pre S L) {p a q b : Nat} (x : Mv S p a q b) : Mv L p a q b := by
  obtain ⟨m, i, j, h0, x1, x2, e1, e2⟩ := x
  refine ⟨m, i, j, h0, h.ev x1, h.ev x2, ?_, ?_⟩
  · rw [e1, h.take (Nat.le_of_lt (ev_lt x1))]
  · rw [e2, h.take (Nat.le_of_lt (ev_lt x2))]
theorem Zg.pre {S L : Rows} (h : Pre S L) {p n q b : Nat} (x : Zg S p n q b) : Zg L p n q b := by
  induction x with
  | one m le => exact .one (m.pre h) le
  | more _ m le ih => exact .more ih (m.pre h) le
def IsState (R : Rows) (p n : Nat) : Prop := p < R.length ∧ n ≤ cz (row R p) + 1
def Kept (R : Rows) (p n : Nat) : Prop := p < R.length ∧ n ≤ cz (row R p)
theorem cz_pre {S L : Rows} (h : Pre S L) (p : Nat) : cz (row S p) ≤ cz (row L p) := by
  unfold cz
  rw [h.pre p]
  exact List.Sublist.count_le 0 (List.take_sublist _ _)
theorem Kept.pre {S L : Rows} (h : Pre S L) {p n : Nat} (x : Kept S p n) : IsState L p n :=
  ⟨by rw [← h.len]; exact x.1, by have := cz_pre h p; have := x.2; omega⟩
theorem Kept.state {S : Rows} {p n : Nat} (x : Kept S p n) : IsState S p n := ⟨x.1, by have := x.2; omega⟩
/-- whenever a zigzag leads from a state to a state, the first one comes before the second one -/
def Tracked (R : Rows) : Prop := ∀ p n q k b v, IsState R p n → IsState R q k → Zg R p n q b → b < k → IsPast R q k v → n < (vec R v q k).getD p 0
theorem not_tracked {S L : Rows} (g : Good L) (h : Pre S L) {p n q k b : Nat} {v : Nat → Nat} (h1 : Kept S p n) (h2 : Kept S q k) (z : Zg S p n q b) (hb : b < k) (hv : IsPast S q k v) (hc : ¬ n < (vec S v q k).getD p 0) : ¬ Tracked L := fun t => by
  have e := vec_pre h hv.bound q k
  rw [e] at hc
  exact hc (t p n q k b v (h1.pre h) (h2.pre h) (z.pre h) hb (hv.pre g h h2.2))
end K57

/-! ## KMath2 -/
namespace K57
/-! ### one event more -/
def app (R : Rows) (p : Nat) (e : Int) : Rows := R.set p (row R p ++ [e])
theorem app_len (R : Rows) (p : Nat) (e : Int) : (app R p e).length = R.length := List.length_set ..
theorem row_app {R : Rows} {p : Nat} (hp : p < R.length) (e : Int) (q : Nat) : row (app R p e) q = if q = p then row R p ++ [e] else row R q := by
  unfold row app
  rw [List.getD_eq_getElem?_getD]
  by_cases h : q = p
  · subst h
    rw [if_pos rfl, List.getElem?_set_self hp]
    rfl
  · rw [if_neg h, List.getElem?_set_ne (Ne.symm h), List.getD_eq_getElem?_getD]
theorem ev_app {R : Rows} {p : Nat} (hp : p < R.length) (e : Int) (q i : Nat) : ev (app R p e) q i = if q = p ∧ i = (row R p).length then some e else ev R q i := by
  unfold ev
  rw [row_app hp]
  by_cases h : q = p
  · subst h
    rw [if_pos rfl]
    by_cases hi : i = (row R q).length
    · rw [if_pos ⟨rfl, hi⟩, hi, List.getElem?_concat_length]
    · rw [if_neg (fun x => hi x.2)]
      by_cases hl : i < (row R q).length
      · rw [List.getElem?_append_left hl]
      · rw [List.getElem?_eq_none (by rw [List.length_append, List.length_singleton]; omega), List.getElem?_eq_none (by omega)]
  · rw [if_neg h, if_neg (fun x => h x.1)]
theorem ev_app_old {R : Rows} {p : Nat} (hp : p < R.length) (e : Int) {q i : Nat} {x : Int} (h : ev R q i = some x) : ev (app R p e) q i = some x := by
  rw [ev_app hp, if_neg]
  · exact h
  · rintro ⟨rfl, rfl⟩
    exact Nat.lt_irrefl _ (ev_lt h)
theorem ev_app_new {R : Rows} {p : Nat} (hp : p < R.length) (e : Int) : ev (app R p e) p (row R p).length = some e := by
  rw [ev_app hp, if_pos ⟨rfl, rfl⟩]
theorem ev_app_or {R : Rows} {p : Nat} (hp : p < R.length) (e : Int) {q i : Nat} {x : Int} (h : ev (app R p e) q i = some x) : (q = p ∧ i = (row R p).length ∧ x = e) ∨ ev R q i = some x := by
  rw [ev_app hp] at h
  by_cases c : q = p ∧ i = (row R p).length
  · rw [if_pos c] at h
    exact .inl ⟨c.1, c.2, (Option.some.inj h).symm⟩
  · rw [if_neg c] at h
    exact .inr h
def NotIn (R : Rows) (e : Int) : Prop := ∀ p i, ev R p i ≠ some e
theorem Good.app {R : Rows} (g : Good R) {p : Nat} {e : Int} (hp : p < R.length) (hr : -24 ≤ e ∧ e ≤ 24) (hn : e ≠ 0 → NotIn R e) (hneg : e < 0 → ∃ q i, ev R q i = some (-e) ∧ q ≠ p) (hpos : 0 < e → NotIn R (-e)) : Good (app R p e) := by
  refine ⟨fun q i x h => ?_, fun q i q' i' x h0 h h' => ?_, fun q j x hx h => ?_, ?_⟩
  · rcases ev_app_or hp e h with ⟨_, _, rfl⟩ | h
    · exact hr
    · exact g.rng q i x h
  · rcases ev_app_or hp e h with ⟨a1, a2, a3⟩ | k
    · rcases ev_app_or hp e h' with ⟨b1, b2, _⟩ | k'
      · exact ⟨a1.trans b1.symm, a2.trans b2.symm⟩
      · rw [a3] at h0 k'
        exact absurd k' (hn h0 _ _)
    · rcases ev_app_or hp e h' with ⟨b1, b2, b3⟩ | k'
      · rw [b3] at h0 k
        exact absurd k (hn h0 _ _)
      · exact g.uniq q i q' i' x h0 k k'
  · rcases ev_app_or hp e h with ⟨rfl, rfl, rfl⟩ | h
    · obtain ⟨q', i', z, hne⟩ := hneg hx
      exact ⟨q', i', ev_app_old hp x z, hne⟩
    · obtain ⟨q', i', z, hne⟩ := g.sent q j x hx h
      exact ⟨q', i', ev_app_old hp e z, hne⟩
  · obtain ⟨rk, T, h1, h2, h3⟩ := g.ord
    refine ⟨fun q i => if q = p ∧ i = (row R p).length then T else rk q i, T + 1, fun q i hi => ?_, fun q i i' hi hi' => ?_, fun q i q' j m hm h h' => ?_⟩
    · show (if q = p ∧ i = (row R p).length then T else rk q i) < T + 1
      split
      · omega
      · rename_i c
        rw [row_app hp] at hi
        by_cases hq : q = p
        · subst hq
          rw [if_pos rfl, List.length_append, List.length_singleton] at hi
          have : i ≠ (row R q).length := fun z => c ⟨rfl, z⟩
          have := h1 q i (by omega)
          omega
        · rw [if_neg hq] at hi
          have := h1 q i hi
          omega
    · show (if q = p ∧ i = (row R p).length then T else rk q i) < (if q = p ∧ i' = (row R p).length then T else rk q i')
      rw [row_app hp] at hi'
      by_cases hq : q = p
      · subst hq
        rw [if_pos rfl, List.length_append, List.length_singleton] at hi'
        rw [if_neg (by omega)]
        split
        · exact h1 q i (by omega)
        · rename_i c
          have : i' ≠ (row R q).length := fun z => c ⟨rfl, z⟩
          exact h2 q i i' hi (by omega)
      · rw [if_neg hq] at hi'
        rw [if_neg (fun z => hq z.1), if_neg (fun z => hq z.1)]
        exact h2 q i i' hi hi'
    · show (if q = p ∧ i = (row R p).length then T else rk q i) < (if q' = p ∧ j = (row R p).length then T else rk q' j)
      have old : ∀ {a b : Nat} {x : Int}, ev R a b = some x → ¬ (a = p ∧ b = (row R p).length) := fun {a b x} z c => by
        obtain ⟨rfl, rfl⟩ := c
        exact Nat.lt_irrefl _ (ev_lt z)
      rcases ev_app_or hp e h with ⟨_, _, a3⟩ | k
      · rcases ev_app_or hp e h' with ⟨_, _, e2⟩ | k'
        · omega
        · rw [a3] at hm k'
          exact absurd k' (hpos hm _ _)
      · rw [if_neg (old k)]
        rcases ev_app_or hp e h' with ⟨b1, b2, _⟩ | k'
        · rw [if_pos ⟨b1, b2⟩]
          exact h1 q i (ev_lt k)
        · rw [if_neg (old k')]
          exact h3 q i q' j m hm k k'
theorem Pre.app {R : Rows} (g : Good R) {p : Nat} (hp : p < R.length) (e : Int) : Pre R (app R p e) := by
  refine ⟨(app_len R p e).symm, fun q => ?_, fun q j x hx h => let ⟨a, i, y, _⟩ := g.sent q j x hx h; ⟨a, i, y⟩⟩
  rw [row_app hp]
  split
  · rename_i h
    subst h
    rw [List.take_left]
  · rw [List.take_length]
theorem good_empty (n : Nat) : Good (List.replicate n []) := by
  have e : ∀ p, row (List.replicate n ([] : List Int)) p = [] := fun p => by
    unfold row
    rw [List.getD_eq_getElem?_getD]
    by_cases h : p < n
    · rw [List.getElem?_replicate, if_pos h]; rfl
    · rw [List.getElem?_eq_none (by simpa using h)]; rfl
  have no : ∀ p i x, ev (List.replicate n ([] : List Int)) p i ≠ some x := fun p i x h => by
    unfold ev at h
    rw [e] at h
    simp at h
  refine ⟨fun p i x h => absurd h (no _ _ _), fun p i _ _ x _ h => absurd h (no _ _ _), fun p i x _ h => absurd h (no _ _ _), fun _ _ => 0, 1, fun p i hi => ?_, fun p i i' _ hi => ?_, fun p i _ _ m _ h => absurd h (no _ _ _)⟩
  · exact Nat.one_pos
  · rw [e] at hi
    simp at hi

/-! ### the drawn history: labels not used yet, messages that are still open -/
structure HI (R : Rows) (labels : List Int) (opens : List (Int × Nat)) : Prop where
  good : Good R
  nd : labels.Nodup
  lrng : ∀ l ∈ labels, 1 ≤ l ∧ l ≤ 24
  lnew : ∀ l ∈ labels, NotIn R l ∧ NotIn R (-l)
  ond : opens.Nodup
  ois : ∀ x ∈ opens, (1 ≤ x.1 ∧ x.1 ≤ 24) ∧ (∃ i, ev R x.2 i = some x.1) ∧ NotIn R (-x.1)
theorem HI.start {n : Nat} {labels : List Int} (h1 : labels.Nodup) (h2 : ∀ l ∈ labels, 1 ≤ l ∧ l ≤ 24) : HI (List.replicate n []) labels [] := by
  have no : ∀ x, NotIn (List.replicate n ([] : List Int)) x := fun x p i h => by
    have e : row (List.replicate n ([] : List Int)) p = [] := by
      unfold row
      rw [List.getD_eq_getElem?_getD]
      by_cases h : p < n
      · rw [List.getElem?_replicate, if_pos h]; rfl
      · rw [List.getElem?_eq_none (by simpa using h)]; rfl
    unfold ev at h
    rw [e] at h
    simp at h
  exact ⟨good_empty n, h1, h2, fun l _ => ⟨no _, no _⟩, List.nodup_nil, fun x hx => by simp at hx⟩
theorem notIn_app {R : Rows} {p : Nat} {e x : Int} (hp : p < R.length) (h : NotIn R x) (hne : x ≠ e) : NotIn (app R p e) x := fun q i z => by
  rcases ev_app_or hp e z with ⟨_, _, e2⟩ | z
  · exact hne e2
  · exact h q i z
theorem HI.save {R : Rows} {labels : List Int} {opens : List (Int × Nat)} (h : HI R labels opens) {p : Nat} (hp : p < R.length) : HI (app R p 0) labels opens := by
  refine ⟨h.good.app hp (by omega) (fun z => absurd rfl z) (fun z => by omega) (fun z => by omega), h.nd, h.lrng, fun l hl => ?_, h.ond, fun x hx => ?_⟩
  · have r := h.lrng l hl
    obtain ⟨a, b⟩ := h.lnew l hl
    exact ⟨notIn_app hp a (by omega), notIn_app hp b (by omega)⟩
  · obtain ⟨r, ⟨i, y⟩, n⟩ := h.ois x hx
    exact ⟨r, ⟨i, ev_app_old hp 0 y⟩, notIn_app hp n (by omega)⟩
theorem HI.send {R : Rows} {labels : List Int} {opens : List (Int × Nat)} (h : HI R labels opens) {p : Nat} (hp : p < R.length) {m : Int} {ls : List Int} (hl : labels = ls ++ [m]) : HI (app R p m) ls (opens ++ [(m, p)]) := by
  subst hl
  have hm : m ∈ ls ++ [m] := by simp
  have rm := h.lrng m hm
  obtain ⟨nm, nm'⟩ := h.lnew m hm
  have nd := h.nd
  rw [List.nodup_append] at nd
  refine ⟨h.good.app hp (by omega) (fun _ => nm) (fun z => by omega) (fun _ => nm'), nd.1, fun l hl => h.lrng l (List.mem_append_left _ hl), fun l hl => ?_, ?_, fun x hx => ?_⟩
  · have r := h.lrng l (List.mem_append_left _ hl)
    obtain ⟨a, b⟩ := h.lnew l (List.mem_append_left _ hl)
    exact ⟨notIn_app hp a (nd.2.2 l hl m (by simp)), notIn_app hp b (by omega)⟩
  · rw [List.nodup_append]
    refine ⟨h.ond, by simp, fun x hx y hy => ?_⟩
    rintro rfl
    have e : x = (m, p) := by simpa using hy
    subst e
    obtain ⟨_, ⟨i, z⟩, _⟩ := h.ois _ hx
    exact nm _ _ z
  · rcases List.mem_append.mp hx with hx | hx
    · obtain ⟨r, ⟨i, y⟩, n⟩ := h.ois x hx
      exact ⟨r, ⟨i, ev_app_old hp m y⟩, notIn_app hp n (by omega)⟩
    · have e : x = (m, p) := by simpa using hx
      subst e
      exact ⟨rm, ⟨_, ev_app_new hp m⟩, notIn_app hp nm' (by show -m ≠ m; omega)⟩
theorem HI.recv {R : Rows} {labels : List Int} {opens : List (Int × Nat)} (h : HI R labels opens) {p : Nat} (hp : p < R.length) {x : Int × Nat} {j : Nat} (hj : opens[j]? = some x) (hne : x.2 ≠ p) : HI (app R p (0 - x.1)) labels (opens.eraseIdx j) := by
  have hx : x ∈ opens := List.mem_of_getElem? hj
  obtain ⟨r, ⟨i, y⟩, n⟩ := h.ois x hx
  have hz : 0 - x.1 = -x.1 := by omega
  rw [hz]
  refine ⟨h.good.app hp (by omega) (fun _ => n) (fun _ => ⟨x.2, i, by rw [Int.neg_neg]; exact y, hne⟩) (fun z => by omega), h.nd, h.lrng, fun l hl => ?_, h.ond.sublist (List.eraseIdx_sublist ..), fun z hzm => ?_⟩
  · have r' := h.lrng l hl
    obtain ⟨a, b⟩ := h.lnew l hl
    refine ⟨notIn_app hp a (by omega), notIn_app hp b fun e => ?_⟩
    have e' : l = x.1 := by omega
    rw [e'] at a
    exact a _ _ y
  · have hzo : z ∈ opens := (List.eraseIdx_sublist ..).subset hzm
    obtain ⟨r', ⟨i', y'⟩, n'⟩ := h.ois z hzo
    refine ⟨r', ⟨i', ev_app_old hp _ y'⟩, notIn_app hp n' fun e => ?_⟩
    have e' : z.1 = x.1 := by omega
    rw [e'] at y'
    obtain ⟨e2, _⟩ := h.good.uniq _ _ _ _ _ (by omega) y y'
    have ezx : z = x := Prod.ext e' e2.symm
    subst ezx
    obtain ⟨k, hk⟩ := List.mem_iff_getElem?.mp hzm
    rw [List.getElem?_eraseIdx] at hk
    have inj : ∀ {a b : Nat}, opens[a]? = some z → opens[b]? = some z → a = b := fun {a b} ha hb => by
      obtain ⟨la, ea⟩ := List.getElem?_eq_some_iff.mp ha
      obtain ⟨lb, eb⟩ := List.getElem?_eq_some_iff.mp hb
      rcases Nat.lt_trichotomy a b with c | c | c
      · exact absurd (ea.trans eb.symm) (List.pairwise_iff_getElem.mp h.ond a b la lb c)
      · exact c
      · exact absurd (eb.trans ea.symm) (List.pairwise_iff_getElem.mp h.ond b a lb la c)
    split at hk
    · rename_i c
      have := inj hk hj
      omega
    · rename_i c
      have := inj hk hj
      omega

/-! ### one order of all events -/
/-- the events of p among those that came out -/
def proj (out : List (Nat × Int)) (p : Nat) : List Int := (out.filter fun x => decide (x.1 = p)).map (·.2)
theorem proj_snoc (out : List (Nat × Int)) (x : Nat × Int) (p : Nat) : proj (out ++ [x]) p = if x.1 = p then proj out p ++ [x.2] else proj out p := by
  unfold proj
  rw [List.filter_append, List.map_append]
  by_cases h : x.1 = p
  · rw [if_pos h]
    simp [h]
  · rw [if_neg h]
    simp [h]
structure Ordr (R : Rows) (out : List (Nat × Int)) : Prop where
  pre : ∀ p, proj out p = (row R p).take (proj out p).length
  lt : ∀ x ∈ out, x.1 < R.length
  sent : ∀ (t q : Nat) (e : Int), e < 0 → out[t]? = some (q, e) → ∃ u p : Nat, u < t ∧ out[u]? = some (p, -e)
theorem Ordr.nil (R : Rows) : Ordr R [] := ⟨fun p => by simp [proj], fun x hx => by simp at hx, fun t q e _ h => by simp at h⟩
theorem Ordr.le {R : Rows} {out : List (Nat × Int)} (h : Ordr R out) (p : Nat) : (proj out p).length ≤ (row R p).length := by
  have e := congrArg List.length (h.pre p)
  rw [List.length_take] at e
  omega
theorem Ordr.snoc {R : Rows} {out : List (Nat × Int)} (h : Ordr R out) {p : Nat} {e : Int} (he : ev R p (proj out p).length = some e) (hs : e < 0 → ∃ u q : Nat, out[u]? = some (q, -e)) : Ordr R (out ++ [(p, e)]) := by
  refine ⟨fun q => ?_, fun x hx => ?_, fun t q x hx ht => ?_⟩
  · rw [proj_snoc]
    by_cases c : p = q
    · subst c
      rw [if_pos rfl]
      have hl := ev_lt he
      rw [List.length_append, List.length_singleton, List.take_add_one, ← h.pre p]
      unfold ev at he
      rw [he]
      rfl
    · rw [if_neg c]
      exact h.pre q
  · rcases List.mem_append.mp hx with hx | hx
    · exact h.lt x hx
    · have e2 : x = (p, e) := by simpa using hx
      subst e2
      exact ev_pl he
  · by_cases c : t < out.length
    · rw [List.getElem?_append_left c] at ht
      obtain ⟨u, p', hu, hp'⟩ := h.sent t q x hx ht
      exact ⟨u, p', hu, by rw [List.getElem?_append_left (by omega)]; exact hp'⟩
    · have hlen : t < (out ++ [(p, e)]).length := (List.getElem?_eq_some_iff.mp ht).1
      rw [List.length_append, List.length_singleton] at hlen
      have et : t = out.length := by omega
      subst et
      rw [List.getElem?_concat_length] at ht
      have e2 : (p, e) = (q, x) := Option.some.inj ht
      cases e2
      obtain ⟨u, p', hp'⟩ := hs hx
      have hu : u < out.length := (List.getElem?_eq_some_iff.mp hp').1
      exact ⟨u, p', hu, by rw [List.getElem?_append_left hu]; exact hp'⟩
theorem Ordr.take {R : Rows} {out : List (Nat × Int)} (h : Ordr R out) : ∀ k, Ordr R (out.take k)
  | k => by
    refine ⟨fun p => ?_, fun x hx => h.lt x (List.mem_of_mem_take hx), fun t q e he ht => ?_⟩
    · have hp : proj (out.take k) p <+: proj out p := by
        unfold proj
        exact ((List.take_prefix k out).filter _).map _
      obtain ⟨s, hs⟩ := hp
      have e := congrArg (List.take (proj (out.take k) p).length) (h.pre p)
      rw [← hs, List.take_left, List.take_take, Nat.min_eq_left (by rw [List.length_append]; omega)] at e
      exact e
    · have htk : t < k := by
        have := (List.getElem?_eq_some_iff.mp ht).1
        rw [List.length_take] at this
        omega
      rw [List.getElem?_take_of_lt htk] at ht
      obtain ⟨u, p, hu, hp⟩ := h.sent t q e he ht
      exact ⟨u, p, hu, by rw [List.getElem?_take_of_lt (by omega)]; exact hp⟩
def begun (n : Nat) (out : List (Nat × Int)) : Rows := (List.range n).map (proj out)
theorem row_begun {n : Nat} {out : List (Nat × Int)} {p : Nat} (hp : p < n) : row (begun n out) p = proj out p := by
  unfold row begun
  rw [List.getD_eq_getElem?_getD, List.getElem?_map, List.getElem?_range hp]
  rfl
theorem proj_get {out : List (Nat × Int)} {p : Nat} {i : Nat} {e : Int} (h : (proj out p)[i]? = some e) : ∃ t : Nat, out[t]? = some (p, e) := by
  have hm : e ∈ proj out p := List.mem_of_getElem? h
  unfold proj at hm
  rw [List.mem_map] at hm
  obtain ⟨x, hx, rfl⟩ := hm
  rw [List.mem_filter] at hx
  obtain ⟨t, ht⟩ := List.mem_iff_getElem?.mp hx.1
  have e1 : x.1 = p := of_decide_eq_true hx.2
  exact ⟨t, by rw [ht, ← e1]⟩
theorem get_proj {out : List (Nat × Int)} {p t : Nat} {e : Int} (h : out[t]? = some (p, e)) : ∃ i : Nat, (proj out p)[i]? = some e := by
  have hm : e ∈ proj out p := by
    unfold proj
    rw [List.mem_map]
    exact ⟨(p, e), List.mem_filter.mpr ⟨List.mem_of_getElem? h, by simp⟩, rfl⟩
  exact List.mem_iff_getElem?.mp hm
theorem Ordr.begun {R : Rows} {out : List (Nat × Int)} (h : Ordr R out) : Pre (begun R.length out) R := by
  have hr : ∀ p, row (K57.begun R.length out) p = proj out p := fun p => by
    by_cases hp : p < R.length
    · exact row_begun hp
    · rw [row_out (by unfold K57.begun; rw [List.length_map, List.length_range]; omega)]
      have e := h.pre p
      rw [row_out (by omega)] at e
      rw [e]
      simp
  refine ⟨by unfold K57.begun; rw [List.length_map, List.length_range], fun p => by rw [hr]; exact h.pre p, fun q j e he x => ?_⟩
  unfold ev at x
  rw [hr] at x
  obtain ⟨t, ht⟩ := proj_get x
  obtain ⟨u, p, _, hp⟩ := h.sent t q e he ht
  obtain ⟨i, hi⟩ := get_proj hp
  exact ⟨p, i, by unfold ev; rw [hr]; exact hi⟩
/-- as long as not all events are out, one can come next -/
theorem Ordr.next {R : Rows} (g : Good R) {out : List (Nat × Int)} (h : Ordr R out)
    (no : ∀ (p : Nat) (e : Int), ev R p (proj out p).length = some e → e < 0 ∧ ∀ u q : Nat, out[u]? ≠ some (q, -e)) (p : Nat) : (proj out p).length = (row R p).length := by
  obtain ⟨rk, T, h1, h2, h3⟩ := g.ord
  have key : ∀ n p i, rk p i < n → i < (row R p).length → i < (proj out p).length := by
    intro n
    induction n with
    | zero => intro p i h _; omega
    | succ n ih =>
      intro p i hlt hi
      by_cases c : i < (proj out p).length
      · exact c
      · exfalso
        have hd : (proj out p).length < (row R p).length := by omega
        have hrk : rk p (proj out p).length ≤ rk p i := by
          by_cases z : (proj out p).length = i
          · rw [z]; exact Nat.le_refl _
          · exact Nat.le_of_lt (h2 p _ i (by omega) hi)
        have hev : ev R p (proj out p).length = some (row R p)[(proj out p).length] := List.getElem?_eq_getElem hd
        obtain ⟨hneg, hno⟩ := no p _ hev
        obtain ⟨q, j, hq, _⟩ := g.sent p _ _ hneg hev
        have hr := h3 q j p (proj out p).length (-(row R p)[(proj out p).length]) (by omega) hq (by rw [Int.neg_neg]; exact hev)
        have hj := ih q j (by omega) (ev_lt hq)
        have e := h.pre q
        have hx : (proj out q)[j]? = some (-(row R p)[(proj out p).length]) := by
          rw [e, List.getElem?_take_of_lt hj]
          exact hq
        obtain ⟨t, ht⟩ := proj_get hx
        exact hno t q ht
  have hle := h.le p
  by_cases c : (proj out p).length = (row R p).length
  · exact c
  · exfalso
    have := key (rk p (proj out p).length + 1) p (proj out p).length (by omega) (by omega)
    omega
def total (R : Rows) : Nat := (R.map List.length).sum
theorem sum_set (l : List Nat) : ∀ (p : Nat) (x : Nat), p < l.length → (l.set p x).sum + l.getD p 0 = l.sum + x := by
  induction l with
  | nil => intro p x h; simp at h
  | cons a r ih =>
    intro p x h
    cases p with
    | zero => simp; omega
    | succ p =>
      have := ih p x (by simpa using h)
      simp at this ⊢
      omega
theorem total_app {R : Rows} {p : Nat} (hp : p < R.length) (e : Int) : total (app R p e) = total R + 1 := by
  unfold total app
  rw [List.map_set]
  have h := sum_set (R.map List.length) p (row R p ++ [e]).length (by simpa using hp)
  have e1 : (R.map List.length).getD p 0 = (row R p).length := by
    rw [List.getD_eq_getElem?_getD, List.getElem?_map, row_at hp]
    rfl
  rw [e1, List.length_append, List.length_singleton] at h
  have e2 : ((R.map List.length).set p (row R p ++ [e]).length).sum = ((R.map List.length).set p ((row R p).length + 1)).sum := by
    rw [List.length_append, List.length_singleton]
  rw [e2]
  omega
theorem begun_snoc {n : Nat} {out : List (Nat × Int)} {p : Nat} {e : Int} (hp : p < n) : begun n (out ++ [(p, e)]) = app (begun n out) p e := by
  apply List.ext_getElem?
  intro q
  by_cases hq : q < n
  · have l1 : q < (begun n (out ++ [(p, e)])).length := by unfold begun; simpa using hq
    have l0 : (begun n out).length = n := by unfold begun; simp
    have l2 : q < (app (begun n out) p e).length := by rw [app_len, l0]; exact hq
    rw [row_at l1, row_at l2, row_begun hq, proj_snoc, row_app (by rw [l0]; exact hp), row_begun hp]
    by_cases c : p = q
    · rw [if_pos c, if_pos c.symm, c]
    · rw [if_neg c, if_neg (Ne.symm c), row_begun hq]
  · rw [List.getElem?_eq_none, List.getElem?_eq_none]
    · rw [app_len]; unfold begun; simp; omega
    · unfold begun; simp; omega
theorem begun_nil (n : Nat) : begun n [] = List.replicate n [] := by
  unfold begun
  apply List.ext_getElem?
  intro q
  by_cases hq : q < n
  · simp [hq, proj]
  · simp [hq]
theorem total_begun {n : Nat} (out : List (Nat × Int)) (h : ∀ x ∈ out, x.1 < n) : ∀ k, k ≤ out.length → total (begun n (out.take k)) = k := by
  intro k
  induction k with
  | zero =>
    intro _
    rw [List.take_zero, begun_nil]
    unfold total
    simp
  | succ k ih =>
    intro hk
    have hg : out[k]? = some out[k] := List.getElem?_eq_getElem (by omega)
    have e : out.take (k + 1) = out.take k ++ [(out[k].1, out[k].2)] := by
      rw [List.take_add_one, hg]
      rfl
    have hl := h out[k] (List.getElem_mem _)
    rw [e, begun_snoc hl, total_app (by unfold begun; simpa using hl), ih (by omega)]
theorem total_eq {R S : Rows} (hl : R.length = S.length) (h : ∀ p, (row R p).length = (row S p).length) : total R = total S := by
  unfold total
  congr 1
  apply List.ext_getElem?
  intro p
  rw [List.getElem?_map, List.getElem?_map]
  by_cases hp : p < R.length
  · rw [row_at hp, row_at (by omega)]
    simp [h p]
  · rw [List.getElem?_eq_none (by omega), List.getElem?_eq_none (by omega)]
end K57

/-! ## KMath3 -/
namespace K57
/-! ### the places of all events, row by row -/
structure PlUp (R : Rows) (p i : Nat) (ps : List (Nat × Nat × Int)) : Prop where
  mem : ∀ q j e, (q, j, e) ∈ ps ↔ ev R q j = some e ∧ (q < p ∨ (q = p ∧ j < i))
  nd : ps.Nodup
  len : ps.length = ((R.take p).map List.length).sum + i
theorem PlUp.start (R : Rows) : PlUp R 0 0 [] := ⟨fun q j e => ⟨fun h => by simp at h, fun h => by omega⟩, List.nodup_nil, by simp⟩
theorem PlUp.step {R : Rows} {p i : Nat} {ps : List (Nat × Nat × Int)} {e : Int} (h : PlUp R p i ps) (he : ev R p i = some e) : PlUp R p (i + 1) (ps ++ [(p, i, e)]) := by
  refine ⟨fun q j x => ⟨fun hm => ?_, fun ⟨hx, hl⟩ => ?_⟩, ?_, by rw [List.length_append, List.length_singleton, h.len]; omega⟩
  · rcases List.mem_append.mp hm with hm | hm
    · obtain ⟨a, b⟩ := (h.mem q j x).mp hm
      exact ⟨a, by omega⟩
    · have z : (q, j, x) = (p, i, e) := by simpa using hm
      cases z
      exact ⟨he, by omega⟩
  · by_cases c : q = p ∧ j = i
    · obtain ⟨rfl, rfl⟩ := c
      rw [he] at hx
      cases hx
      simp
    · exact List.mem_append_left _ ((h.mem q j x).mpr ⟨hx, by omega⟩)
  · rw [List.nodup_append]
    refine ⟨h.nd, by simp, fun a ha b hb => ?_⟩
    have z : b = (p, i, e) := by simpa using hb
    rintro rfl
    subst z
    have := ((h.mem p i e).mp ha).2
    omega
theorem PlUp.row {R : Rows} {p i : Nat} {ps : List (Nat × Nat × Int)} (h : PlUp R p i ps) (hp : p < R.length) (hi : i = (K57.row R p).length) : PlUp R (p + 1) 0 ps := by
  refine ⟨fun q j x => ⟨fun hm => ?_, fun ⟨hx, hl⟩ => ?_⟩, h.nd, ?_⟩
  · obtain ⟨a, b⟩ := (h.mem q j x).mp hm
    exact ⟨a, by omega⟩
  · refine (h.mem q j x).mpr ⟨hx, ?_⟩
    have := ev_lt hx
    by_cases c : q = p
    · subst c
      omega
    · omega
  · rw [h.len, List.take_add_one, row_at hp, List.map_append, List.sum_append]
    simp [hi]
theorem PlUp.all {R : Rows} {ps : List (Nat × Nat × Int)} (h : PlUp R R.length 0 ps) {q j : Nat} {e : Int} : (q, j, e) ∈ ps ↔ ev R q j = some e := by
  rw [h.mem]
  exact ⟨fun a => a.1, fun a => ⟨a, .inl (ev_pl a)⟩⟩
theorem PlUp.total {R : Rows} {ps : List (Nat × Nat × Int)} (h : PlUp R R.length 0 ps) : ps.length = total R := by
  rw [h.len, List.take_length]
  rfl
/-- not too great -/
structure Sz (R : Rows) : Prop where
  pos : 1 ≤ R.length
  len : R.length ≤ 6
  tot : total R ≤ 60
theorem len_le_total {R : Rows} : ∀ p, (row R p).length ≤ total R := by
  intro p
  by_cases hp : p < R.length
  · have hm : row R p ∈ R := List.mem_of_getElem? (row_at hp)
    unfold total
    have hm2 : (row R p).length ∈ R.map List.length := List.mem_map.mpr ⟨_, hm, rfl⟩
    have key : ∀ (l : List Nat) (x : Nat), x ∈ l → x ≤ l.sum := by
      intro l
      induction l with
      | nil => intro x h; simp at h
      | cons a r ih =>
        intro x h
        rw [List.sum_cons]
        rcases List.mem_cons.mp h with h | h
        · omega
        · have := ih x h
          omega
    exact key _ _ hm2
  · rw [row_out (by omega)]
    exact Nat.zero_le _
theorem Sz.row {R : Rows} (h : Sz R) (p : Nat) : (K57.row R p).length ≤ 60 := Nat.le_trans (len_le_total p) h.tot
end K57
namespace K57
/-! ### all states, in order -/
structure StUp (R : Rows) (p n : Nat) (L : List (Nat × Nat)) : Prop where
  mem : ∀ q k, (q, k) ∈ L ↔ (q < p ∧ k ≤ cz (row R q) + 1) ∨ (q = p ∧ k < n)
  len : L.length ≤ 100 * p + n
theorem StUp.start (R : Rows) : StUp R 0 0 [] := ⟨fun q k => ⟨fun h => by simp at h, fun h => by omega⟩, by simp⟩
theorem StUp.step {R : Rows} {p n : Nat} {L : List (Nat × Nat)} (h : StUp R p n L) : StUp R p (n + 1) (L ++ [(p, n)]) := by
  refine ⟨fun q k => ?_, by rw [List.length_append, List.length_singleton]; have := h.len; omega⟩
  rw [List.mem_append, h.mem, List.mem_singleton, Prod.mk.injEq]
  constructor
  · rintro (h | ⟨rfl, rfl⟩)
    · omega
    · omega
  · intro h
    omega
theorem StUp.row {R : Rows} {p n : Nat} {L : List (Nat × Nat)} (h : StUp R p n L) (hn : n = cz (K57.row R p) + 2) (h60 : (K57.row R p).length ≤ 60) : StUp R (p + 1) 0 L := by
  have hc : cz (K57.row R p) ≤ (K57.row R p).length := List.count_le_length
  refine ⟨fun q k => ?_, by have := h.len; omega⟩
  rw [h.mem]
  constructor
  · rintro (h | ⟨rfl, h⟩)
    · omega
    · omega
  · rintro (⟨h1, h2⟩ | h)
    · by_cases e : q = p
      · subst e
        omega
      · omega
    · omega
theorem StUp.all {R : Rows} {L : List (Nat × Nat)} (h : StUp R R.length 0 L) (q k : Nat) : (q, k) ∈ L ↔ IsState R q k := by
  rw [h.mem]
  unfold IsState
  omega
end K57
namespace K57
theorem sum_le_sum : ∀ {a b : List Nat}, a.length = b.length → (∀ i : Nat, a.getD i 0 ≤ b.getD i 0) → a.sum ≤ b.sum
  | [], [], _, _ => Nat.le_refl _
  | [], _ :: _, h, _ => by simp at h
  | _ :: _, [], h, _ => by simp at h
  | x :: a, y :: b, h, k => by
    have h0 := k 0
    have ih := sum_le_sum (a := a) (b := b) (by simpa using h) (fun i => by have := k (i + 1); simpa using this)
    simp at h0
    simp
    omega
theorem getD_len (R : Rows) (i : Nat) : (R.map List.length).getD i 0 = (row R i).length := by
  by_cases h : i < R.length
  · rw [List.getD_eq_getElem?_getD, List.getElem?_map, row_at h]
    rfl
  · rw [List.getD_eq_getElem?_getD, List.getElem?_eq_none (by simpa using h), row_out (by omega)]
    rfl
theorem total_le {R S : Rows} (hl : R.length = S.length) (h : ∀ p, (row R p).length ≤ (row S p).length) : total R ≤ total S := by
  unfold total
  refine sum_le_sum (by simpa using hl) fun i => ?_
  rw [getD_len, getD_len]
  exact h i
theorem begun_len (n : Nat) (out : List (Nat × Int)) : (begun n out).length = n := by
  unfold begun
  rw [List.length_map, List.length_range]
theorem Ordr.len {R : Rows} {out : List (Nat × Int)} (h : Ordr R out) : out.length ≤ total R := by
  have e := total_begun (n := R.length) out h.lt out.length (Nat.le_refl _)
  rw [List.take_length] at e
  rw [← e]
  refine total_le (begun_len _ _) fun p => ?_
  by_cases hp : p < R.length
  · rw [row_begun hp]
    exact h.le p
  · rw [row_out (by rw [begun_len]; omega)]
    exact Nat.zero_le _
theorem Ordr.full {R : Rows} {out : List (Nat × Int)} (h : Ordr R out) (k : ∀ p, (proj out p).length = (row R p).length) : out.length = total R := by
  have e := total_begun (n := R.length) out h.lt out.length (Nat.le_refl _)
  rw [List.take_length] at e
  rw [← e]
  refine total_eq (begun_len _ _) fun p => ?_
  by_cases hp : p < R.length
  · rw [row_begun hp]
    exact k p
  · rw [row_out (by rw [begun_len]; omega), row_out (by omega)]
end K57
namespace K57
/-! ### what comes before a state, step by step -/
def fn (dn : List Nat) : Nat → Nat := fun q => dn.getD q 0
structure PastUp (R : Rows) (p n : Nat) (dn : List Nat) : Prop where
  len : dn.length = R.length
  ge : ∀ q, init R p n q ≤ fn dn q
  least : ∀ u, Closed R u → (∀ q, init R p n q ≤ u q) → ∀ q, fn dn q ≤ u q
theorem PastUp.start {R : Rows} {p n : Nat} (hp : p < R.length) : PastUp R p n ((List.replicate R.length 0).set p (place (row R p) n)) := by
  have e : ∀ q, fn ((List.replicate R.length 0).set p (place (row R p) n)) q = init R p n q := fun q => by
    unfold fn init
    rw [List.getD_eq_getElem?_getD]
    by_cases c : q = p
    · subst c
      rw [if_pos rfl, List.getElem?_set_self (by simpa using hp)]
      rfl
    · rw [if_neg c, List.getElem?_set_ne (Ne.symm c), List.getElem?_replicate]
      split <;> rfl
  exact ⟨by rw [List.length_set, List.length_replicate], fun q => by rw [e]; exact Nat.le_refl _, fun u _ hu q => by rw [e]; exact hu q⟩
theorem PastUp.bound {R : Rows} {p n : Nat} {dn : List Nat} (h : PastUp R p n dn) (q : Nat) : fn dn q ≤ (row R q).length := by
  refine h.least (fun q => (row R q).length) (fun p i q j m _ x _ _ => ev_lt x) (fun q => ?_) q
  unfold init
  split
  · rename_i e
    rw [e]
    exact place_le _ _
  · exact Nat.zero_le _
theorem PastUp.sum {R : Rows} {p n : Nat} {dn : List Nat} (h : PastUp R p n dn) : dn.sum ≤ total R := by
  unfold total
  refine sum_le_sum (by rw [List.length_map]; exact h.len) fun i => ?_
  rw [getD_len]
  exact h.bound i
theorem fn_set {dn : List Nat} {p x : Nat} (hp : p < dn.length) (q : Nat) : fn (dn.set p x) q = if q = p then x else fn dn q := by
  unfold fn
  rw [List.getD_eq_getElem?_getD]
  by_cases c : q = p
  · subst c
    rw [if_pos rfl, List.getElem?_set_self hp]
    rfl
  · rw [if_neg c, List.getElem?_set_ne (Ne.symm c), ← List.getD_eq_getElem?_getD]
theorem PastUp.step {R : Rows} {p n : Nat} {dn : List Nat} (h : PastUp R p n dn) {m : Int} {s i q j : Nat} (h0 : 0 < m) (x : ev R s i = some m) (y : ev R q j = some (-m)) (hj : j < fn dn q) (hi : fn dn s ≤ i) :
    PastUp R p n (dn.set s (i + 1)) ∧ dn.sum < (dn.set s (i + 1)).sum := by
  have hs : s < dn.length := by rw [h.len]; exact ev_pl x
  refine ⟨⟨by rw [List.length_set]; exact h.len, fun r => ?_, fun u hu hg r => ?_⟩, ?_⟩
  · rw [fn_set hs]
    split
    · rename_i e
      subst e
      have := h.ge r
      omega
    · exact h.ge r
  · rw [fn_set hs]
    split
    · rename_i e
      subst e
      exact hu r i q j m h0 x y (Nat.lt_of_lt_of_le hj (h.least u hu hg q))
    · exact h.least u hu hg r
  · have := sum_set dn s (i + 1) hs
    have e : fn dn s = dn.getD s 0 := rfl
    omega
theorem PastUp.done {R : Rows} {p n : Nat} {dn : List Nat} (h : PastUp R p n dn) (ok : ∀ m s i q j, 0 < m → ev R s i = some m → ev R q j = some (-m) → j < fn dn q → i < fn dn s) : IsPast R p n (fn dn) :=
  ⟨fun s i q j m h0 x y hj => ok m s i q j h0 x y hj, h.ge, h.least⟩
theorem vec_at {R : Rows} {v : Nat → Nat} {q k p : Nat} (hp : p < R.length) : (vec R v q k)[p]? = some ((vec R v q k).getD p 0) := by
  rw [List.getD_eq_getElem?_getD, List.getElem?_eq_getElem (by rw [vec_len]; exact hp)]
  rfl
end K57

/-! ## KRules -/
namespace K57
open PySem PySem.Spec PyProof.Rows L2
section
variable {X : Cx}
/-- t.count(k), t a tuple of ints -/
def rCntT (K : PySem.W.Frag) : V → List V → Hp → VK → Prop := fun x xs H Q => ∃ (p : Addr) (ns : List Int) (k : Int), x = .ref p ∧ xs = [.int k] ∧ SqT K H p (ns.map V.int) ∧ Q (.int (ns.count k : Nat)) H
theorem mt_tcount : MtR X "tuple.count" (rCntT X.K) := by
  intro pins s σ H x xs v us Q I rx rxs h
  obtain ⟨p, ns, k, rfl, rfl, hs, q⟩ := h
  cases rx
  obtain ⟨u, rfl, ru⟩ := rxs.one
  obtain ⟨t, rfl⟩ := ru
  obtain ⟨its, rv, ⟨⟨cls, dd, data, sl⟩, ho, hc, n, hd⟩, hlen⟩ := I.tuple hs
  simp only at hc hd
  subst hc hd
  have hi := ints_of_vals rv
  have ec : its.toArray.toList.countP (eqk k) = ns.count k := eqk_count hi
  refine call_meets PySem.F.slot_tuple_count ⟨_, ho, rfl⟩ PySem.F.entry_tuple_count (PySem.F.args_tuple_count_2 _ _)
    (SeqAt.tuple_countAt p its.toArray n dd sl (.int k t) (eqk k)) ⟨ho, fun y hy => (eqk_gives hi y (by simpa using hy)).at _ _, ?_⟩
  rw [ec]
  exact ⟨.int (ns.count k : Nat), H, I.tok _, ⟨_, rfl⟩, q⟩
/-- xs == [], xs != [] -/
def rEqNil (K : PySem.W.Frag) : R2 := fun x y H Q => ∃ (a b : Addr) (xs : List V), x = .ref a ∧ y = .ref b ∧ SqL K H a xs ∧ SqL K H b [] ∧ Q (.bl xs.isEmpty) H
def rNeNil (K : PySem.W.Frag) : R2 := fun x y H Q => ∃ (a b : Addr) (xs : List V), x = .ref a ∧ y = .ref b ∧ SqL K H a xs ∧ SqL K H b [] ∧ Q (.bl (!xs.isEmpty)) H
theorem op_eqNil (hu : X.A.units < cLine) : OpR X (compareOp .Eq) (rEqNil X.K) := by
  intro pins s σ H x y v u Q I rx ry h
  obtain ⟨a, b, xs, rfl, rfl, ha, hb, q⟩ := h
  cases rx
  cases ry
  obtain ⟨its, r1, p1, _⟩ := I.list ha
  obtain ⟨its2, r2, p2, _⟩ := I.list hb
  cases r2
  cases r1 with
  | nil => exact SeqAt.eq_listAt (e := fun _ => true) p1.isList p2.isList rfl hu (fun j h1 _ => absurd h1 (Nat.not_lt_zero j)) ⟨.bl true, H, I, rfl, q⟩
  | cons r rr => exact SeqAt.eq_list_lengthsAt p1.isList p2.isList (by simp) hu ⟨.bl false, H, I, rfl, q⟩
theorem op_neNil (hu : X.A.units < cLine) : OpR X (compareOp .NotEq) (rNeNil X.K) := by
  intro pins s σ H x y v u Q I rx ry h
  obtain ⟨a, b, xs, rfl, rfl, ha, hb, q⟩ := h
  cases rx
  cases ry
  obtain ⟨its, r1, p1, _⟩ := I.list ha
  obtain ⟨its2, r2, p2, _⟩ := I.list hb
  cases r2
  cases r1 with
  | nil => exact SeqAt.RcNeAt.lists (e := fun _ => true) p1.isList p2.isList rfl hu (fun j h1 _ => absurd h1 (Nat.not_lt_zero j)) _ _ _ _ ⟨.bl false, H, I, rfl, q⟩
  | cons r rr => exact SeqAt.RcNeAt.lists_lengths p1.isList p2.isList (by simp) hu _ _ _ _ ⟨.bl true, H, I, rfl, q⟩
/-- d != {} -/
def rNeNilD : R2 := fun x y H Q => ∃ (a b : Addr) (ks : List (Key × V)), x = .ref a ∧ y = .ref b ∧ Rd H a (.dK ks) ∧ H b = some (.dK []) ∧ Q (.bl (!ks.isEmpty)) H
theorem op_neNilD (hu : X.A.units < cLine) : OpR X (compareOp .NotEq) rNeNilD := by
  intro pins s σ H x y v u Q I rx ry h
  obtain ⟨a, b, ks, rfl, rfl, ea, eb, q⟩ := h
  obtain rfl : v = Value.ref a := rx
  obtain rfl : u = Value.ref b := ry
  obtain ⟨_, ya, va, ra, da⟩ := dk_rd I.hok ea
  obtain ⟨_, yb, vb, rb, db⟩ := dk_of I.hok eb
  cases rb
  refine PySem.W.keq_ne (knd := mixKind X.prog X.w) (r := true) ya yb da db hu (fun hl => ?_) ?_
  · cases ra with
    | nil => exact .nil
    | cons _ _ => exact absurd hl (by simp)
  · cases ra with
    | nil => exact ⟨.bl false, H, I, rfl, q⟩
    | cons _ _ => exact ⟨.bl true, H, I, rfl, q⟩
/-- d.update(e), two dicts -/
def rUpd : V → List V → Hp → VK → Prop := fun x xs H Q => ∃ (a b : Addr) (ks ls : List (Key × V)), x = .ref a ∧ xs = [.ref b] ∧ a ≠ b ∧ H a = some (.dK ks) ∧ Rd H b (.dK ls) ∧ ks.length + ls.length ≤ sizeLine ∧ Q .non (upd H a (.dK (mergeK ks ls)))
theorem mt_update : MtR X "dict.update" rUpd := by
  intro pins s σ H x xs v us Q I rx rxs h
  obtain ⟨a, b, ks, ls, rfl, rfl, hne, ea, eb, hz, q⟩ := h
  cases rx
  obtain ⟨u, rfl, ru⟩ := rxs.one
  cases ru
  obtain ⟨_, ya, va, ra, da⟩ := dk_of I.hok ea
  obtain ⟨_, yb, vb, rb, db⟩ := dk_rd I.hok eb
  refine call_meetsIn PySem.F.slot_dict_update da.typeIs PySem.F.entry_dict_update (PySem.F.args_dict_update_2 _ _) (meets_dict_update (mixKind X.prog X.w) a b hne yb)
    ⟨va, vb, da, db, by rw [← ra.length, ← rb.length]; exact hz, fun h' dd' _ hs => ?_⟩
  have he : ∃ q, h'.get? a = some q := let ⟨q, _, _, hq, _⟩ := dd'; ⟨q, hq⟩
  exact ⟨.non, _, d_write I (by rw [ea]; exact True.intro) hs he (dk_new (Nat.le_trans (length_mergeK ls ks) hz) ya (KV.merge rb ra) dd'), rfl, q⟩
end
end K57

/-! ## KRules2 -/
namespace K57
open PySem PySem.Spec PyProof.Rows L2
/-! ### enumerate over a tuple -/
theorem meets_enum1 {v : Value} {o : Obj} {H : Heap → Prop} (B : Begins v o H) :
    Meets (Builtin.«enumerate.__new__» ⟨[.type "enumerate", v], []⟩) (fun _ R s => H s.heap ∧
      R (.ok (.ret (.ref (s.heap.push o).objs.size))) { s with heap := (s.heap.push o).push { cls := .type "enumerate", data := .fields #[.none, .bool false, .ref s.heap.objs.size, rawInt 0, .none, .none] } }) :=
  .of_wp fun prog w A R s h => by
    obtain ⟨hp, g, d, tk, os⟩ := s
    obtain ⟨h1, h⟩ := h
    have hsub := sub_enumerate
    have go : ∀ {A' : Around} {E : Value → Shared → Prop} {Q : Value → Shared → Prop}, Q (.ref hp.objs.size) ⟨hp.push o, g, d, tk, os⟩ → wpAny (model prog w) A' (pyIter v) Q E ⟨hp, g, d, tk, os⟩ :=
      fun q => B.iter prog w _ _ ⟨hp, g, d, tk, os⟩ _ h1 q
    wp_walk using go
    refine wpAny_stack_any fun st => wpAny_pure ?_
    split
    · rename_i c _ _ _ _ _
      cases (c == Value.type "enumerate") <;> (wp_walk using go; exact ⟨_, rfl, h⟩)
    · wp_walk using go
      exact ⟨_, rfl, h⟩
theorem call_enum1 {prog : Program} {w : World} {A : Around} {E : Value → Shared → Prop} {s : Shared} {v : Value} {o : Obj} {H : Heap → Prop} {Q : Value → Shared → Prop} (B : Begins v o H) (h1 : H s.heap)
    (h : ∀ h', IsEnum h' (s.heap.objs.size + 1) s.heap.objs.size 0 .none → h'.get? s.heap.objs.size = some o → (∀ b o, s.heap.get? b = some o → h'.get? b = some o) → Q (.ref (s.heap.objs.size + 1)) { s with heap := h' }) :
    wpAny (model prog w) A (call (.type "enumerate") [v]) Q E s := by
  refine callType_new PySem.F.called_enumerate (by decide) (PySem.F.typeCall_enumerate_1 _) (PySem.F.newCall_enumerate_1 _) (fun obj => PySem.F.args_object_init_2 obj _) PySem.F.entry_enumerate_new (meets_enum1 B) ⟨h1, ?_⟩
  have hz : (s.heap.push o).objs.size = s.heap.objs.size + 1 := Heap.size_push ..
  show _ ∧ _
  rw [hz]
  have he : IsEnum ((s.heap.push o).push { cls := .type "enumerate", data := .fields #[.none, .bool false, .ref s.heap.objs.size, rawInt 0, .none, .none] }) (s.heap.objs.size + 1) s.heap.objs.size 0 .none := by
    have e := Heap.get?_push_size (s.heap.push o) (o := { cls := .type "enumerate", data := .fields #[.none, .bool false, .ref s.heap.objs.size, rawInt 0, .none, .none] }) rfl
    rw [hz] at e
    exact e
  exact ⟨⟨_, he, rfl⟩, h _ he (Heap.get?_push_of_some _ (Heap.get?_push_size _ B.free)) fun b o x => Heap.get?_push_of_some _ (Heap.get?_push_of_some _ x)⟩
theorem tup_ne_iter {h : Heap} {a it t : Addr} {i : Nat} {items : Array Value} (p : IsTup h a items) (hit : h.IsTupleIter it t i) : a ≠ it := fun z => by
  obtain ⟨o1, e1, c1, _⟩ := id p
  obtain ⟨o2, e2, c2, _⟩ := id hit
  rw [z, e2] at e1
  cases e1
  rw [c2] at c1
  exact absurd c1 (by decide +kernel)
/-- enumerate(t): each item in a new pair -/
def IteT (K : PySem.W.Frag) (a : Addr) : It where
  go := fun i H => ∃ (xs : List V) (x : V), SqT K H a xs ∧ xs[i]? = some x
  yld := fun i H v H' => ∃ T x, v = .ref T ∧ H T = none ∧ H' = upd H T (.tup [.int (i : Nat), x]) ∧ ∀ xs, SqT K H a xs → xs[i]? = some x
  stop := fun i H => ∃ xs : List V, SqT K H a xs ∧ xs.length = i
theorem turn_enumT {P : Program} {w : World} {K : PySem.W.Frag} {elts : List Expr} {kk : Nat} {tpos : Pos} (a e it : Addr) :
    Turn P w K (.Tuple elts kk tpos) (IteT K a) [e, it] e (fun i h => (∃ old, IsEnum h e it ((i : Nat) : Int) old) ∧ h.IsTupleIter it a i ∧ e ≠ it) := by
  refine ⟨by simp, fun i h st b hb => ?_, fun i h h' st k => ?_, ?_, ?_, fun A i s Q E st h => ?_⟩
  · obtain ⟨⟨old, he⟩, ⟨o, ho, hc, hd⟩, _⟩ := st
    rcases (show b = e ∨ b = it by simpa using hb) with z | z
    · rw [z]
      exact ⟨_, he, fun v q => nomatch q⟩
    · exact ⟨o, by rw [z]; exact ho, fun v q => by rw [hd] at q; cases q⟩
  · obtain ⟨⟨old, he⟩, hi, hne⟩ := st
    exact ⟨⟨old, k e (by simp) _ he⟩, hi.at fun o q => k it (by simp) o q, hne⟩
  · intro X hP hw hK hc i pins s σ H E I hf st hg
    subst hP hw hK
    obtain ⟨⟨old, he⟩, hit, hne⟩ := st
    obtain ⟨xs, x, hq, hx⟩ := hg
    obtain ⟨its, rv, p, hz⟩ := I.tuple hq
    have p' : s.heap.IsTuple a its.toArray := p
    obtain ⟨u, hu, ru⟩ := rv.get hx
    have hel : e < s.heap.objs.size := Heap.lt_size he
    have hil : it < s.heap.objs.size := by obtain ⟨_, q, _⟩ := hit; exact Heap.lt_size q
    have hai : a ≠ it := tup_ne_iter p hit
    have hae : e ≠ a := fun z => by
      obtain ⟨o1, e1, c1, _⟩ := id p
      have he' : s.heap.get? a = some _ := z ▸ he
      rw [e1] at he'
      cases he'
      exact absurd (show Value.type "enumerate" = Value.type "tuple" from c1) (by decide +kernel)
    have hlt : i < its.toArray.size := by
      have := (List.getElem?_eq_some_iff.mp hu).1
      simpa using this
    refine wpAny_pyNext_enum_itemC (Draws.tuple (prog := X.prog) (w := X.w) (A := X.A.in1) (I.ok.hd hc) it a hai its.toArray) he ⟨hit, p'⟩ hlt hne (by simp [hne, hae]) fun y h' tk hy ho st' hT hsz hk => ?_
    have ey : y = u := by
      have hy' : its[i]? = some y := by simpa using hy
      rw [hu] at hy'
      exact (Option.some.inj hy').symm
    subst ey
    refine ⟨_, rfl, wpAny_letOwnedTupleGo_enum (s := { s with heap := h', toks := tk + 1 }) ho fun h'' he' sb => ?_⟩
    have hT2 : h''.get? s.heap.objs.size = some { cls := .type "tuple", data := .seq #[.int i tk, y] } := (sb.2 _ (Nat.ne_of_gt hel)).trans hT
    have new : ObjOk X.prog X.w (upd H s.heap.objs.size (.tup [.int (i : Nat), x])) h'' s.heap.objs.size (.tup [.int (i : Nat), x]) :=
      ⟨by show 2 ≤ sizeLine; decide, [.int i tk, y], .cons ⟨_, rfl⟩ (.cons ru .nil), ⟨_, hT2, rfl, _, rfl⟩⟩
    have I1 : Inv X pins σ (upd H s.heap.objs.size (.tup [.int (i : Nat), x])) { s with heap := h'', toks := tk + 1 } :=
      I.turnedNew (ch := [e, it]) (fun b ob hb q => (sb.2 b (fun z => hb (by simp [z]))).trans (hk b ob (fun z => hb (by simp [z])) (fun z => hb (by simp [z])) q)) hf (Nat.le_refl _) new
    refine ⟨.ref s.heap.objs.size, _, I1, rfl, ⟨_, x, rfl, I.hok.fresh (Nat.le_refl _), rfl, fun ys hy => by rw [I.tuple_inj hy hq]; exact hx⟩, ⟨⟨y, ?_⟩, st'.1.at fun o q => (sb.2 it (Ne.symm hne)).trans q, hne⟩, fun b hb => ?_⟩
    · have e1 : ((i + 1 : Nat) : Int) = (i : Int) + 1 := by omega
      rw [e1]
      exact he'
    · have hb' : b < s.heap.objs.size := by
        rcases (show b = e ∨ b = it by simpa using hb) with z | z
        · rw [z]; exact hel
        · rw [z]; exact hil
      rw [upd_ne (Nat.ne_of_lt hb')]
      exact (hf b hb).1
  · intro X hP hw hK hc i pins s σ H E I hf st hg
    subst hP hw hK
    obtain ⟨⟨old, he⟩, hit, hne⟩ := st
    obtain ⟨xs, hq, hx⟩ := hg
    obtain ⟨its, rv, p, hz⟩ := I.tuple hq
    obtain ⟨f0, f1, f2, f3, f4, f5⟩ := hf it (by simp)
    have hl := rv.length
    have p' : s.heap.IsTuple a its.toArray := p
    have hai : a ≠ it := tup_ne_iter p hit
    have hn : its.toArray.size = i := by rw [List.size_toArray]; omega
    exact wpAny_pyNext_enum_endD (Draws.tuple (prog := X.prog) (w := X.w) (A := X.A.in1) (I.ok.hd hc) it a hai its.toArray) he ⟨hn ▸ hit, p'⟩ fun h' eb => ⟨rfl, I.turned (t' := s.toks) (fun b o hb q => eb b o hb q) f0 f1 f3 f4 f5⟩
  · obtain ⟨⟨_, he⟩, _⟩ := st
    exact wpAny_pyIter_enum he h
def iEnumT (K : PySem.W.Frag) (ta : TA) : TI := fun σ H R => ta σ H fun vs H1 => ∃ a xs, vs = [.ref a] ∧ SqT K H1 a xs ∧ R (IteT K a) H1
theorem pi_enumT {X : Cx} {e : Expr} {ta : TA} {p pos tpos : Pos} {elts : List Expr} {kk : Nat} (hg : Gl X "enumerate") (hm : X.mg "enumerate" = none) (ha : PA X [e] ta) (hs : starEach [e] X.env = [(false, eval e X.env)] := by rfl) :
    PI X (.Tuple elts kk tpos) (.Call (.Name "enumerate" p) [e] [] pos) (iEnumT X.K ta) := by
  refine ⟨fun pins s σ H R I h => ?_⟩
  refine Call_ (ld_blt I hg hm boot_enumerate (PyProof.Rows.callWith_type1 (thn (ha.run pos pins s σ H _ I h) fun us s1 ⟨vs, H1, I1, r1, q1⟩ => ?_) hs rfl))
  obtain ⟨a, xs, ex, hq, q⟩ := q1
  subst ex
  obtain ⟨u, rfl, ru⟩ := vals1 r1
  cases ru
  obtain ⟨its, rv, p', hz⟩ := I1.tuple hq
  refine call_enum1 (begins_tuple a its.toArray) (show s1.heap.IsTuple a its.toArray from p') fun h' he hit hk => wpAny_pyIter_enum he ?_
  have I2 : Inv X pins σ H1 { s1 with heap := h' } := I1.kept (t' := s1.toks) hk
  refine ⟨s1.heap.objs.size + 1, [s1.heap.objs.size + 1, s1.heap.objs.size], _, _, H1, rfl, I2, turn_enumT a (s1.heap.objs.size + 1) s1.heap.objs.size, ⟨⟨.none, he⟩, ⟨_, hit, rfl, rfl⟩, Nat.succ_ne_self _⟩, fun b hb => ?_, q⟩
  have hle : s1.heap.objs.size ≤ b := by
    rcases (show b = s1.heap.objs.size + 1 ∨ b = s1.heap.objs.size by simpa using hb) with z | z
    · rw [z]; exact Nat.le_add_right _ _
    · rw [z]; exact Nat.le_refl _
  exact I1.fpOk hle (I1.hok.fresh hle)
theorem walk_enumT {K : PySem.W.Frag} {a : Addr} {xs : List V} : Walk (IteT K a) xs.length (fun H => SqT K H a xs) (YPair (fun i => some (.int (i : Nat))) (fun i => xs[i]?)) := by
  refine ⟨fun i _ hi q => ⟨xs, xs[i], q, by simp [hi]⟩, fun _ q => ⟨xs, q, rfl⟩, fun i H v H' _ q y => ?_⟩
  obtain ⟨T, x, h1, h2, h3, h4⟩ := y
  exact ⟨T, .int (i : Nat), x, h1, h2, h3, rfl, h4 xs q⟩
end K57

/-! ## KRules3 -/
namespace K57
open PySem PySem.Spec PyProof.Rows L2
section
variable {X : Cx}
/-- xs[j], by values (for xs[j] += e) -/
def rGetL (K : PySem.W.Frag) : V → V → Hp → VK → Prop := fun x y H Q => ∃ (p : Addr) (xs : List V) (j : Nat) (v : V), x = .ref p ∧ y = .int (j : Nat) ∧ SqL K H p xs ∧ xs[j]? = some v ∧ Q v H
theorem get_listK : PGet X (rGetL X.K) := by
  intro pins s σ H o i ov iv Q I ro ri h
  obtain ⟨p, xs, j, v, rfl, rfl, hq, hv, q⟩ := h
  cases ro
  obtain ⟨t, rfl⟩ := ri
  obtain ⟨its, r, pl, hz⟩ := I.list hq
  obtain ⟨u, hu, ru⟩ := r.get hv
  have hl := r.length
  have hn := line63
  have hj : j < xs.length := (List.getElem?_eq_some_iff.mp hv).1
  exact wpAny_getItem_list pl.isList (by omega) (by omega) (by simpa using hu) ⟨v, H, I, ru, q⟩
/-- xs.remove(t): data at any depth, the first equal item goes -/
def rRemD (K : PySem.W.Frag) : V → List V → Hp → VK → Prop := fun x vs H Q => ∃ (l : Addr) (y : V) (xs : List V) (d : PyData) (ds : List PyData) (j : Nat), x = .ref l ∧ vs = [y] ∧ H l = some (.lst xs) ∧ DpAll K H xs ds ∧ Dp K H y d ∧
  PyData.plainAll ds = true ∧ d.plain = true ∧ d.depth ≤ 8 ∧ SeqAt.dataPlace ds d = some j ∧ Q .non (upd H l (.lst (xs.eraseIdx j)))
theorem mt_removeD (hu : X.A.units + 65 < cLine) : MtR X "list.remove" (rRemD X.K) := by
  intro pins s σ H x vs v us Q I rx rxs h
  obtain ⟨l, y, xs, d, ds, j, rfl, rfl, hH, hds, hd, p1, p2, hdep, hj, q⟩ := h
  cases rx
  obtain ⟨u, rfl, ru⟩ := rxs.one
  obtain ⟨z, its, n, r, hl, e⟩ := I.lstM hH
  obtain ⟨as, r1⟩ := Dp.readsAll I ds _ its hds r
  obtain ⟨bs, r2⟩ := Dp.reads I d y u hd ru
  refine SeqAt.remove_list_data (vs := its.toArray) ⟨_, e, rfl, n, rfl⟩ (show ReadsAll s.heap its.toArray.toList ds as from r1) r2 p1 p2 (by have := Nat.min_le_right (PyData.depthAll ds) d.depth; omega) hj (by rw [List.size_toArray]; omega) ?_
  refine ⟨.non, _, I.lset (its' := its.eraseIdx j) (t' := s.toks) hH e ?_ (r.eraseIdx j) ?_, rfl, q⟩
  · show its.toArray.eraseIdxIfInBounds j = (its.eraseIdx j).toArray
    rw [List.eraseIdxIfInBounds_toArray]
  · have z2 : (xs.eraseIdx j).length ≤ xs.length := (List.eraseIdx_sublist ..).length_le
    omega
end
/-! ### zip of a tuple and a list -/
def ItzM (K : PySem.W.Frag) (a b : Addr) : It where
  go := fun i H => ∃ (xs ys : List V) (x y : V), SqT K H a xs ∧ SqL K H b ys ∧ xs.length = ys.length ∧ xs[i]? = some x ∧ ys[i]? = some y
  yld := fun i H v H' => ∃ T x y, v = .ref T ∧ H T = none ∧ H' = upd H T (.tup [x, y]) ∧ (∀ xs, SqT K H a xs → xs[i]? = some x) ∧ ∀ ys, SqL K H b ys → ys[i]? = some y
  stop := fun i H => ∃ xs ys : List V, SqT K H a xs ∧ SqL K H b ys ∧ xs.length = i ∧ ys.length = i
theorem list_ne_iter {h : Heap} {a it t : Addr} {i : Nat} {items : Array Value} (p : h.IsList a items) (hit : h.IsListIter it t i) : a ≠ it := fun z => by
  obtain ⟨o1, e1, c1, _⟩ := id p
  obtain ⟨o2, e2, c2, _⟩ := id hit
  rw [z, e2] at e1
  cases e1
  rw [c2] at c1
  exact absurd c1 (by decide +kernel)
structure SepM (h : Heap) (z TI TO i1 i2 : Addr) : Prop where
  TIz : TI ≠ z
  TOz : TO ≠ z
  TITO : TI ≠ TO
theorem turn_zipM {P : Program} {w : World} {K : PySem.W.Frag} {elts : List Expr} {kk : Nat} {tpos : Pos} (a b N : Addr) :
    Turn P w K (.Tuple elts kk tpos) (ItzM K a b) [N + 4, N + 2, N + 3, N, N + 1] (N + 4)
      (fun i h => IsZip h (N + 4) (N + 2) (N + 3) .none ∧ IsTupOf2 h (N + 2) (.ref N) (.ref (N + 1)) ∧ (∃ x y, IsTupOf2 h (N + 3) x y) ∧ h.IsTupleIter N a i ∧ h.IsListIter (N + 1) b i ∧ a < N ∧ b < N) := by
  have mem : ∀ c, c ∈ [N + 4, N + 2, N + 3, N, N + 1] → c = N + 4 ∨ c = N + 2 ∨ c = N + 3 ∨ c = N ∨ c = N + 1 := fun c hc => by simpa using hc
  refine ⟨by simp, fun i h st c hc => ?_, fun i h h' st k => ?_, ?_, ?_, fun A i s Q E st h => wpAny_pyIter_zip st.1 h⟩
  · obtain ⟨hz, hTI, ⟨x, y, hTO⟩, ⟨o1, e1, _, d1⟩, ⟨o2, e2, _, d2⟩, _⟩ := st
    rcases mem c hc with q | q | q | q | q <;> rw [q]
    · exact ⟨_, hz, fun v q => nomatch q⟩
    · exact ⟨_, hTI, fun v q => nomatch q⟩
    · exact ⟨_, hTO, fun v q => nomatch q⟩
    · exact ⟨o1, e1, fun v q => by rw [d1] at q; cases q⟩
    · exact ⟨o2, e2, fun v q => by rw [d2] at q; cases q⟩
  · obtain ⟨hz, hTI, ⟨x, y, hTO⟩, h1, h2, l1, l2⟩ := st
    exact ⟨k _ (by simp) _ hz, k _ (by simp) _ hTI, ⟨x, y, k _ (by simp) _ hTO⟩, h1.at fun o q => k _ (by simp) o q, h2.at fun o q => k _ (by simp) o q, l1, l2⟩
  · intro X hP hw hK hc i pins s σ H E I hf st hg
    subst hP hw hK
    obtain ⟨hz, hTI, ⟨x0, y0, hTO⟩, h1, h2, l1, l2⟩ := st
    obtain ⟨xs, ys, x, y, hqx, hqy, hxy, hx, hy⟩ := hg
    obtain ⟨its, rv, p, _⟩ := I.tuple hqx
    obtain ⟨its2, rv2, p2, _⟩ := I.list hqy
    obtain ⟨u, hu, ru⟩ := rv.get hx
    obtain ⟨u2, hu2, ru2⟩ := rv2.get hy
    have S := zip_sep2 (N := N) (fp1 := [a]) (fp2 := [b]) (by simpa using l1) (by simpa using l2)
    have hzl : N + 4 < s.heap.objs.size := Heap.lt_size hz
    have hs1 : i < its.toArray.size := by simpa using (List.getElem?_eq_some_iff.mp hu).1
    have hs2 : i < its2.toArray.size := by simpa using (List.getElem?_eq_some_iff.mp hu2).1
    refine wpAny_pyNext_zipD2_item S (Draws.tuple (prog := X.prog) (w := X.w) (A := X.A.in1) (I.ok.hd hc) N a (Nat.ne_of_lt l1) its.toArray) (Draws.list (prog := X.prog) (w := X.w) (A := X.A.in1) (I.ok.hd hc) (N + 1) b (Nat.ne_of_lt (Nat.lt_succ_of_lt l2)) its2.toArray)
      hz hTI hTO ⟨h1, show s.heap.IsTuple a its.toArray from p⟩ ⟨h2, p2.isList⟩ hs1 hs2 fun v1 v2 h' tk hv1 hv2 z' TO' d1 d2 hT hsz hk => ?_
    have e1 : v1 = u := by
      have e : its[i]? = some v1 := by simpa using hv1
      rw [hu] at e
      exact (Option.some.inj e).symm
    have e2 : v2 = u2 := by
      have e : its2[i]? = some v2 := by simpa using hv2
      rw [hu2] at e
      exact (Option.some.inj e).symm
    subst e1 e2
    refine ⟨_, rfl, wpAny_letOwnedTupleGo_zip (s := { s with heap := h', toks := tk }) z' fun h'' z'' sb => ?_⟩
    have hT2 : h''.get? s.heap.objs.size = some { cls := .type "tuple", data := .seq #[v1, v2] } := (sb.2 _ (Nat.ne_of_gt hzl)).trans hT
    have new : ObjOk X.prog X.w (upd H s.heap.objs.size (.tup [x, y])) h'' s.heap.objs.size (.tup [x, y]) :=
      ⟨by show 2 ≤ sizeLine; decide, [v1, v2], .cons ru (.cons ru2 .nil), ⟨_, hT2, rfl, _, rfl⟩⟩
    have I1 : Inv X pins σ (upd H s.heap.objs.size (.tup [x, y])) { s with heap := h'', toks := tk } :=
      I.turnedNew (t' := tk) (ch := [N + 4, N + 2, N + 3, N, N + 1]) (fun c o hb q => (sb.2 c (fun q' => hb (by simp [q']))).trans (hk c o (fun q' => hb (by simp [q'])) (fun q' => hb (by simp [q'])) (fun q' => hb (by simp [q'])) (fun q' => hb (by simp [q'])) q)) hf (Nat.le_refl _) new
    refine ⟨.ref s.heap.objs.size, _, I1, rfl, ⟨_, x, y, rfl, I.hok.fresh (Nat.le_refl _), rfl, fun l hl => by rw [I.tuple_inj hl hqx]; exact hx, fun l hl => by rw [I.list_inj hl hqy]; exact hy⟩, ⟨z'', ?_, ⟨v1, v2, ?_⟩, ?_, ?_, l1, l2⟩, fun c hcm => ?_⟩
    · exact (sb.2 _ S.TIz).trans (hk _ _ S.TIz S.TITO S.TIi1 S.TIi2 hTI)
    · exact (sb.2 _ S.TOz).trans TO'
    · exact d1.1.at fun o q => (sb.2 _ (Ne.symm S.zi1)).trans q
    · exact d2.1.at fun o q => (sb.2 _ (Ne.symm S.zi2)).trans q
    · have hlt : c < s.heap.objs.size := by
        rcases mem c hcm with q | q | q | q | q <;> rw [q]
        · exact hzl
        · exact Heap.lt_size hTI
        · exact Heap.lt_size hTO
        · obtain ⟨_, e1, _⟩ := h1; exact Heap.lt_size e1
        · obtain ⟨_, e2, _⟩ := h2; exact Heap.lt_size e2
      rw [upd_ne (Nat.ne_of_lt hlt)]
      exact (hf c hcm).1
  · intro X hP hw hK hc i pins s σ H E I hf st hg
    subst hP hw hK
    obtain ⟨hz, hTI, ⟨x0, y0, hTO⟩, h1, h2, l1, l2⟩ := st
    obtain ⟨xs, ys, hqx, hqy, hx, hy⟩ := hg
    obtain ⟨its, rv, p, _⟩ := I.tuple hqx
    obtain ⟨its2, rv2, p2, _⟩ := I.list hqy
    have k1 := rv.length
    have k2 := rv2.length
    have S := zip_sep2 (N := N) (fp1 := [a]) (fp2 := [b]) (by simpa using l1) (by simpa using l2)
    refine wpAny_pyNext_zipD2_end S (Draws.tuple (prog := X.prog) (w := X.w) (A := X.A.in1) (I.ok.hd hc) N a (Nat.ne_of_lt l1) its.toArray) (Draws.list (prog := X.prog) (w := X.w) (A := X.A.in1) (I.ok.hd hc) (N + 1) b (Nat.ne_of_lt (Nat.lt_succ_of_lt l2)) its2.toArray)
      hz hTI hTO ⟨h1, show s.heap.IsTuple a its.toArray from p⟩ ⟨h2, p2.isList⟩ (by rw [List.size_toArray]; omega) (by rw [List.size_toArray]; omega) (.inl (by rw [List.size_toArray]; omega)) fun h' tk hk => ?_
    exact ⟨rfl, I.turnedL (t' := tk) (ch := [N + 4, N + 2, N + 3, N, N + 1]) (fun c o hb q => hk c o (fun q' => hb (by simp [q'])) (fun q' => hb (by simp [q'])) (fun q' => hb (by simp [q'])) (fun q' => hb (by simp [q'])) q) hf⟩
def iZipM (K : PySem.W.Frag) (ta : TA) : TI := fun σ H R => ta σ H fun vs H1 => ∃ a b xs ys, vs = [.ref a, .ref b] ∧ SqT K H1 a xs ∧ SqL K H1 b ys ∧ R (ItzM K a b) H1
theorem pi_zipM {X : Cx} {e e2 : Expr} {ta : TA} {p pos tpos : Pos} {elts : List Expr} {kk : Nat} (hg : Gl X "zip") (hm : X.mg "zip" = none) (ha : PA X [e, e2] ta)
    (hs : starEach [e, e2] X.env = (false, eval e X.env) :: starEach [e2] X.env := by rfl) (hpl : (backTo pos (starEach [e2] X.env)).any (·.1) = false := by rfl) :
    PI X (.Tuple elts kk tpos) (.Call (.Name "zip" p) [e, e2] [] pos) (iZipM X.K ta) := by
  refine ⟨fun pins s σ H R I h => ?_⟩
  refine Call_ (ld_blt I hg hm PyProof.Rows.boot_zip (PyProof.Rows.callWith_type1 (thn (ha.run pos pins s σ H _ I h) fun us s1 ⟨vs, H1, I1, r1, q1⟩ => ?_) hs hpl))
  obtain ⟨a, b, xs, ys, ex, hqx, hqy, q⟩ := q1
  subst ex
  cases r1 with
  | cons r rr =>
    cases rr with
    | cons r' rr =>
      cases rr
      cases r
      cases r'
      obtain ⟨its, rv, p1, _⟩ := I1.tuple hqx
      obtain ⟨its2, rv2, p2, _⟩ := I1.list hqy
      refine zip_begins2 (begins_tuple a its.toArray) (begins_list b its2.toArray) (show s1.heap.IsTuple a its.toArray from p1) p2.isList fun h' hz hTI hTO g1 g2 hsz hk => wpAny_pyIter_zip hz ?_
      have I2 : Inv X pins σ H1 { s1 with heap := h' } := I1.kept (t' := s1.toks) hk
      refine ⟨s1.heap.objs.size + 4, [s1.heap.objs.size + 4, s1.heap.objs.size + 2, s1.heap.objs.size + 3, s1.heap.objs.size, s1.heap.objs.size + 1], _, _, H1, rfl, I2, turn_zipM a b s1.heap.objs.size, ⟨hz, hTI, ⟨_, _, hTO⟩, ⟨_, g1, rfl, rfl⟩, ⟨_, g2, rfl, rfl⟩, p1.lt, p2.lt⟩, fun c hcm => ?_, q⟩
      have hle : s1.heap.objs.size ≤ c := by
        rcases (show c = s1.heap.objs.size + 4 ∨ c = s1.heap.objs.size + 2 ∨ c = s1.heap.objs.size + 3 ∨ c = s1.heap.objs.size ∨ c = s1.heap.objs.size + 1 by simpa using hcm) with z | z | z | z | z <;> rw [z]
        · exact Nat.le_add_right _ _
        · exact Nat.le_add_right _ _
        · exact Nat.le_add_right _ _
        · exact Nat.le_refl _
        · exact Nat.le_add_right _ _
      exact I1.fpOk hle (I1.hok.fresh hle)
theorem walk_zipM {K : PySem.W.Frag} {a b : Addr} {xs ys : List V} (hl : xs.length = ys.length) : Walk (ItzM K a b) xs.length (fun H => SqT K H a xs ∧ SqL K H b ys) (YPair (fun i => xs[i]?) (fun i => ys[i]?)) := by
  refine ⟨fun i _ hi q => ?_, fun _ q => ⟨xs, ys, q.1, q.2, rfl, hl.symm⟩, fun i H v H' _ q y => ?_⟩
  · have h2 : i < ys.length := by omega
    exact ⟨xs, ys, xs[i], ys[i], q.1, q.2, hl, by simp [hi], by simp [h2]⟩
  · obtain ⟨T, x, z, h1, h2, h3, h4, h5⟩ := y
    exact ⟨T, x, z, h1, h2, h3, h4 xs q.1, h5 ys q.2⟩
end K57

/-! ## KRules4 -/
namespace K57
open PySem PySem.Spec PyProof.Rows L2
/-! ### min of a list of tuples of ints: one of them -/
section
variable {prog : Program} {w : World} {A : Around} {R : Result → Shared → Prop} {it l S : Addr} {items : Array Value} {h0 : Heap}
/-- whatever stood at the call's beginning stands, every two items can be compared -/
def LtOk (prog : Program) (w : World) (A : Around) (h0 : Heap) (items : Array Value) : Prop :=
  ∀ (x y : Value) (s : Shared) (Q : Value → Shared → Prop) (E : Value → Shared → Prop), x ∈ items → y ∈ items → (∀ b o, h0.get? b = some o → s.heap.get? b = some o) → (∀ k, Q (.bool k) s) → wpAny (model prog w) A (richCompare .Lt x y) Q E s
def Best (h0 : Heap) (items : Array Value) (R : Result → Shared → Prop) (s : Shared) : Prop :=
  ∀ v h' tk, v ∈ items → (∀ b o, h0.get? b = some o → h'.get? b = some o) → R (.ok (.ret v)) { s with heap := h', toks := tk }
theorem min_turns (hh : A.handled = none) (hc : LtOk prog w A.in1 h0 items) (hl : h0.IsList l items) (hi0 : h0.get? it = none) (hS0 : h0.get? S = none) (hSi : S ≠ it) :
    ∀ (k j : Nat) (s : Shared) (vb : Value) (c : Nat), j + k = items.size → s.heap.IsListIter it l j → vb ∈ items → (∀ b o, h0.get? b = some o → s.heap.get? b = some o) →
      s.heap.get? S = some { cls := .type "list", dict := none, data := .seq #[vb, vb] c, slots := #[] } → Best h0 items R s →
      codeAny (model prog w) A (.builtin "min.loop" ⟨[.ref it, .none, .ref S], []⟩) R s := by
  have nm : (toString "min" ++ toString ".loop" : String) = "min.loop" := by decide
  have ni : ∀ b o, h0.get? b = some o → b ≠ it := fun b o e z => by rw [z, hi0] at e; cases e
  have nS : ∀ b o, h0.get? b = some o → b ≠ S := fun b o e z => by rw [z, hS0] at e; cases e
  have kl : ∀ {h : Heap}, (∀ b o, h0.get? b = some o → h.get? b = some o) → h.IsList l items := fun kp => hl.at fun o e => kp l o e
  intro k
  induction k with
  | zero =>
    intro j s vb c hj hit hvb kp hS hR
    refine codeAny_builtin PySem.F.entry_min_loop ?_
    rw [Around.under_plainId PySem.F.plain_min_loop _]
    show wpAny _ A.in1 (seqItems? (.ref S) >>= _) _ _ s
    refine wpAny_bind (wpAny_seqItems hS rfl ?_)
    show wpAny _ A.in1 (tryCatch (pyNext (.ref it)) _ >>= _) _ _ s
    refine wpAny_bind (wpAny_tryCatch (wpAny_pyNext_list_end hh hit (kl kp) (Array.getElem?_eq_none (by omega)) fun h' eb => ?_))
    have hS' : h'.get? S = _ := eb S _ hSi hS
    show wpAny _ A.in1 (updateSeq S (fun _ => #[]) >>= _) _ _ _
    refine wpAny_bind ?_
    refine wpAny_updateSeq hS' rfl (wpAny_bind (wpAny_letGo (wpAny_pure ?_)))
    exact hR vb _ _ hvb fun b o e => (Heap.get?_update_other _ _ (Ne.symm (nS b o e))).trans (eb b o (ni b o e) (kp b o e))
  | succ k ih =>
    intro j s vb c hj hit hvb kp hS hR
    have hlt : j < items.size := by omega
    refine codeAny_builtin PySem.F.entry_min_loop ?_
    rw [Around.under_plainId PySem.F.plain_min_loop _]
    show wpAny _ A.in1 (seqItems? (.ref S) >>= _) _ _ s
    refine wpAny_bind (wpAny_seqItems hS rfl ?_)
    show wpAny _ A.in1 (tryCatch (pyNext (.ref it)) _ >>= _) _ _ s
    refine wpAny_bind (wpAny_tryCatch (wpAny_pyNext_list_item hit (kl kp) (x := items[j]) (by simp [hlt]) fun h' hit' sb => ?_))
    have hv : items[j] ∈ items := Array.getElem_mem hlt
    have kp1 : ∀ b o, h0.get? b = some o → h'.get? b = some o := fun b o e => (sb.2 b (ni b o e)).trans (kp b o e)
    have hS' : h'.get? S = _ := (sb.2 S hSi).trans hS
    show wpAny _ A.in1 (tryCatch (holding [items[j], items[j]] (richCompare .Lt items[j] vb >>= _)) _ >>= _) _ _ _
    refine wpAny_bind (wpAny_tryCatch (wpAny_holding (wpAny_bind (hc _ _ _ _ _ hv hvb kp1 fun less => ?_))))
    refine wpAny_bind (wpAny_holding (wpAny_truthy_bool ?_))
    refine wpAny_bind (wpAny_letGo (wpAny_pure ?_))
    cases less with
    | true =>
      simp only [if_true]
      refine wpAny_bind ?_
      refine wpAny_updateSeq hS' rfl (wpAny_bind (wpAny_letGo ?_))
      rw [nm]
      refine wpAny_pure ⟨plainId_quiet PySem.F.plain_min_loop _, ih (j + 1) _ items[j] _ (by omega) ?_ hv (fun b o e => ?_) (Heap.get?_update_self _ hS' rfl) fun v' h'' tk'' hm kk => hR v' h'' tk'' hm kk⟩
      · exact hit'.at fun o q => (Heap.get?_update_other _ _ hSi).trans q
      · exact (Heap.get?_update_other _ _ (Ne.symm (nS b o e))).trans (kp1 b o e)
    | false =>
      simp only [Bool.false_eq_true, if_false]
      refine wpAny_bind (wpAny_letGo ?_)
      rw [nm]
      exact wpAny_pure ⟨plainId_quiet PySem.F.plain_min_loop _, ih (j + 1) _ vb c (by omega) hit' hvb kp1 hS' fun v' h'' tk'' hm kk => hR v' h'' tk'' hm kk⟩
theorem call_min_any {E : Value → Shared → Prop} {s : Shared} {Q : Value → Shared → Prop} (hh : A.handled = none) (hl : s.heap.IsList l items) (hne : 0 < items.size) (hc : LtOk prog w A.in1 s.heap items)
    (h : ∀ v h' tk, v ∈ items → (∀ b o, s.heap.get? b = some o → h'.get? b = some o) → Q v { s with heap := h', toks := tk }) :
    wpAny (model prog w) A (call (.builtin "min") [.ref l]) Q E s := by
  have nm : (toString "min" ++ toString ".loop" : String) = "min.loop" := by decide
  refine call_function_tree PySem.F.kind_min PySem.F.plain_min PySem.F.entry_min (PySem.F.args_min1 _) ?_
  show wpAny _ A.in1 (Builtin.Builtins.bindParams "min" ["key", "default"] 0 ⟨[], []⟩ >>= _) _ _ s
  refine wpAny_bind (wpAny_of_eq (show Builtin.Builtins.bindParams "min" ["key", "default"] 0 ⟨[], []⟩ = pure [none, none] from rfl) ?_)
  refine wpAny_bind (wpAny_pure ?_)
  refine wpAny_bind (wpAny_pyIter_list hl ?_)
  refine wpAny_bind (wpAny_newObj_type ?_)
  rw [nm]
  generalize hp : s.heap.push { cls := .type "list_iterator", data := .fields #[.ref l, .int 0 0] } = hA
  have k1 : ∀ b o, s.heap.get? b = some o → hA.get? b = some o := fun b o e => by rw [← hp]; exact Heap.get?_push_of_some _ e
  have zA : hA.objs.size = s.heap.objs.size + 1 := by rw [← hp]; exact Heap.size_push ..
  have hitA : hA.IsListIter s.heap.objs.size l 0 := ⟨_, by rw [← hp]; exact Heap.get?_push_size _ rfl, rfl, rfl⟩
  refine wpAny_pure ⟨plainId_quiet PySem.F.plain_min_loop _, ?_⟩
  have hi0 : s.heap.get? s.heap.objs.size = none := Heap.get?_none_of_le (Nat.le_refl _)
  have hS0 : s.heap.get? hA.objs.size = none := Heap.get?_none_of_le (by rw [zA]; exact Nat.le_succ _)
  have hSi : hA.objs.size ≠ s.heap.objs.size := by rw [zA]; exact Nat.succ_ne_self _
  have ni : ∀ b o, s.heap.get? b = some o → b ≠ s.heap.objs.size := fun b o e z => by rw [z, hi0] at e; cases e
  have nS : ∀ b o, s.heap.get? b = some o → b ≠ hA.objs.size := fun b o e z => by rw [z, hS0] at e; cases e
  have hSB : (hA.push { cls := .type "list", data := .seq #[] }).get? hA.objs.size = some { cls := .type "list", dict := none, data := .seq #[] 0, slots := #[] } := Heap.get?_push_size _ rfl
  have hitB : (hA.push { cls := .type "list", data := .seq #[] }).IsListIter s.heap.objs.size l 0 := hitA.at fun o e => Heap.get?_push_of_some _ e
  have kB : ∀ b o, s.heap.get? b = some o → (hA.push { cls := .type "list", data := .seq #[] }).get? b = some o := fun b o e => Heap.get?_push_of_some _ (k1 b o e)
  refine codeAny_builtin PySem.F.entry_min_loop ?_
  rw [Around.under_plainId PySem.F.plain_min_loop _]
  show wpAny _ A.in1 (seqItems? (.ref hA.objs.size) >>= _) _ _ _
  refine wpAny_bind (wpAny_seqItems hSB rfl ?_)
  show wpAny _ A.in1 (tryCatch (pyNext (.ref s.heap.objs.size)) _ >>= _) _ _ _
  refine wpAny_bind (wpAny_tryCatch (wpAny_pyNext_list_item hitB (hl.at fun o e => kB l o e) (x := items[0]) (by simp [hne]) fun h' hit' sb => ?_))
  have hv : items[0] ∈ items := Array.getElem_mem hne
  have hS' : h'.get? hA.objs.size = _ := (sb.2 _ hSi).trans hSB
  show wpAny _ A.in1 (updateSeq hA.objs.size (fun _ => #[items[0], items[0]]) >>= _) _ _ _
  refine wpAny_bind ?_
  refine wpAny_updateSeq hS' rfl ?_
  rw [nm]
  refine wpAny_pure ⟨plainId_quiet PySem.F.plain_min_loop _, min_turns (A := A) (h0 := s.heap) hh hc hl hi0 hS0 hSi (items.size - 1) 1 _ items[0] _ (by omega) ?_ hv (fun b o e => ?_) (Heap.get?_update_self _ hS' rfl) fun v h'' tk hm kk => h v h'' tk hm kk⟩
  · exact hit'.at fun o q => (Heap.get?_update_other _ _ hSi).trans q
  · exact (Heap.get?_update_other _ _ (Ne.symm (nS b o e))).trans ((sb.2 b (ni b o e)).trans (kB b o e))
end
section
variable {X : Cx}
def rMinT (K : PySem.W.Frag) : List V → Hp → VK → Prop := fun vs H Q => ∃ (a : Addr) (xs : List V), vs = [.ref a] ∧ SqL K H a xs ∧ xs ≠ [] ∧ (∀ x ∈ xs, ∃ (b : Addr) (ns : List Int), x = .ref b ∧ SqT K H b (ns.map V.int)) ∧ ∀ x ∈ xs, Q x H
theorem vals_mem : ∀ {xs : List V} {us : List Value} {u : Value}, Vals xs us → u ∈ us → ∃ x ∈ xs, RelV x u
  | _, _, _, .nil, h => by simp at h
  | _, _, u, .cons r t, h => by
    rcases List.mem_cons.mp h with e | h
    · exact ⟨_, List.mem_cons_self, e ▸ r⟩
    · obtain ⟨x, hx, q⟩ := vals_mem t h
      exact ⟨x, List.mem_cons_of_mem _ hx, q⟩
theorem tup_at {h h' : Heap} {a : Addr} {its : Array Value} (p : IsTup h a its) (k : ∀ o, h.get? a = some o → h'.get? a = some o) : IsTup h' a its := let ⟨o, ho, r⟩ := p; ⟨o, k o ho, r⟩
theorem cr_minT (hc : X.calm = true) (hu : X.A.units + 1 < cLine) : CallR X (.builtin "min") (rMinT X.K) := by
  intro pins s σ H vs us Q I r h
  obtain ⟨a, xs, rfl, ha, hne, hall, q⟩ := h
  obtain ⟨u, rfl, ru⟩ := vals1 r
  cases ru
  obtain ⟨its, rv, p, hz⟩ := I.list ha
  have hl := rv.length
  have hpos : 0 < its.toArray.size := by
    rw [List.size_toArray, ← hl]
    exact List.length_pos_iff.mpr hne
  refine call_min_any (A := X.A) (I.ok.hd hc) p.isList hpos (fun x y s' Q' E' hx hy kp hq => ?_) fun v h' tk hv hk => ?_
  · obtain ⟨x', hx', rx⟩ := vals_mem rv (by simpa using hx)
    obtain ⟨y', hy', ry⟩ := vals_mem rv (by simpa using hy)
    obtain ⟨b, ns, rfl, hb⟩ := hall x' hx'
    obtain ⟨c, ms, rfl, hcc⟩ := hall y' hy'
    cases rx
    cases ry
    obtain ⟨i1, r1, p1, _⟩ := I.tuple hb
    obtain ⟨i2, r2, p2, _⟩ := I.tuple hcc
    exact HT.lt_tupInts (A := X.A.in1) (tup_at p1 fun o e => kp b o e) (tup_at p2 fun o e => kp c o e) (intsAre_of r1) (intsAre_of r2) hu (hq _)
  · obtain ⟨x, hx, rx⟩ := vals_mem rv (by simpa using hv)
    exact ⟨x, H, I.kept (t' := tk) hk, rx, q x hx⟩
end
end K57

/-! ## KRules5 -/
namespace K57
open PySem PySem.Spec PyProof.Rows L2
/-! ### {key: value for x in a list}, the keys tuples of ints and texts -/
theorem put_dT {X : Cx} {pins : List (Addr × Obj)} {σ : L2.St} {H : Hp} {s : Shared} {A : Around} {E : Value → Shared → Prop} {D b : Addr} {kvs : List (List Key × V)} {k : List Key} {v : V} {r : Value} {Q : Unit → Shared → Prop}
    (hu : A.units < cLine) (I : Inv X pins σ H s) (e : H D = some (.dT kvs)) (eb : H b = some (.tup (k.map kV))) (l : kvs.length < sizeLine) (rv : RelV v r)
    (h : ∀ s', Inv X pins σ (upd H D (.dT (putK kvs k v))) s' → Q () s') : wpAny (model X.prog X.w) A (dictSet D (.ref b) r) Q E s := by
  obtain ⟨z, hd, xs, rel, dd⟩ := dt_of I.hok e
  have hl := length_putK kvs k v
  refine wpAny_dictSet_heap (hsz := by rw [← Paired.length rel]; exact z) hu (key_of I.hok eb) dd fun h' dd' hs => h _ ?_
  obtain ⟨q, es, ep, hq, h2, h3, h4, _, h5⟩ := dd'
  have kt := (rel.put k eb rv).keeps (H' := upd H D (.dT (putK kvs k v))) fun c ys ec => (upd_ne (ne_of ec e fun z => nomatch z)).trans ec
  exact d_write I (by rw [e]; trivial) hs ⟨q, hq⟩ ⟨by omega, hd, _, kt, q, es, ep, hq, h2, h3, h4, h5⟩
section
variable {X : Cx}
def tDcL (K : PySem.W.Frag) (tl : TE) (i : Nat) (tk tv : TE) (vs : List Nat) : TE := fun σ H Q => tl σ H fun y H1 => ∃ (a : Addr) (xs : List V), y = .ref a ∧ SqL K H1 a xs ∧ ∀ D, H1 D = none → ∃ Pv : Nat → Hp → Prop, Pv 0 (upd H1 D (.dT [])) ∧ (∀ j H, Pv j H → SqL K H a xs) ∧
  (∀ (j : Nat) (x : V) (H : Hp), xs[j]? = some x → Pv j H → wipe ((wipe σ vs).set i (some x)) vs = wipe σ vs ∧ tk ((wipe σ vs).set i (some x)) H fun y H2 => tv ((wipe σ vs).set i (some x)) H2 fun z H3 =>
    ∃ (kvs : List (List Key × V)) (k : List Key) (c : Addr), y = .ref c ∧ H3 c = some (.tup (k.map kV)) ∧ H3 D = some (.dT kvs) ∧ kvs.length < sizeLine ∧ Pv (j + 1) (upd H3 D (.dT (putK kvs k z)))) ∧
  ∀ H, Pv xs.length H → Q (.ref D) H
theorem dcL_core {pins : List (Addr × Obj)} {s : Shared} {σ : L2.St} {H : Hp} {Q : VK} {kx vx iter : Expr} {x : Str} {px pos pos' : Pos} {scope : Scope} {own : List (Str × Nat)} {tl tk tv : TE} {i : Nat} {use : Option (Value → Sem Unit)} {Qf : Value → Shared → Prop}
    (hu : X.A.units < cLine) (hc : X.calm = true) (hN : X.N.Nodup) (I : Inv X pins σ H s) (hl : PE X iter tl) (ok : BlkOk X.N X.env.scope scope own)
    (hg : ∀ (s : Shared) (H : Hp) (C : Addr) (cl : List (Str × Addr)) (fp : List Addr), PG (X.blk s H scope (compEnvC scope cl C X.env) fp) (.Name x px) (gName i))
    (hk : ∀ (s : Shared) (H : Hp) (C : Addr) (cl : List (Str × Addr)) (fp : List Addr), PE (X.blk s H scope (compEnvC scope cl C X.env) fp) kx tk)
    (hv : ∀ (s : Shared) (H : Hp) (C : Addr) (cl : List (Str × Addr)) (fp : List Addr), PE (X.blk s H scope (compEnvC scope cl C X.env) fp) vx tv) (hs : ∀ x, foldedSetIterable iter X.env x = pure x) (h : tDcL X.K tl i tk tv (own.map (·.2)) σ H Q)
    (out : ∀ D C s' m H', Inv X pins σ H' s' → Q (.ref D) H' → s'.heap.Ns C m → FpOk X pins H' C → compPost (model X.prog X.w) X.A X.xe use Qf (.ref D) C (.ok .next) s') :
    wpAny (model X.prog X.w) X.A (comprehension (.DictComp kx vx [⟨.Name x px, iter, [], 0⟩] scope pos) scope X.env pos' newDict false (eval iter X.env) use) Qf X.xe s := by
  have free : ∀ y ∈ scope.names, y.2 = .free → ∃ c, X.env.cells.lookup y.1 = some c := fun y hy e => (ok.free y hy e).elim (fun k => I.ok.has _ (.inl k)) fun k => I.ok.has _ (.inr k)
  refine wpAny_comprehension_free (use := use) rfl hs (closure_ok free) ok.kind (fun y hy e => by rw [ok.uniq y hy, e]) (thn (hl.run pins s σ H _ I h) fun xv s1 ⟨y, H1, I1, r1, a, xs, ey, hx, begin0⟩ => ?_)
  subst ey
  obtain rfl : xv = Value.ref a := r1
  obtain ⟨its, rv, pl, _⟩ := I1.list hx
  refine wpAny_pyIter_list pl.isList ?_
  -- the iterator at it, the dict at D
  generalize hit : s1.heap.objs.size = it
  generalize hs2 : ({ s1 with heap := s1.heap.push { cls := .type "list_iterator", data := .fields #[.ref a, .int 0 0] } } : Shared) = s2
  have I2 : Inv X pins σ H1 s2 := by
    rw [← hs2]
    exact I1.kept (t' := s1.toks) fun b o e => Heap.get?_push_of_some _ e
  have st2 : s2.heap.IsListIter it a 0 := by
    rw [← hs2, ← hit]
    exact ⟨_, Heap.get?_push_size _ rfl, rfl, rfl⟩
  have f2 : FpOk X pins H1 it := I1.fpOk (Nat.le_of_eq hit) (I1.hok.fresh (Nat.le_of_eq hit))
  have lt2 : it < s2.heap.objs.size := by obtain ⟨_, e, _⟩ := st2; exact Heap.lt_size e
  refine wpAny_newObj_type (newEnv_comp ?_)
  generalize hD : s2.heap.objs.size = D
  have hDn : H1 D = none := I2.hok.fresh (Nat.le_of_eq hD)
  have hDi : it ≠ D := by rw [← hD]; exact Nat.ne_of_lt lt2
  obtain ⟨Pv, p0, stays, turn, fin⟩ := begin0 D hDn
  generalize hs3 : ({ s2 with heap := s2.heap.push { cls := .type "dict", data := .dict #[] } } : Shared) = s3
  have h3 : s3.heap = s2.heap.push { cls := .type "dict", data := .dict #[] } := by rw [← hs3]
  have I3 : Inv X pins σ (upd H1 D (.dT [])) s3 := by
    rw [← hs3]
    refine I2.laid (t' := s2.toks) (fun b o e => Heap.get?_push_of_some _ e) (Nat.le_of_eq hD) ?_
    rw [← hD]
    exact dt_empty s2.heap I2.big
  have f3 : FpOk X pins (upd H1 D (.dT [])) it := ⟨(upd_ne hDi).trans f2.1, f2.2⟩
  have lt3 : it < s3.heap.objs.size := by rw [h3, Heap.size_push]; exact Nat.lt_succ_of_lt lt2
  have I4 := block_start I3 ok hN (fp := [it]) fun b hb => by rw [List.mem_singleton.mp hb]; exact ⟨f3, lt3⟩
  have pg := hg s3 (upd H1 D (.dT [])) s3.heap.objs.size (cellsFrom (s3.heap.objs.size + 1) scope.names (cloFrom X.env.cells scope.names [])) [it]
  have pk := hk s3 (upd H1 D (.dT [])) s3.heap.objs.size (cellsFrom (s3.heap.objs.size + 1) scope.names (cloFrom X.env.cells scope.names [])) [it]
  have pv := hv s3 (upd H1 D (.dT [])) s3.heap.objs.size (cellsFrom (s3.heap.objs.size + 1) scope.names (cloFrom X.env.cells scope.names [])) [it]
  show codeAny _ _ (.compStart (.DictComp kx vx [⟨.Name x px, iter, [], 0⟩] scope pos) 0 (.ref it) (.ref D) (compEnvC scope (cellsFrom (s3.heap.objs.size + 1) scope.names (cloFrom X.env.cells scope.names [])) s3.heap.objs.size X.env)) (compPost (model X.prog X.w) X.A X.xe use Qf (.ref D) s3.heap.objs.size) { s3 with heap := pushCells (s3.heap.push { cls := .type "dict", data := .dict #[] }) scope.names }
  generalize hce : compEnvC scope (cellsFrom (s3.heap.objs.size + 1) scope.names (cloFrom X.env.cells scope.names [])) s3.heap.objs.size X.env = ce at I4 pg pk pv ⊢
  have cL : ce.locals = s3.heap.objs.size := by rw [← hce]; rfl
  generalize hs4 : ({ s3 with heap := pushCells (s3.heap.push { cls := .type "dict", data := .dict #[] }) scope.names } : Shared) = s4 at I4 ⊢
  have st4 : s4.heap.IsListIter it a 0 := by
    refine st2.at fun o e => ?_
    rw [← hs4]
    exact pushCells_keeps _ _ _ _ (Heap.get?_push_of_some _ (by rw [h3]; exact Heap.get?_push_of_some _ e))
  have T := turn_list (P := X.prog) (w := X.w) (K := X.K) (tg := .Name x px) a it
  have fpOk : ∀ {σ' : L2.St} {H' : Hp} {s' : Shared}, Inv (X.blk s3 (upd H1 D (.dT [])) scope ce [it]) [] σ' H' s' → H' it = none → ∀ b ∈ [it], FpOk (X.blk s3 (upd H1 D (.dT [])) scope ce [it]) [] H' b := fun {σ' H' s'} J hn b hb => by
    rw [List.mem_singleton.mp hb]
    have m : it ∈ [it] := List.mem_singleton.mpr rfl
    exact ⟨hn, (J.ok.exf it m).1, J.ok.exfs it m, .inl m, (J.ok.exf it m).2, fun p hp => by simp at hp⟩
  have loop : codeAny (model X.prog X.w) X.A (.compLoop (.DictComp kx vx [⟨.Name x px, iter, [], 0⟩] scope pos) 0 (.ref it) (.ref D) ce) (compPost (model X.prog X.w) X.A X.xe use Qf (.ref D) s3.heap.objs.size) s4 := by
    refine compLoop_anyD (fun n s' => ∃ j H', n = xs.length - j ∧ j ≤ xs.length ∧ Inv (X.blk s3 (upd H1 D (.dT [])) scope ce [it]) [] (wipe σ (own.map (·.2))) H' s' ∧ s'.heap.IsListIter it a j ∧ H' it = none ∧ Pv j H') ?_ xs.length ⟨0, _, rfl, Nat.zero_le _, I4, st4, f3.1, p0⟩
    rintro n s5 ⟨j, H5, en, hj, I5, st5, n5, p5⟩
    have hx5 := stays j H5 p5
    by_cases hlt : j < xs.length
    · refine thnF (T.item (X.blk s3 (upd H1 D (.dT [])) scope ce [it]) rfl rfl rfl hc j [] s5 _ H5 (fun _ _ => False) I5 (fpOk I5 n5) st5 ⟨xs, xs[j], hx5, List.getElem?_eq_getElem hlt⟩) fun r s6 ⟨u, hr, h6⟩ => ?_
      subst hr
      refine thnF h6 fun _ s7 ⟨z, H7, I7, r7, ⟨e7, y7⟩, st7, n7⟩ => ?_
      subst e7
      have I7' := I7.pinned (fpOk I7 (n7 it (List.mem_singleton.mpr rfl))) (T.obj _ _ st7)
      obtain ⟨hw, q7⟩ := turn j z H7 (y7 xs hx5) p5
      refine thnF (pg.run _ s7 _ H7 z u (fun σ' H' => σ' = (wipe σ (own.map (·.2))).set i (some z) ∧ H' = H7) I7' r7 ⟨rfl, rfl⟩) fun _ s8 ⟨σ8, H8, I8, e8, e8'⟩ => ?_
      subst e8 e8'
      refine wpAny_tests_nil ?_
      show wpAny _ _ _ _ _ _
      refine thnF (pk.run _ s8 _ H8 _ I8 q7) fun kv s10 ⟨yk, H10, I10, r10, q10⟩ => ?_
      refine thnF (pv.run _ s10 _ H10 _ I10 q10) fun vv s11 ⟨yv, H11, I11, r11, kvs, k, c, ek, ec, eD, hz, nx⟩ => ?_
      subst ek
      obtain rfl : kv = Value.ref c := r10
      refine put_dT (X := X.blk s3 (upd H1 D (.dT [])) scope ce [it]) hu I11 eD ec hz r11 fun s12 I12 => ?_
      obtain ⟨oi, ei, di⟩ := T.obj _ _ st7 it (List.mem_singleton.mpr rfl)
      have pin := I12.pin (it, oi) (List.mem_append_right _ (List.mem_append_right _ (mem_pinsAt (List.mem_singleton.mpr rfl) ei)))
      refine ⟨xs.length - (j + 1), by omega, j + 1, _, rfl, hlt, (I12.unpinned (pins := [])).weak (by rw [List.length_set]) (fun m v e => ?_), st7.at fun o e => ?_, pin.2.1, nx⟩
      · rw [← hw] at e
        exact (wipe_some e).1
      · rw [ei] at e
        cases e
        exact pin.1
    · have ej : j = xs.length := by omega
      subst ej
      refine thnF (T.done (X.blk s3 (upd H1 D (.dT [])) scope ce [it]) rfl rfl rfl hc xs.length [] s5 _ H5 (fun _ _ => False) I5 (fpOk I5 n5) st5 ⟨xs, hx5, Nat.le_refl _⟩) fun r s6 ⟨hr, I6⟩ => ?_
      subst hr
      have I7 : Inv X pins σ H5 s6 := I3.call' (ch := [it]) I6.os I6.base I6.hok I6.bare fun b hb => by
        rw [List.mem_singleton.mp hb]
        exact ⟨f3.2.2.2.1, f3.2.1, f3.2.2.2.2.1, f3.2.2.2.2.2⟩
      have nC : H5 s3.heap.objs.size = none := by rw [← cL]; exact I6.free
      obtain ⟨m, hn, _⟩ := I6.loc
      have hn : s6.heap.Ns ce.locals m := hn
      rw [cL] at hn
      exact out D s3.heap.objs.size s6 m H5 I7 (fin H5 p5) hn (I3.fpOk (Nat.le_refl _) nC)
  exact codeAny_compStart_dict loop (T.self X.A 0 _ _ _ st4 loop)
theorem pe_dcL {kx vx iter : Expr} {x : Str} {px pos : Pos} {scope : Scope} {own : List (Str × Nat)} {tl tk tv : TE} {i : Nat} (hu : X.A.units < cLine) (hc : X.calm = true) (hN : X.N.Nodup) (hl : PE X iter tl) (ok : BlkOk X.N X.env.scope scope own)
    (hg : ∀ (s : Shared) (H : Hp) (C : Addr) (cl : List (Str × Addr)) (fp : List Addr), PG (X.blk s H scope (compEnvC scope cl C X.env) fp) (.Name x px) (gName i))
    (hk : ∀ (s : Shared) (H : Hp) (C : Addr) (cl : List (Str × Addr)) (fp : List Addr), PE (X.blk s H scope (compEnvC scope cl C X.env) fp) kx tk)
    (hv : ∀ (s : Shared) (H : Hp) (C : Addr) (cl : List (Str × Addr)) (fp : List Addr), PE (X.blk s H scope (compEnvC scope cl C X.env) fp) vx tv) (hs : ∀ x, foldedSetIterable iter X.env x = pure x := by intro _; rfl) :
    PE X (.DictComp kx vx [⟨.Name x px, iter, [], 0⟩] scope pos) (tDcL X.K tl i tk tv (own.map (·.2))) := by
  refine ⟨fun pins s σ H Q I h => ?_⟩
  rw [arm_eval_DictComp]
  refine dcL_core hu hc hN I hl ok hg hk hv hs h fun D C s' m H' J q hn f => ⟨m, hn, fun h'' sb => ?_⟩
  obtain ⟨g0, g1, g2, g3, g4, g5⟩ := f
  exact ⟨.ref D, H', J.turned (t' := s'.toks) (fun b o hb e => (sb.2 b hb).trans e) g0 g1 g3 g4 g5, rfl, q⟩
/-- y = {key: value for x in a list}, y a plain local name on the same line: stored within the comprehension's frame -/
theorem ps_setDcL {j : Nat} {y : Str} {py spos : Pos} {kx vx iter : Expr} {x : Str} {px pos : Pos} {scope : Scope} {own : List (Str × Nat)} {tl tk tv : TE} {i : Nat} (hu : X.A.units < cLine) (hc : X.calm = true) (hN : X.N.Nodup) (hy : X.N[j]? = some y) (hyl : X.env.scope.names.lookup y = some .local)
    (hsw : swapsWith (.DictComp kx vx [⟨.Name x px, iter, [], 0⟩] scope pos) (some (.Name y py)) spos.line X.env = pure true) (hl : PE X iter tl) (ok : BlkOk X.N X.env.scope scope own)
    (hg : ∀ (s : Shared) (H : Hp) (C : Addr) (cl : List (Str × Addr)) (fp : List Addr), PG (X.blk s H scope (compEnvC scope cl C X.env) fp) (.Name x px) (gName i))
    (hk : ∀ (s : Shared) (H : Hp) (C : Addr) (cl : List (Str × Addr)) (fp : List Addr), PE (X.blk s H scope (compEnvC scope cl C X.env) fp) kx tk)
    (hv : ∀ (s : Shared) (H : Hp) (C : Addr) (cl : List (Str × Addr)) (fp : List Addr), PE (X.blk s H scope (compEnvC scope cl C X.env) fp) vx tv) (hs : ∀ x, foldedSetIterable iter X.env x = pure x := by intro _; rfl) :
    PS X (.Assign [.Name y py] (.DictComp kx vx [⟨.Name x px, iter, [], 0⟩] scope pos) spos) (tAsg (tDcL X.K tl i tk tv (own.map (·.2))) (gName j)) := by
  refine ⟨fun pins s σ H D I h => ?_⟩
  rw [exec_Assign_Name_used _ _ _ _ hsw]
  refine wpAny_bind (wpAny_standAt (wpAny_bind ?_))
  show wpAny _ X.A (do let _ ← comprehension (.DictComp kx vx [⟨.Name x px, iter, [], 0⟩] scope pos) scope X.env (firstIterPos [⟨.Name x px, iter, [], 0⟩] pos) newDict false (eval iter X.env) (some (assign (.Name y py) X.env))) _ _ s
  refine wpAny_bind (thn (dcL_core (Qf := fun _ s' => SP X pins D .next s') hu hc hN I hl ok hg hk hv hs (show tDcL X.K tl i tk tv (own.map (·.2)) σ H (fun z H1 => gName j z σ H1 D.nx) from h) fun L C s' m H' J q hn f => ?_) fun _ s' hq => wpAny_pure (wpAny_pure hq))
  show wpAny _ _ (assign (.Name y py) X.env (.ref L)) _ _ _
  refine wpAny_assign_Name (store_ok2 (v := V.ref L) J hN hy (.inl hyl) rfl (fun s2 J2 ⟨a, sb, ha⟩ => ?_) (.inr hyl))
  obtain ⟨g0, g1, g2, g3, g4, g5⟩ := f
  have haC : C ≠ a := ha.elim (fun z => by rw [z]; exact g1) fun z e => g4 y a z e.symm
  exact ⟨m, hn.sameBut sb haC, fun h3 sb3 => ⟨_, H', J2.turned (t' := s2.toks) (fun b o hb e => (sb3.2 b hb).trans e) g0 g1 g3 g4 g5, q⟩⟩
end
end K57

/-! ## KRules6 -/
namespace K57
open PySem PySem.Spec PyProof.Rows L2
/-! ### d.items(), the keys tuples -/
section
variable {X : Cx} {pins : List (Addr × Obj)} {σ : L2.St} {H : Hp} {s : Shared} {d : Addr} {o : Obj}
theorem frzT_all {kvs : List (List Key × V)} (I : Inv X pins σ H s) (h : H d = some (.frz o (.dT kvs))) :
    (d == sysModules) = false ∧ ∃ (es : Array DictEntry) (ep : Nat), o.data = .dict es ep ∧ s.heap.DictRaw d es ep ∧ es.size = kvs.length ∧
      ∀ (i : Nat) (k : List Key) (v : V), kvs[i]? = some (k, v) → ∃ (en : DictEntry) (q : Addr), es[i]? = some en ∧ en.key = .ref q ∧ H q = some (.tup (k.map kV)) ∧ RelV v en.val := by
  obtain ⟨hd, z, hs, xs, pr, o', es, ep, ho, hx, hdt, he, _⟩ := I.hok d _ h
  rw [hd] at ho
  cases ho
  refine ⟨hs, es, ep, hdt, ⟨o, hd, hx, hdt⟩, ?_, fun i k v e => ?_⟩
  · have l1 : es.size = xs.length := size_of_entries he
    have l2 : kvs.length = xs.length := Paired.length pr
    omega
  · obtain ⟨b, hb, e1, e2, e3⟩ := paired_get pr e
    have q := entry_at he i
    rw [hb] at q
    exact ⟨_, b.2.1, q, rfl, e2, e3⟩
end
def ItiT (d : Addr) (o : Obj) (kvs : List (List Key × V)) : It where
  go := fun i H => H d = some (.frz o (.dT kvs)) ∧ i < kvs.length
  yld := fun i H x H' => ∃ (T q : Addr) (k : List Key) (v : V), kvs[i]? = some (k, v) ∧ x = .ref T ∧ H T = none ∧ H q = some (.tup (k.map kV)) ∧ H' = upd H T (.tup [.ref q, v])
  stop := fun i H => H d = some (.frz o (.dT kvs)) ∧ kvs.length ≤ i
theorem turn_itemsT {P : Program} {w : World} {K : PySem.W.Frag} {d : Addr} {o : Obj} {es : Array DictEntry} {ep : Nat} {kvs : List (List Key × V)} {elts : List Expr} {kk : Nat} {tpos : Pos} (it : Addr) (hod : o.data = .dict es ep) :
    Turn P w K (.Tuple elts kk tpos) (ItiT d o kvs) [it] it (fun i h => ∃ ok ov, IsItemIter h it d i kvs.length ep ok ov) := by
  refine ⟨by simp, fun i h st b hb => ?_, fun i h h' st k => ?_, ?_, ?_, fun A i s Q E st h => ?_⟩
  · rw [List.mem_singleton.mp hb]
    obtain ⟨ok, ov, e⟩ := st
    exact ⟨_, e, fun v z => nomatch z⟩
  · obtain ⟨ok, ov, e⟩ := st
    exact ⟨ok, ov, k it (by simp) _ e⟩
  · intro X hP hw hK hc i pins s σ H E I hf st hg
    subst hP hw hK
    obtain ⟨hd, hi⟩ := hg
    obtain ⟨hs, es', ep', hdt, hm, hsz, ent⟩ := frzT_all I hd
    obtain ⟨rfl, rfl⟩ := dict_ep hod hdt
    obtain ⟨⟨k, v⟩, hkv⟩ : ∃ p, kvs[i]? = some p := ⟨kvs[i], List.getElem?_eq_getElem hi⟩
    obtain ⟨en, q, hen, hkey, hq, hval⟩ := ent i k v hkv
    obtain ⟨ok, ov, he⟩ := st
    rw [← hsz] at he
    have hlt : it < s.heap.objs.size := Heap.lt_size he
    have hi' : i < es'.size := by omega
    have een : es'[i] = en := by
      rw [Array.getElem?_eq_getElem hi'] at hen
      exact Option.some.inj hen
    refine wpAny_pyNext_items_item_raw he hm hi' fun h' ho hT hz hk => ?_
    rw [een, hkey] at ho hT
    refine ⟨_, rfl, wpAny_letOwnedTupleGo_items (s := { s with heap := h' }) ho fun h'' he' sb => ?_⟩
    have hT2 : h''.get? s.heap.objs.size = some { cls := .type "tuple", data := .seq #[.ref q, en.val] } := (sb.2 _ (Nat.ne_of_gt hlt)).trans hT
    have new : ObjOk X.prog X.w (upd H s.heap.objs.size (.tup [.ref q, v])) h'' s.heap.objs.size (.tup [.ref q, v]) :=
      ⟨by show 2 ≤ sizeLine; decide, [.ref q, en.val], .cons rfl (.cons hval .nil), ⟨_, hT2, rfl, _, rfl⟩⟩
    have I1 : Inv X pins σ (upd H s.heap.objs.size (.tup [.ref q, v])) { s with heap := h'' } :=
      I.turnedNew (t' := s.toks) (ch := [it]) (fun b ob hb e => (sb.2 b (by simpa using hb)).trans (hk b ob (by simpa using hb) e)) hf (Nat.le_refl _) new
    refine ⟨.ref s.heap.objs.size, _, I1, rfl, ⟨_, q, k, v, hkv, rfl, I.hok.fresh (Nat.le_refl _), hq, rfl⟩, ⟨.ref q, en.val, ?_⟩, fun b hb => ?_⟩
    · rw [← hsz]
      exact he'
    · rw [List.mem_singleton.mp hb, upd_ne (Nat.ne_of_lt hlt)]
      exact (hf it (by simp)).1
  · intro X hP hw hK hc i pins s σ H E I hf st hg
    subst hP hw hK
    obtain ⟨hd, hi⟩ := hg
    obtain ⟨f0, f1, f2, f3, f4, f5⟩ := hf it (by simp)
    obtain ⟨hs, es', ep', hdt, hm, hsz, ent⟩ := frzT_all I hd
    obtain ⟨rfl, rfl⟩ := dict_ep hod hdt
    obtain ⟨ok, ov, he⟩ := st
    rw [← hsz] at he
    exact wpAny_pyNext_items_end_raw (I.ok.hd hc) he hm (by omega) fun h' eb => ⟨rfl, I.turned (t' := s.toks) (fun b o hb e => eb b o hb e) f0 f1 f3 f4 f5⟩
  · obtain ⟨_, _, e⟩ := st
    exact PySem.W.kcp_self e h
section
variable {X : Cx} {tg e : Expr} {td : TE} {apos cpos : Pos}
def iItemsT (td : TE) : TI := fun σ H R => td σ H fun x H1 => ∃ d o kvs, x = .ref d ∧ H1 d = some (.frz o (.dT kvs)) ∧ R (ItiT d o kvs) H1
theorem pi_itemsT {elts : List Expr} {kk : Nat} {tpos : Pos} (he : PE X e td) (hbase : attributeBase e "items" X.env (eval e X.env) = eval e X.env := by rfl) (hline : (apos.endLine == cpos.line) = true := by rfl) :
    PI X (.Tuple elts kk tpos) (.Call (.Attribute e "items" apos) [] [] cpos) (iItemsT td) := by
  refine ⟨fun pins s σ H R I h => ?_⟩
  refine wpAny_Call_method (T := "dict") (id := "dict.items") hbase rfl hline PySem.F.plainAttrs_dict PySem.F.slot_dict_items PySem.F.type_dict_items (thn (he.run pins s σ H _ I h) fun u s1 ⟨x, H1, I1, rx, d, o, kvs, ex, hd, q⟩ => ?_)
  subst ex
  obtain rfl : u = Value.ref d := rx
  obtain ⟨hs, es, ep, hdt, hm, hsz, ent⟩ := frzT_all I1 hd
  refine ⟨hm.typeIs, ?_, ?_⟩
  · obtain ⟨ob, hob, hex, _⟩ := id hm
    exact fun a e => by cases e; exact ⟨ob, hob, hex.2.1⟩
  have I2 : Inv X pins σ H1 { s1 with heap := s1.heap.push { cls := .type "dict_items", data := .fields #[.ref d] } } := I1.kept (t' := s1.toks) fun b ob q => Heap.get?_push_of_some _ q
  have fin : wpAny (model X.prog X.w) X.A (pyIter (.ref s1.heap.objs.size)) (PIE X pins σ (.Tuple elts kk tpos) R) X.xe { s1 with heap := s1.heap.push { cls := .type "dict_items", data := .fields #[.ref d] } } := by
    refine wpAny_pyIter_items_raw (d := d) ⟨_, Heap.get?_push_size _ rfl, rfl, rfl⟩ (hm.at fun o e => Heap.get?_push_of_some _ e) (pi_one (tk := s1.toks) I2 _ (turn_itemsT _ hdt) ⟨.none, .none, ?_⟩ q)
    rw [← hsz]
    exact Heap.get?_push_size _ rfl
  show wpAny _ _ (callWith cpos (.builtin "dict.items") [.ref d] [] []) _ X.xe s1
  exact method_meetsIn PySem.F.slot_dict_items PySem.F.entry_dict_items rfl (PySem.evalArgs_none ⟨rfl, hm.typeIs, PySem.F.args_dict_items_1 _, _, meets_dict_items_raw d hs, ⟨_, _, hm⟩, fin⟩)
end
theorem walk_itemsT {d : Addr} {o : Obj} {kvs : List (List Key × V)} : Walk (ItiT d o kvs) kvs.length (fun H => H d = some (.frz o (.dT kvs)))
    (fun i H x H' => ∃ (T q : Addr) (k : List Key) (v : V), kvs[i]? = some (k, v) ∧ x = .ref T ∧ H T = none ∧ H q = some (.tup (k.map kV)) ∧ H' = upd H T (.tup [.ref q, v])) :=
  ⟨fun _ _ hi q => ⟨q, hi⟩, fun _ q => ⟨q, Nat.le_refl _⟩, fun _ _ _ _ _ _ y => y⟩
end K57

/-! ## KRules7 -/
namespace K57
open PySem PySem.Spec PyProof.Rows L2
/-! ### tuples that are told with their whole object: a method may be called on them -/
def RowV (H : Hp) (r : Addr) (xs : List V) : Prop := ∃ o, H r = some (.frz o (.tup xs)) ∧ o.dict = none
theorem RowV.sq {K : PySem.W.Frag} {H : Hp} {r : Addr} {xs : List V} (h : RowV H r xs) : SqT K H r xs := let ⟨o, e, _⟩ := h; .inl (.inr ⟨o, e⟩)
section
variable {X : Cx}
theorem laidF {pins : List (Addr × Obj)} {s : Shared} {σ : L2.St} {H : Hp} {xs : List V} {us : List Value} (I : Inv X pins σ H s) (r : Vals xs us) (hz : xs.length ≤ sizeLine) :
    Inv X pins σ (upd H s.heap.objs.size (.frz { cls := .type "tuple", data := .seq us.toArray } (.tup xs))) { s with heap := s.heap.push { cls := .type "tuple", data := .seq us.toArray } } :=
  I.laid (t' := s.toks) (fun b ob q => Heap.get?_push_of_some _ q) (Nat.le_refl _) ⟨Heap.get?_push_size _ rfl, hz, us, r, IsTup.new _ _⟩
/-- (a, b, ..) -/
def tTupF (t : TA) : TE := fun σ H Q => t σ H fun xs H1 => xs.length ≤ sizeLine ∧ ∀ p o, H1 p = none → o.dict = none → Q (.ref p) (upd H1 p (.frz o (.tup xs)))
theorem pe_tupF {es : List Expr} {t : TA} {x1 : Nat} {pos : Pos} (h : PA X es t) : PE X (.Tuple es x1 pos) (tTupF t) := by
  refine ⟨fun pins s σ H Q I hq => ?_⟩
  refine wpAny_Tuple_spliced (thn (h.run pos pins s σ H _ I hq) fun us s1 ⟨xs, H1, I1, r, z, q⟩ => ⟨by rw [← r.length]; exact z, ?_⟩)
  exact ⟨.ref s1.heap.objs.size, _, laidF I1 r z, rfl, q _ _ (I1.hok.fresh (Nat.le_refl _)) rfl⟩
/-- t[lo:hi], not the whole -/
def rSlF (K : PySem.W.Frag) : V → Option Int → Option Int → Hp → VK → Prop := fun x lo hi H Q => ∃ a xs, x = .ref a ∧ SqT K H a xs ∧
  ¬ (HT.sIx xs.length 0 lo = 0 ∧ HT.sIx xs.length xs.length hi = xs.length) ∧ ∀ p o, H p = none → o.dict = none → Q (.ref p) (upd H p (.frz o (.tup (cutV xs lo hi))))
theorem sl_tupF : SlR X (rSlF X.K) := by
  intro pins s σ H x v vl vu lo hi sl Q I rx hs pl pu h
  obtain ⟨a, xs, rfl, hx, hw, q⟩ := h
  cases rx
  obtain ⟨its, r, ht, hz⟩ := I.tuple hx
  have hlen : its.toArray.size = xs.length := by rw [List.size_toArray]; exact r.length.symm
  refine ⟨"tuple", _, PyProof.Rows.slot_tuple_getitem.lookup, ht.typeIs, ?_⟩
  refine HT.getItem_tuple_cut ht hs pl pu (by rw [hlen]; exact hw) ?_ (by rw [hlen]; exact hz)
  rw [hlen]
  exact ⟨.ref s.heap.objs.size, _, laidF I ((r.drop (HT.sIx xs.length 0 lo)).take (HT.sIx xs.length xs.length hi - HT.sIx xs.length 0 lo)) (Nat.le_trans (cutV_length xs lo hi) hz), rfl, q _ _ (I.hok.fresh (Nat.le_refl _)) rfl⟩
/-- t + u, u not empty: t empty gives u itself -/
def rCatF (K : PySem.W.Frag) : R2 := fun x y H Q => ∃ a b xs ys, x = .ref a ∧ y = .ref b ∧ SqT K H a xs ∧ SqT K H b ys ∧ xs.length + ys.length ≤ sizeLine ∧ ys ≠ [] ∧
  (xs = [] → Q (.ref b) H) ∧ (xs ≠ [] → ∀ p o, H p = none → o.dict = none → Q (.ref p) (upd H p (.frz o (.tup (xs ++ ys)))))
theorem op_catF : OpR X (binaryOp .Add) (rCatF X.K) := by
  intro pins s σ H x y v u Q I rx ry h
  obtain ⟨a, b, xs, ys, rfl, rfl, ha, hb, hz, hy, q0, q1⟩ := h
  cases rx
  cases ry
  obtain ⟨its, r1, p1, _⟩ := I.tuple ha
  obtain ⟨its2, r2, p2, _⟩ := I.tuple hb
  by_cases hx : xs = []
  · subst hx
    cases r1
    exact cat_tup0 p1 p2 ⟨.ref b, H, I, rfl, q0 rfl⟩
  · refine HT.cat_tup p1 p2 (fun z => hx (r1.nil_iff.mp z)) (fun z => absurd (r2.nil_iff.mp z) hy) (fun z => ?_) (by rw [← r1.length, ← r2.length]; exact hz)
    exact ⟨.ref s.heap.objs.size, _, laidF I (r1.append r2) (by rw [List.length_append]; exact hz), rfl, q1 hx _ _ (I.hok.fresh (Nat.le_refl _)) rfl⟩
/-- t.count(k) -/
def tCnt (to te : TE) : TE := fun σ H Q => to σ H fun x H1 => ∃ (a : Addr) (ns : List Int), x = .ref a ∧ RowV H1 a (ns.map V.int) ∧ te σ H1 fun y H2 => ∃ k : Int, y = .int k ∧ RowV H2 a (ns.map V.int) ∧ Q (.int (ns.count k : Nat)) H2
theorem pe_tcount {o e : Expr} {to te : TE} {apos cpos : Pos} (ho : PE X o to) (he : PE X e te) (hbase : attributeBase o "count" X.env (eval o X.env) = eval o X.env := by rfl)
    (hfew : ((backTo cpos (starEach [e] X.env)).all (fun x => !x.1) && (backToKw cpos (keywordEach [] X.env)).all (fun x => x.1.isSome)
      && decide (([e] : List Expr).length + ([] : List Keyword).length + (if ([] : List Keyword).isEmpty then 0 else 1) < 30)) = true := by rfl)
    (hline : (apos.endLine == cpos.line) = true := by rfl) (hs : starEach [e] X.env = (false, eval e X.env) :: starEach [] X.env := by rfl) : PE X (.Call (.Attribute o "count" apos) [e] [] cpos) (tCnt to te) := by
  refine ⟨fun pins s σ H Q I h => ?_⟩
  refine wpAny_Call_method_late hbase hfew hline rfl (thn (ho.run pins s σ H _ I h) fun v s1 ⟨x, H1, I1, r1, a, ns, ex, hr, q1⟩ => ?_)
  subst ex
  obtain rfl : v = Value.ref a := r1
  obtain ⟨ob, eo, ed⟩ := id hr
  obtain ⟨go, _, _, _, gt⟩ := I1.hok a _ eo
  have hT : IsTup s1.heap a _ := gt
  refine ⟨"tuple", _, PySem.F.plainAttrs_tuple, PySem.F.slot_tuple_count, PySem.F.type_tuple_count, hT.typeIs, fun b eb => ⟨ob, by cases eb; exact go, ed⟩, ?_⟩
  rw [hs]
  refine Calls.callWith_builtin rfl (Calls.evalArgs_plain ?_)
  show wpAny _ _ (spliced ((false, eval e X.env) :: backTo cpos (starEach [] X.env))) _ _ s1
  refine Calls.spliced_cons (thn (he.run pins s1 σ H1 _ I1 q1) fun u s2 ⟨y, H2, I2, r2, k, ey, hr2, q2⟩ => Calls.spliced_nil ?_)
  subst ey
  exact mt_tcount pins s2 σ H2 (.ref a) [.int k] (.ref a) [u] Q I2 rfl (.cons r2 .nil) ⟨a, ns, k, rfl, rfl, hr2.sq, q2⟩
end
end K57

/-! ## KRules8 -/
namespace K57
open PySem PySem.Spec PyProof.Rows L2
/-! ### a thing that is changed no more -/
def tFrz (t : TS) : TS := fun D σ H => ∃ d u, H d = some u ∧ Mut (some u) ∧ ∀ od, t D σ (upd H d (.frz od u))
def tFrzE (t : TE) : TE := fun σ H Q => t σ H fun v H1 => ∃ d u, v = .ref d ∧ H1 d = some u ∧ Mut (some u) ∧ ∀ od, Q v (upd H1 d (.frz od u))
section
variable {X : Cx}
theorem pss_frz {st : List Stmt} {t : TS} (h : PSs X st t) : PSs X st (tFrz t) := by
  refine ⟨fun pins s σ H D I hw => ?_⟩
  obtain ⟨d, u, hd, mu, hw⟩ := hw
  obtain ⟨od, I1⟩ := I.lock hd mu
  exact h.run pins s σ _ _ I1 (hw od)
theorem pe_frz {e : Expr} {t : TE} (h : PE X e t) : PE X e (tFrzE t) := by
  refine ⟨fun pins s σ H Q I hw => ?_⟩
  refine thn (h.run pins s σ _ _ I hw) fun v s1 ⟨x, H1, I2, r, d, u, ex, hd, mu, q⟩ => ?_
  obtain ⟨od, I3⟩ := I2.lock hd mu
  exact ⟨x, _, I3, r, q od⟩
theorem sw_trueD {kx vx : Expr} {gs : List Comprehension} {scope : Scope} {pos py : Pos} {y : Str} {l : Nat} {env : Env} (hk : env.scope.kind = .function) (hy : env.scope.names.lookup y = some .local) (hl : (py.line == pos.line) = true)
    (ha : (scope.names.any fun (n, k) => n == y && (k == .local || k == .cell)) = false) : swapsWith (.DictComp kx vx gs scope pos) (some (.Name y py)) l env = pure true := by
  have ky : env.kindOf y = some .local := hy
  have hb : env.blockKind = .function := by unfold Env.blockKind; rw [hk]; rfl
  unfold swapsWith
  simp only [hb, ky, ha, Expr.pos, hl]
  rfl
theorem passF {P : Program} {w : World} : Passes (CX P w) X (fun _ _ _ => False) := fun pins σ H s e s' I h => by
  obtain ⟨_, _, _, _, _, _, _, _, _, _, _, _, _, z⟩ := h

end
end K57

/-! ## KHeap -/
namespace K57
open PySem PySem.Spec PyProof.Rows L2
/-! ### heaps: what is never written again -/
def Imm : HO → Prop
  | .tup _ => True
  | .frz _ _ => True
  | _ => False
def ISame (H H' : Hp) : Prop := ∀ b o, Imm o → H b = some o → H' b = some o
theorem ISame.refl (H : Hp) : ISame H H := fun _ _ _ h => h
theorem ISame.trans {H H1 H2 : Hp} (a : ISame H H1) (b : ISame H1 H2) : ISame H H2 := fun c o i h => b c o i (a c o i h)
theorem im {H H' : Hp} (s : Same H H') : ISame H H' := fun b o _ h => s b o h
theorem ISame.put {H H' : Hp} (s : ISame H H') {p : Addr} {o : HO} (h : ∀ u, H' p = some u → ¬ Imm u) : ISame H (upd H' p o) := fun b u i e => by
  have e' := s b u i e
  have hb : b ≠ p := fun z => by subst z; exact h u e' i
  rw [upd_ne hb]
  exact e'
theorem im_new {H : Hp} {p : Addr} {o : HO} (h : H p = none) : ISame H (upd H p o) := (ISame.refl H).put fun u e => by rw [h] at e; cases e
theorem im_lst {H : Hp} {p : Addr} {o : HO} {xs : List V} (h : H p = some (.lst xs)) : ISame H (upd H p o) := (ISame.refl H).put fun u e => by rw [h] at e; cases e; exact id
theorem im_dK {H : Hp} {p : Addr} {o : HO} {kvs : List (Key × V)} (h : H p = some (.dK kvs)) : ISame H (upd H p o) := (ISame.refl H).put fun u e => by rw [h] at e; cases e; exact id
theorem im_dT {H : Hp} {p : Addr} {o : HO} {kvs : List (List Key × V)} (h : H p = some (.dT kvs)) : ISame H (upd H p o) := (ISame.refl H).put fun u e => by rw [h] at e; cases e; exact id
theorem sm_new {H : Hp} {p : Addr} {o : HO} (h : H p = none) : Same H (upd H p o) := fun b x e => by
  rw [upd_ne (ne_of_none e h)]
  exact e
/-- an object of one's own is changed -/
theorem sm_own {H H' : Hp} {p : Addr} {o : HO} (s : Same H H') (h : H p = none) : Same H (upd H' p o) := fun b x e => by
  rw [upd_ne (ne_of_none e h)]
  exact s b x e
theorem sm_fresh {H H' : Hp} {p : Addr} {o : HO} (s : Same H H') (h : H' p = none) : Same H (upd H' p o) := s.trans (sm_new h)
/-- at another address -/
theorem keep_new {H : Hp} {p q : Addr} {o u : HO} (h : H q = some u) (n : H p = none) : (upd H p o) q = some u := sm_new n q u h

/-! ### lists that go together -/
theorem pimp {α β : Type} {F G : α → β → Prop} {xs : List α} {ys : List β} (p : Paired F xs ys) (h : ∀ a b, F a b → G a b) : Paired G xs ys := Paired.mono h p
theorem pget {α β : Type} {F : α → β → Prop} : ∀ {xs : List α} {ys : List β}, Paired F xs ys → ∀ {i : Nat} {y : β}, ys[i]? = some y → ∃ x, xs[i]? = some x ∧ F x y
  | _, _, .nil, i, y, h => by simp at h
  | _, _, .cons f r, 0, y, h => ⟨_, rfl, by cases Option.some.inj h; exact f⟩
  | _, _, .cons f r, i + 1, y, h => pget r (i := i) (by simpa using h)
theorem pgetL {α β : Type} {F : α → β → Prop} : ∀ {xs : List α} {ys : List β}, Paired F xs ys → ∀ {i : Nat} {x : α}, xs[i]? = some x → ∃ y, ys[i]? = some y ∧ F x y
  | _, _, .nil, i, y, h => by simp at h
  | _, _, .cons f r, 0, y, h => ⟨_, rfl, by cases Option.some.inj h; exact f⟩
  | _, _, .cons f r, i + 1, y, h => pgetL r (i := i) (by simpa using h)
theorem plen {α β : Type} {F : α → β → Prop} : ∀ {xs : List α} {ys : List β}, Paired F xs ys → xs.length = ys.length
  | _, _, .nil => rfl
  | _, _, .cons _ r => congrArg (· + 1) (plen r)
theorem psnoc {α β : Type} {F : α → β → Prop} {a : α} {b : β} : ∀ {xs : List α} {ys : List β}, Paired F xs ys → F a b → Paired F (xs ++ [a]) (ys ++ [b])
  | _, _, .nil, h => .cons h .nil
  | _, _, .cons f r, h => .cons f (psnoc r h)
theorem pset {α β : Type} {F : α → β → Prop} {a : α} {b : β} : ∀ {xs : List α} {ys : List β}, Paired F xs ys → F a b → ∀ i, Paired F (xs.set i a) (ys.set i b)
  | _, _, .nil, _, _ => .nil
  | _, _, .cons _ r, h, 0 => .cons h r
  | _, _, .cons f r, h, i + 1 => .cons f (pset r h i)
theorem perase {α β : Type} {F : α → β → Prop} : ∀ {xs : List α} {ys : List β}, Paired F xs ys → ∀ i, Paired F (xs.eraseIdx i) (ys.eraseIdx i)
  | _, _, .nil, _ => .nil
  | _, _, .cons _ r, 0 => r
  | _, _, .cons f r, i + 1 => .cons f (perase r i)
theorem pmem {α β : Type} {F : α → β → Prop} {xs : List α} {ys : List β} (p : Paired F xs ys) {x : α} (h : x ∈ xs) : ∃ y ∈ ys, F x y := by
  obtain ⟨i, hi⟩ := List.mem_iff_getElem?.mp h
  obtain ⟨y, hy, f⟩ := pgetL p hi
  exact ⟨y, List.mem_of_getElem? hy, f⟩
theorem pmap {α : Type} {f : α → V} : ∀ (xs : List α), Paired (fun v x => v = f x) (xs.map f) xs
  | [] => .nil
  | x :: r => .cons rfl (pmap r)

/-! ### tuples of ints, rows, histories -/
def TupI (H : Hp) (v : V) (ns : List Int) : Prop := ∃ t, v = .ref t ∧ H t = some (.tup (ns.map V.int))
theorem TupI.im {H H' : Hp} {v : V} {ns : List Int} (h : TupI H v ns) (s : ISame H H') : TupI H' v ns := let ⟨t, e, q⟩ := h; ⟨t, e, s _ _ trivial q⟩
theorem TupI.mk {H : Hp} {p : Addr} {ns : List Int} : TupI (upd H p (.tup (ns.map V.int))) (.ref p) ns := ⟨p, rfl, upd_same⟩
def RowI (H : Hp) (v : V) (l : List Int) : Prop := ∃ r, v = .ref r ∧ RowV H r (l.map V.int)
theorem RowI.im {H H' : Hp} {v : V} {l : List Int} (h : RowI H v l) (s : ISame H H') : RowI H' v l := let ⟨r, e, o, q, d⟩ := h; ⟨r, e, o, s _ _ trivial q, d⟩
theorem RowI.mk {H : Hp} {p : Addr} {o : Obj} {ns : List Int} (d : o.dict = none) : RowI (upd H p (.frz o (.tup (ns.map V.int)))) (.ref p) ns := ⟨p, rfl, o, upd_same, d⟩
def HistAt (H : Hp) (a : Addr) (R : Rows) : Prop := ∃ vs, H a = some (.tup vs) ∧ Paired (RowI H) vs R
theorem HistAt.im {H H' : Hp} {a : Addr} {R : Rows} (h : HistAt H a R) (s : ISame H H') : HistAt H' a R := let ⟨vs, e, p⟩ := h; ⟨vs, s _ _ trivial e, pimp p fun _ _ r => r.im s⟩
theorem sqT {K : PySem.W.Frag} {H : Hp} {a : Addr} {xs : List V} (h : H a = some (.tup xs)) : SqT K H a xs := .inl (.inl h)
theorem sqL {K : PySem.W.Frag} {H : Hp} {a : Addr} {xs : List V} (h : H a = some (.lst xs)) : SqL K H a xs := .inl (.inl h)
/-- the p-th row -/
theorem HistAt.row {H : Hp} {a : Addr} {R : Rows} (h : HistAt H a R) {p : Nat} (hp : p < R.length) : ∃ vs r, H a = some (.tup vs) ∧ vs.length = R.length ∧ vs[p]? = some (.ref r) ∧ RowV H r ((row R p).map V.int) := by
  obtain ⟨vs, e, q⟩ := h
  obtain ⟨x, hx, r, rfl, hr⟩ := pget q (row_at hp)
  exact ⟨vs, r, e, plen q, hx, hr⟩
theorem at_map {ns : List Int} {k : Nat} {e : Int} (h : ns[k]? = some e) : atI (ns.map V.int) (k : Int) = some (.int e) := atI_nat (by rw [List.getElem?_map, h]; rfl)
theorem tup2 {x y : Int} : [V.int x, V.int y] = [x, y].map V.int := rfl
/-! ### defs -/
structure Cal (P : Program) (w : World) (K : PySem.W.Frag) (mg : Str → Option Value) (base : Heap) (k : Nat) (x : Str) (ps : List Str) (sp : Sp) : Prop where
  ex : ∃ f fd, FnOk P w K mg base CX0 k f fd ps sp ∧ mg x = some (.ref f) ∧ PySem.W.keepIn K (.ref f) = true ∧ Binds K fd ps []
structure Dn (K : PySem.W.Frag) (mg : Str → Option Value) (x : Str) (st : Stmt) (ps : List Str) : Prop where
  ex : ∃ f fd, Fun K x x st f fd ∧ mg x = some (.ref f) ∧ Binds K fd ps []
section
variable {X : Cx} {k : Nat} {x : Str} {ps : List Str} {sp : Sp} {p pos : Pos} {e : Expr} {es : List Expr} {t : TA}
theorem pe_cal (c : Cal X.prog X.w X.K X.mg X.base k x ps sp) (hr : Room k X.A) (ha : PA X (e :: es) t) (hg : Gl X x := by rfl) (hdb : (x == ("__debug__" : Str)) = false := by decide)
    (he : starEach (e :: es) X.env = (false, eval e X.env) :: starEach es X.env := by rfl) (hpl : (backTo pos (starEach es X.env)).any (·.1) = false := by rfl) : PE X (.Call (.Name x p) (e :: es) [] pos) (tCall sp [] E0 t) := by
  obtain ⟨f, fd, F, hm, hk, hb⟩ := c.ex
  exact pe_call F hr hg hm hk hb .nil pass0 ha hdb he hpl
end
section
variable {P : Program} {w : World} {K : PySem.W.Frag} {mg : Str → Option Value} {base : Heap} {k : Nat} {x : Str} {st : Stmt} {N ps : List Str} {sp : Sp}
theorem Dn.cal (D : Dn K mg x st ps) (S : FnScope N ps (defScope st)) (len : ∀ vs H Q E, sp vs H Q E → vs.length = ps.length)
    (hbody : ∀ (f : Addr) (cdv : Value) (A : Around) (outer : List Env) (s : Shared) (H : Hp) (vs : List V) (Q : VK) (E : XK), Room k (A.deeper (envOfC x (defScope st) s.heap.objs.size f cdv)) → sp vs H Q E →
      ∃ t, PSs (cxOf CX0 P w K mg base N x (defScope st) f cdv A outer s H E).nox (defBody st) t ∧ t { nx := fun _ H' => Q .non H', rt := Q } (L2.start N vs) H) : Cal P w K mg base (k + 1) x ps sp := by
  obtain ⟨f, fd, F, g, b⟩ := D.ex
  exact ⟨f, fd, F.ok S len (hbody f), g, F.kp, b⟩
end
end K57

/-! ## KText -/
namespace K57
open PySem PySem.Spec PyProof.Rows L2
def topS (i : Nat) : Stmt := PySem.Challenge.pw_savelines_k57_whole_histories_that_go_on.main.body.getD i (.Pass ⟨0, 0, 0, 0⟩)
/-- what the module's names hold -/
structure Txt (mg : Str → Option Value) : Prop where
  len : mg "len" = none
  sum : mg "sum" = none
  isinstance : mg "isinstance" = none
  enumerate : mg "enumerate" = none
  range : mg "range" = none
  zip : mg "zip" = none
  tuple : mg "tuple" = none
  list : mg "list" = none
  dict : mg "dict" = none
  sorted : mg "sorted" = none
  min : mg "min" = none
  abs : mg "abs" = none
  int : mg "int" = none
  bool : mg "bool" = none
  mP : ∃ t, mg "MAX_PROCESSES" = some (.int 6 t)
  mM : ∃ t, mg "MAX_MESSAGES" = some (.int 24 t)
  mE : ∃ t, mg "MAX_EVENTS" = some (.int 60 t)
/-! ### walks in one form -/
theorem any_it {J : It} {n : Nat} {G : Hp → Prop} {Y : Nat → Hp → V → Hp → Prop} (w : Walk J n G Y) {Body : (Hp → Prop) → V → Hp → Prop} {H0 : Hp} {Qd : Hp → Prop} (Pv : Nat → Hp → Prop) (h0 : Pv 0 H0) (hG : ∀ i H, i ≤ n → Pv i H → G H)
    (hs : ∀ i x H H', i < n → Pv i H → Y i H x H' → Body (Pv (i + 1)) x H') (hd : ∀ H, Pv n H → Qd H) :
    ∃ W : Nat → Nat → Hp → Prop, (∃ m, W 0 m H0) ∧ ∀ i m H, W i m H → (J.stop i H ∧ Qd H) ∨ (J.go i H ∧ ∃ Nx : Hp → Prop, (∀ H', Nx H' → ∃ m', m' < m ∧ W (i + 1) m' H') ∧ ∀ x H', J.yld i H x H' → Body Nx x H') := by
  refine ⟨fun i m H => m = n - i ∧ i ≤ n ∧ Pv i H, ⟨n, by simp, Nat.zero_le _, h0⟩, ?_⟩
  rintro i m H ⟨rfl, hi, p⟩
  have q := hG i H hi p
  by_cases hlt : i < n
  · exact .inr ⟨w.goes i H hlt q, Pv (i + 1), fun H' p' => ⟨n - (i + 1), by omega, rfl, hlt, p'⟩, fun x H' y => hs i x H H' hlt p (w.yields i H x H' hlt q y)⟩
  · have e : i = n := by omega
    subst e
    exact .inl ⟨w.stops H q, hd H p⟩
theorem small63 {n : Nat} (h : n ≤ 1000) : n ≤ sizeLine := Nat.le_of_lt (small1000 h)
end K57
namespace K57
open PySem PySem.Spec PyProof.Rows L2
theorem take_one {α : Type} {xs : List α} {i : Nat} {x : α} (h : xs[i]? = some x) : xs.take (i + 1) = xs.take i ++ [x] := by
  rw [List.take_add_one, h]
  rfl
theorem take_all {α : Type} {xs : List α} {i : Nat} (h : xs.length ≤ i) : xs.take i = xs := List.take_of_length_le h
theorem map_int {ns : List Int} {i : Nat} {y : V} (h : (ns.map V.int)[i]? = some y) : ∃ e, ns[i]? = some e ∧ y = .int e := by
  rw [List.getElem?_map] at h
  obtain ⟨e, he, rfl⟩ := Option.map_eq_some_iff.mp h
  exact ⟨e, he, rfl⟩
theorem lt_of {α : Type} {xs : List α} {i : Nat} {x : α} (h : xs[i]? = some x) : i < xs.length := (List.getElem?_eq_some_iff.mp h).1
/-- a new list at D of what came out so far -/
def Acc (H : Hp) (D : Addr) (H' : Hp) (xs : List V) : Prop := Same H H' ∧ H' D = some (.lst xs)
theorem Acc.start {H : Hp} {D : Addr} (n : H D = none) : Acc H D (upd H D (.lst [])) [] := ⟨sm_new n, upd_same⟩
theorem Acc.from {H0 H : Hp} {D : Addr} (s : Same H0 H) (n : H D = none) : Acc H0 D (upd H D (.lst [])) [] := ⟨s.trans (sm_new n), upd_same⟩
theorem Acc.more {H : Hp} {D : Addr} {H1 : Hp} {xs : List V} (n : H D = none) (a : Acc H D H1 xs) (y : V) : Acc H D (upd H1 D (.lst (xs ++ [y]))) (xs ++ [y]) := ⟨sm_own a.1 n, upd_same⟩
theorem Acc.new {H : Hp} {D p : Addr} {H1 : Hp} {xs : List V} {o : HO} (a : Acc H D H1 xs) (n : H1 p = none) : Acc H D (upd H1 p o) xs := ⟨sm_fresh a.1 n, keep_new a.2 n⟩
theorem Acc.same {H : Hp} {D : Addr} {H1 H2 : Hp} {xs : List V} (a : Acc H D H1 xs) (s : Same H1 H2) : Acc H D H2 xs := ⟨a.1.trans s, s _ _ a.2⟩
theorem Acc.eq {H : Hp} {D : Addr} {H1 : Hp} {xs ys : List V} (a : Acc H D H1 xs) (e : xs = ys) : Acc H D H1 ys := e ▸ a
theorem Acc.im {H : Hp} {D : Addr} {H1 : Hp} {xs : List V} {o : HO} (a : Acc H D H1 xs) : ISame H1 (upd H1 D o) := im_lst a.2
theorem sIx0 (n d : Nat) : HT.sIx n d none = d := rfl
theorem sIxN (n d k : Nat) : HT.sIx n d (some (k : Int)) = min k n := HT.sIx_nat n d k
theorem cutV_take (xs : List V) (k : Nat) : cutV xs none (some (k : Int)) = xs.take k := by
  unfold cutV
  rw [sIx0, sIxN, List.drop_zero, Nat.sub_zero]
  by_cases h : k ≤ xs.length
  · rw [Nat.min_eq_left h]
  · rw [Nat.min_eq_right (by omega), List.take_length, List.take_of_length_le (by omega)]
section
variable {X : Cx} {K : PySem.W.Frag}
theorem ix_tupK (h : X.K = K := by rfl) : IxR X (rIxT K) := h ▸ ix_tup
theorem ix_listK (h : X.K = K := by rfl) : IxR X (rIxL K) := h ▸ ix_list
theorem op_catFK (h : X.K = K := by rfl) : OpR X (binaryOp .Add) (rCatF K) := h ▸ op_catF
def rLenS (K : PySem.W.Frag) : List V → Hp → VK → Prop := fun xs H Q => ∃ p ys, xs = [.ref p] ∧ (SqL K H p ys ∨ SqT K H p ys) ∧ Q (.int ys.length) H
theorem len_seqK (h : X.K = K := by rfl) : CallR X (.builtin "len") (rLenS K) := h ▸ call_len_seq
theorem pi_enumTK {e : Expr} {ta : TA} {p pos tpos : Pos} {elts : List Expr} {kk : Nat} (hm : X.mg "enumerate" = none) (ha : PA X [e] ta) (h : X.K = K := by rfl) (hg : Gl X "enumerate" := by rfl) (hs : starEach [e] X.env = [(false, eval e X.env)] := by rfl) :
    PI X (.Tuple elts kk tpos) (.Call (.Name "enumerate" p) [e] [] pos) (iEnumT K ta) := h ▸ pi_enumT hg hm ha hs
theorem pe_popAtK {o e : Expr} {to te : TE} {apos cpos : Pos} (ho : PE X o to) (he : PE X e te) (h : X.K = K := by rfl)
    (hbase : attributeBase o "pop" X.env (eval o X.env) = eval o X.env := by rfl)
    (hfew : ((backTo cpos (starEach [e] X.env)).all (fun x => !x.1) && (backToKw cpos (keywordEach [] X.env)).all (fun x => x.1.isSome)
      && decide ([e].length + ([] : List Keyword).length + (if ([] : List Keyword).isEmpty then 0 else 1) < 30)) = true := by rfl)
    (hline : (apos.endLine == cpos.line) = true := by rfl) (hs : starEach [e] X.env = (false, eval e X.env) :: starEach [] X.env := by rfl) (hplain : (backTo cpos (starEach [] X.env)).any (·.1) = false := by rfl) :
    PE X (.Call (.Attribute o "pop" apos) [e] [] cpos) (tBM K "list" rPopAt to (tCons te tNil)) :=
  h ▸ pe_bm PySem.F.plainAttrs_list PySem.F.slot_list_pop PySem.F.type_list_pop mt_popAt ho (pa_cons he pa_nil hs) hbase hfew hline hs hplain
end
end K57
namespace K57
open PySem PySem.Spec PyProof.Rows L2
theorem walk_range0 {n : Nat} : Walk (Itr 0 n) n (fun _ => True) (YFn fun i => .int ((i : Nat) : Int)) :=
  Walk.mono walk_range (fun _ h => h) fun i H x H' _ _ y => ⟨y.1, y.2.trans (congrArg V.int (Int.zero_add _))⟩
end K57
namespace K57
open PySem PySem.Spec PyProof.Rows L2
/-- a list of natural numbers, as values -/
def nats (l : List Nat) : List V := (l.map fun (k : Nat) => (k : Int)).map V.int
theorem nats_len (l : List Nat) : (nats l).length = l.length := by unfold nats; rw [List.length_map, List.length_map]
theorem nats_at {l : List Nat} {i k : Nat} (h : l[i]? = some k) : (nats l)[i]? = some (.int (k : Int)) := by
  unfold nats
  rw [List.getElem?_map, List.getElem?_map, h]
  rfl
theorem at_nats {l : List Nat} {i k : Nat} (h : l[i]? = some k) : atI (nats l) (i : Int) = some (.int (k : Int)) := atI_nat (nats_at h)
theorem nats_set (l : List Nat) (i k : Nat) : (nats l).set i (.int (k : Int)) = nats (l.set i k) := by
  unfold nats
  rw [List.map_set, List.map_set]
theorem nats_snoc (l : List Nat) (k : Nat) : nats l ++ [.int (k : Int)] = nats (l ++ [k]) := by
  unfold nats
  rw [List.map_append, List.map_append]
  rfl
theorem getD_at {l : List Nat} {i : Nat} (h : i < l.length) : l[i]? = some (l.getD i 0) := by
  rw [List.getD_eq_getElem?_getD, List.getElem?_eq_getElem h]
  rfl
theorem RowV.same {H H' : Hp} {r : Addr} {xs : List V} (h : RowV H r xs) (s : Same H H') : RowV H' r xs := let ⟨o, e, d⟩ := h; ⟨o, s _ _ e, d⟩
theorem RowV.isame {H H' : Hp} {r : Addr} {xs : List V} (h : RowV H r xs) (s : ISame H H') : RowV H' r xs := let ⟨o, e, d⟩ := h; ⟨o, s _ _ trivial e, d⟩
end K57
namespace K57
open PySem PySem.Spec PyProof.Rows L2
theorem ix_at {n j : Nat} (h : j < n) : ixN n (j : Int) = some j := by
  unfold ixN
  rw [if_pos (by omega), if_pos (by omega)]
  simp
end K57
namespace K57
open PySem PySem.Spec PyProof.Rows L2
theorem sum_nats (l : List Nat) : (l.map fun (k : Nat) => (k : Int)).sum = (l.sum : Nat) := by
  induction l with
  | nil => rfl
  | cons x r ih => rw [List.map_cons, List.sum_cons, List.sum_cons, ih]; omega
end K57
namespace K57
open PySem PySem.Spec PyProof.Rows L2
theorem pe_constI {X : Cx} {x : Str} {n : Int} {pos : Pos} (hm : ∃ t, X.mg x = some (.int n t)) (hg : Gl X x := by rfl) (hd : (x == ("__debug__" : Str)) = false := by decide) : PE X (.Name x pos) (tC (.int n)) := by
  obtain ⟨t, h⟩ := hm
  exact pe_glob hg h ⟨t, rfl⟩ hd
end K57
namespace K57
open PySem PySem.Spec PyProof.Rows L2
theorem at0 {x : V} {r : List V} : atI (x :: r) 0 = some x := at_of (j := 0) rfl rfl
theorem at1 {x y : V} {r : List V} : atI (x :: y :: r) 1 = some y := at_of (j := 1) rfl rfl
theorem at2 {x y z : V} {r : List V} : atI (x :: y :: z :: r) 2 = some z := at_of (j := 2) rfl rfl
theorem at3 {x y z u : V} {r : List V} : atI (x :: y :: z :: u :: r) 3 = some u := at_of (j := 3) rfl rfl
section
variable {κ : Type} [DecidableEq κ]
theorem valV_mem {kvs : List (κ × V)} {k : κ} {v : V} (h : valV kvs k = some v) : (k, v) ∈ kvs := by
  unfold valV at h
  obtain ⟨kv, hf, rfl⟩ := Option.map_eq_some_iff.mp h
  have h1 := List.mem_of_find?_eq_some hf
  have h2 := List.find?_some hf
  have h3 : kv.1 = k := of_decide_eq_true h2
  subst h3
  exact h1
theorem mem_putK {kvs : List (κ × V)} {k : κ} {v : V} {kv : κ × V} (h : kv ∈ putK kvs k v) : kv = (k, v) ∨ kv ∈ kvs := by
  unfold putK at h
  split at h
  · obtain ⟨x, hx, rfl⟩ := List.mem_map.mp h
    by_cases c : x.1 = k
    · rw [if_pos c, c]
      exact .inl rfl
    · rw [if_neg c]
      exact .inr hx
  · rcases List.mem_append.mp h with h | h
    · exact .inr h
    · exact .inl (by simpa using h)
theorem some_putK {kvs : List (κ × V)} {k j : κ} {v : V} (h : (valV kvs j).isSome = true) : (valV (putK kvs k v) j).isSome = true := by
  rw [valV_put]
  split
  · rfl
  · exact h
theorem some_put {kvs : List (κ × V)} {k : κ} {v : V} : (valV (putK kvs k v) k).isSome = true := by
  rw [valV_put, if_pos rfl]
  rfl
end
end K57
namespace K57
open PySem PySem.Spec PyProof.Rows L2
theorem walk_itemsP {d : Addr} {o : Obj} {kvs : List (Key × V)} : Walk (Iti d o kvs) kvs.length (fun H => H d = some (.frz o (.dK kvs))) (fun i H x H' => ∃ T k v, x = .ref T ∧ H T = none ∧ H' = upd H T (.tup [kV k, v]) ∧ kvs[i]? = some (k, v)) :=
  Walk.mono walk_items (fun _ h => h) fun i H x H' _ _ y => by
    obtain ⟨T, x1, x2, h1, h2, h3, h4, h5⟩ := y
    obtain ⟨kv, hk, e1⟩ := Option.map_eq_some_iff.mp h4
    obtain ⟨kv', hk', e2⟩ := Option.map_eq_some_iff.mp h5
    have e : kv = kv' := Option.some.inj (hk.symm.trans hk')
    subst e
    exact ⟨T, kv.1, kv.2, h1, h2, by rw [h3, ← e1, ← e2], hk⟩
end K57
namespace K57
open PySem PySem.Spec PyProof.Rows L2
theorem ISame.t {H H' : Hp} (s : ISame H H') {t : Addr} {xs : List V} (h : H t = some (.tup xs)) : H' t = some (.tup xs) := s _ _ trivial h
theorem ISame.f {H H' : Hp} (s : ISame H H') {t : Addr} {o : Obj} {u : HO} (h : H t = some (.frz o u)) : H' t = some (.frz o u) := s _ _ trivial h
end K57
namespace K57
open PySem PySem.Spec PyProof.Rows L2
theorem small9 {n : Nat} (h : n ≤ 9999) : n < sizeLine := Nat.lt_of_le_of_lt h (by decide)
theorem DGet.f {H : Hp} {a : Addr} {o : Obj} {kvs : List (Key × V)} {k : Key} (e : H a = some (.frz o (.dK kvs))) : DGet H a (kV k) (valV kvs k) := .inl ⟨kvs, k, .inr ⟨o, e⟩, rfl, rfl⟩
theorem filter_lt {α : Type} {p q : α → Bool} (h : ∀ x, q x = true → p x = true) : ∀ {l : List α}, (∃ x ∈ l, p x = true ∧ q x = false) → (l.filter q).length < (l.filter p).length
  | [], ⟨x, hx, _⟩ => by simp at hx
  | y :: r, ⟨x, hx, h1, h2⟩ => by
    have le : (r.filter q).length ≤ (r.filter p).length := by
      clear hx h1 h2
      induction r with
      | nil => exact Nat.le_refl _
      | cons z r ih =>
        rw [List.filter_cons, List.filter_cons]
        by_cases cq : q z = true
        · rw [if_pos cq, if_pos (h z cq)]
          exact Nat.succ_le_succ ih
        · rw [if_neg cq]
          split
          · exact Nat.le_succ_of_le ih
          · exact ih
    rw [List.filter_cons, List.filter_cons]
    by_cases c : x = y
    · subst c
      rw [if_pos h1, if_neg (by rw [h2]; exact Bool.false_ne_true)]
      exact Nat.lt_succ_of_le le
    · have hr : x ∈ r := (List.mem_cons.mp hx).resolve_left c
      have ih := filter_lt h (l := r) ⟨x, hr, h1, h2⟩
      by_cases cq : q y = true
      · rw [if_pos cq, if_pos (h y cq)]
        exact Nat.succ_lt_succ ih
      · rw [if_neg cq]
        split
        · exact Nat.lt_succ_of_lt ih
        · exact ih
theorem some_merge : ∀ {ls ks : List (Key × V)} {k : Key}, ((valV ks k).isSome = true ∨ ∃ v, (k, v) ∈ ls) → (valV (mergeK ks ls) k).isSome = true
  | [], ks, k, h => by
    rcases h with h | ⟨v, h⟩
    · exact h
    · simp at h
  | x :: r, ks, k, h => by
    show (valV (mergeK (putK ks x.1 x.2) r) k).isSome = true
    refine some_merge ?_
    rcases h with h | ⟨v, h⟩
    · exact .inl (some_putK h)
    · rcases List.mem_cons.mp h with h | h
      · subst h
        exact .inl some_put
      · exact .inr ⟨v, h⟩
end K57
namespace K57
open PySem PySem.Spec PyProof.Rows L2
theorem map_erase {α β : Type} (f : α → β) : ∀ (l : List α) (i : Nat), (l.map f).eraseIdx i = (l.eraseIdx i).map f
  | [], _ => rfl
  | _ :: _, 0 => rfl
  | x :: r, i + 1 => congrArg (f x :: ·) (map_erase f r i)
theorem perm_erase {α : Type} : ∀ (l : List α) (i : Nat) (h : i < l.length), (l[i] :: l.eraseIdx i).Perm l
  | x :: r, 0, _ => List.Perm.refl _
  | x :: r, i + 1, h => (List.Perm.swap x _ _).trans (List.Perm.cons x (perm_erase r i (by simpa using h)))
theorem pappend {α β : Type} {F : α → β → Prop} : ∀ {xs : List α} {ys : List β} {us : List α} {vs : List β}, Paired F xs ys → Paired F us vs → Paired F (xs ++ us) (ys ++ vs)
  | _, _, _, _, .nil, q => q
  | _, _, _, _, .cons f r, q => .cons f (pappend r q)
end K57

/-! ## KD1 -/
namespace K57
open PySem PySem.Spec PyProof.Rows L2
section
variable {P : Program} {w : World} {K : PySem.W.Frag} {mg : Str → Option Value} {base : Heap}
/-! ### state_numbers -/
abbrev s_state_numbers : Stmt := topS 15
theorem sc_state_numbers : FnScope ["history", "row"] ["history"] (defScope s_state_numbers) := ⟨rfl, rfl, rfl, by decide +kernel, rfl, by decide +kernel, by decide +kernel⟩
def spStateNumbers : Sp := fun vs H Q _ => ∃ a R, vs = [.ref a] ∧ HistAt H a R ∧ R.length ≤ 6 ∧ ∀ H' t, Same H H' → H t = none → H' t = some (.tup ((R.map fun l => ((cz l + 1 : Nat) : Int)).map V.int)) → Q (.ref t) H'
theorem c_state_numbers (T : Txt mg) (D : Dn K mg "state_numbers" s_state_numbers ["history"]) : Cal P w K mg base 1 "state_numbers" ["history"] spStateNumbers := by
  refine D.cal sc_state_numbers (fun vs H Q E h => ?_) (fun f cdv A outer s H vs Q E hr h => ?_)
  · obtain ⟨a, R, rfl, _⟩ := h
    rfl
  · obtain ⟨a, R, rfl, hh, hl, q⟩ := h
    have hu := hu_of hr
    refine ⟨_, (pss_one (ps_ret (pe_callTy call_tuple_of (by rfl) T.tuple (by decide +kernel) (pa_cons (pe_lc (own := [("row", 1)]) (g := (gName 1)) rfl sc_state_numbers.nd (pi_tup (pv 0)) (blkOk_by (N := ["history", "row"]) (sc := defScope s_state_numbers) (by decide +kernel)) (fun _ _ _ _ _ => (pg_name (i := 1) sc_state_numbers.nd rfl (Or.inl rfl))) (fun _ _ _ _ _ => pts_nil) (fun _ _ _ _ _ => (pe_op op_add (pe_tcount (pv 1) pe_int) pe_int))) pa_nil)))), ?_⟩
    obtain ⟨vs, ha, pr⟩ := hh
    have hn := plen pr
    refine ⟨.ref a, rfl, a, rfl, ⟨vs, sqT ha⟩, fun D nD => any_it (walk_tup (xs := vs)) (fun i H' => Acc H D H' (((R.take i).map fun l => ((cz l + 1 : Nat) : Int)).map V.int)) (Acc.start nD) (fun i H' _ p => sqT (p.1 _ _ ha)) ?_ ?_⟩
    · rintro i x H1 H2 hi p ⟨rfl, hx⟩
      obtain ⟨l, hlx, r, rfl, hr'⟩ := pgetL pr hx
      have rv : RowV H2 r (l.map V.int) := let ⟨o, e, d⟩ := hr'; ⟨o, p.1 _ _ e, d⟩
      refine ⟨rfl, _, rfl, r, l, rfl, rv, 0, rfl, rv, _, _, rfl, rfl, _, p.2, small1000 (by rw [List.length_map, List.length_map, List.length_take]; omega), ?_⟩
      exact (p.more nD _).eq (by rw [take_one hlx, List.map_append, List.map_append]; rfl)
    · intro H1 p
      rw [take_all (by omega)] at p
      exact ⟨D, _, rfl, .inl ⟨sqL p.2, fun t nt => q _ t (sm_fresh p.1 nt) (p.1.free nt) upd_same⟩⟩
/-! ### interval_at -/
abbrev s_interval_at : Stmt := topS 17
theorem sc_interval_at : FnScope ["row", "index"] ["row", "index"] (defScope s_interval_at) := ⟨rfl, rfl, rfl, by decide +kernel, rfl, by decide +kernel, by decide +kernel⟩
def spInterval : Sp := fun vs H Q _ => ∃ (a : Addr) (l : List Int) (k : Nat), vs = [.ref a, .int (k : Int)] ∧ RowV H a (l.map V.int) ∧ k < l.length ∧ l.length ≤ 1000 ∧ ∀ H', Same H H' → Q (.int (cz (l.take k) : Nat)) H'
theorem c_interval_at (T : Txt mg) (D : Dn K mg "interval_at" s_interval_at ["row", "index"]) : Cal P w K mg base 1 "interval_at" ["row", "index"] spInterval := by
  refine D.cal sc_interval_at (fun vs H Q E h => ?_) (fun f cdv A outer s H vs Q E hr h => ?_)
  · obtain ⟨a, l, k, rfl, _⟩ := h
    rfl
  · obtain ⟨a, l, k, rfl, hh, hk, hl, q⟩ := h
    have hu := hu_of hr
    refine ⟨_, (pss_one (ps_ret (pe_tcount (pe_slice sl_tupF (pv 0) po_none (po_some (pv 1))) pe_int))), ?_⟩
    refine ⟨.ref a, rfl, .int (k : Int), rfl, k, rfl, a, l.map V.int, rfl, hh.sq, fun z => ?_, fun p o n d => ?_⟩
    · have e := z.2
      rw [sIxN, List.length_map] at e
      omega
    · rw [cutV_take, ← List.map_take]
      have rv : RowV (upd H p (.frz o (.tup ((l.take k).map V.int)))) p ((l.take k).map V.int) := ⟨o, upd_same, d⟩
      exact ⟨p, _, rfl, rv, 0, rfl, rv, q _ (sm_new n)⟩
/-! ### is_number: of a number within the bounds -/
abbrev s_is_number : Stmt := topS 7
theorem sc_is_number : FnScope ["value", "low", "high"] ["value", "low", "high"] (defScope s_is_number) := ⟨rfl, rfl, rfl, by decide +kernel, rfl, by decide +kernel, by decide +kernel⟩
def spNumber : Sp := fun vs H Q _ => ∃ n lo hi : Int, vs = [.int n, .int lo, .int hi] ∧ lo ≤ n ∧ n ≤ hi ∧ Q (.bl true) H
theorem c_is_number (T : Txt mg) (D : Dn K mg "is_number" s_is_number ["value", "low", "high"]) : Cal P w K mg base 1 "is_number" ["value", "low", "high"] spNumber := by
  refine D.cal sc_is_number (fun vs H Q E h => ?_) (fun f cdv A outer s H vs Q E hr h => ?_)
  · obtain ⟨n, lo, hi, rfl, _⟩ := h
    rfl
  · obtain ⟨n, lo, hi, rfl, h1, h2, q⟩ := h
    have hu := hu_of hr
    refine ⟨_, (pss_one (ps_ret (pe_and (pe_callB call_isi (by rfl) T.isinstance (by decide +kernel) (pa_cons (pv 0) (pa_cons (pe_bltn (by rfl) T.int (by decide +kernel) (show RelV (.ty "int") _ from rfl)) pa_nil))) (pe_and (pe_not (pe_callB call_isi (by rfl) T.isinstance (by decide +kernel) (pa_cons (pv 0) (pa_cons (pe_bltn (by rfl) T.bool (by decide +kernel) (show RelV (.ty "bool") _ from rfl)) pa_nil)))) (pe_one (pe_chain op_le op_le (pv 1) (pv 0) (pv 2))))))), ?_⟩
    refine ⟨_, rfl, ?_⟩
    refine ⟨.int n, .ty "int", .type "int", .type "int", true, rfl, .ty "int", .base (.int n), kit_ty (by decide +kernel), true, rfl, ?_⟩
    refine ⟨_, rfl, .int n, .ty "bool", .type "int", .type "bool", false, rfl, .ty "bool", .base (.int n), kit_ty (by decide +kernel), false, rfl, true, rfl, ?_⟩
    refine ⟨_, rfl, _, rfl, lo, n, rfl, rfl, _, rfl, ?_⟩
    rw [decide_eq_true h1]
    refine ⟨_, rfl, n, hi, rfl, rfl, ?_⟩
    show Q (.bl (decide (n ≤ hi))) H
    rw [decide_eq_true h2]
    exact q
/-! ### all_places -/
abbrev s_all_places : Stmt := topS 8
theorem sc_all_places : FnScope ["rows", "process", "row", "index", "event"] ["rows"] (defScope s_all_places) := ⟨rfl, rfl, rfl, by decide +kernel, rfl, by decide +kernel, by decide +kernel⟩
def PI3 (H : Hp) (v : V) (x : Nat × Nat × Int) : Prop := TupI H v [(x.1 : Int), (x.2.1 : Int), x.2.2]
def spPlaces : Sp := fun vs H Q _ => ∃ a R, vs = [.ref a] ∧ HistAt H a R ∧ Sz R ∧ ∀ H' D vs ps, Same H H' → H D = none → H' D = some (.lst vs) → Paired (PI3 H') vs ps → PlUp R R.length 0 ps → Q (.ref D) H'
theorem c_all_places (T : Txt mg) (D : Dn K mg "all_places" s_all_places ["rows"]) : Cal P w K mg base 1 "all_places" ["rows"] spPlaces := by
  refine D.cal sc_all_places (fun vs H Q E h => ?_) (fun f cdv A outer s H vs Q E hr h => ?_)
  · obtain ⟨a, R, rfl, _⟩ := h
    rfl
  · obtain ⟨a, R, rfl, hh, sz, q⟩ := h
    have hu := hu_of hr
    refine ⟨_, (pss_one (ps_ret (pe_lc2 (own := [("process", 1), ("row", 2), ("index", 3), ("event", 4)]) (vs1 := [3, 4]) (g := (gTup K 2 (gCons (gName 1) (gCons (gName 2) gNil)))) (g1 := (gTup K 2 (gCons (gName 3) (gCons (gName 4) gNil)))) rfl sc_all_places.nd (pi_enumT (by rfl) T.enumerate (pa_cons (pv 0) pa_nil)) (blkOk_by (N := ["rows", "process", "row", "index", "event"]) (sc := defScope s_all_places) (by decide +kernel)) (by decide) (fun _ _ _ _ _ => (pg_tup rfl (pgs_cons (pg_name (i := 1) sc_all_places.nd rfl (Or.inl rfl)) (pgs_cons (pg_name (i := 2) sc_all_places.nd rfl (Or.inl rfl)) pgs_nil)))) (fun _ _ _ _ _ => pts_nil) (fun _ _ _ _ _ => (pi_enumTK (K := K) T.enumerate (pa_cons (pv 2) pa_nil))) (fun _ _ _ _ _ => (pg_tup rfl (pgs_cons (pg_name (i := 3) sc_all_places.nd rfl (Or.inl rfl)) (pgs_cons (pg_name (i := 4) sc_all_places.nd rfl (Or.inl rfl)) pgs_nil)))) (fun _ _ _ _ _ => pts_nil) (fun _ _ _ _ _ => (pe_tup (pa_cons (pv 1) (pa_cons (pv 3) (pa_cons (pv 4) pa_nil)))))))), ?_⟩
    obtain ⟨vs, ha, pr⟩ := id hh
    have hn := plen pr
    refine ⟨.ref a, rfl, a, vs, rfl, sqT ha, fun D nD => any_it (walk_enumT (xs := vs)) (fun i H' => ∃ ws ps, Acc H D H' ws ∧ Paired (PI3 H') ws ps ∧ PlUp R i 0 ps) ⟨[], [], Acc.start nD, .nil, .start R⟩ (fun i H' _ p => let ⟨_, _, p, _⟩ := p; sqT (p.1 _ _ ha)) ?_ ?_⟩
    · rintro i x H1 H2 hi ⟨ws, ps, p, pw, up⟩ ⟨t, x1, x2, rfl, nt, rfl, e1, e2⟩
      cases Option.some.inj e1
      obtain ⟨l, hlx, r, rfl, hr'⟩ := pgetL pr e2
      have el := row_of hlx
      have hp : i < R.length := by omega
      refine ⟨t, _, rfl, sqT upd_same, rfl, _, _, rfl, _, _, rfl, rfl, rfl, ?_⟩
      have p2 := p.new (o := .tup [.int (i : Int), .ref r]) nt
      have rv : RowV H r (l.map V.int) := hr'
      refine ⟨.ref r, rfl, r, l.map V.int, rfl, ?_, any_it (walk_enumT (xs := l.map V.int)) (fun j H' => ∃ ws ps, Acc H D H' ws ∧ Paired (PI3 H') ws ps ∧ PlUp R i j ps) ⟨ws, ps, p2, pimp pw fun _ _ z => z.im (im_new nt), up⟩ (fun j H' _ p => ?_) ?_ ?_⟩
      · obtain ⟨o, e, d⟩ := rv
        exact .inl (.inr ⟨o, p2.1 _ _ e⟩)
      · obtain ⟨_, _, p, _⟩ := p
        obtain ⟨o, e, d⟩ := rv
        exact .inl (.inr ⟨o, p.1 _ _ e⟩)
      · rintro j x H3 H4 hj ⟨ws, ps, p, pw, up⟩ ⟨t2, y1, y2, rfl, nt2, rfl, f1, f2⟩
        cases Option.some.inj f1
        obtain ⟨e, he, rfl⟩ := map_int f2
        have hev : ev R i j = some e := by unfold ev; rw [el]; exact he
        refine ⟨t2, _, rfl, sqT upd_same, rfl, _, _, rfl, _, _, rfl, rfl, rfl, ?_⟩
        refine ⟨_, rfl, _, rfl, _, rfl, (by show 3 ≤ sizeLine; decide), fun t3 nt3 => ?_⟩
        have p3 := (p.new (o := .tup [.int (j : Int), .int e]) nt2).new (o := .tup [.int (i : Int), .int (j : Int), .int e]) nt3
        have i3 : ISame H3 _ := (im_new nt2).trans (im_new (o := .tup [.int (i : Int), .int (j : Int), .int e]) nt3)
        refine ⟨ws, p3.2, small1000 ?_, _, _, p3.more nD _, psnoc (pimp pw fun _ _ z => (z.im i3).im p3.im) ?_, up.step hev⟩
        · have := up.len
          have := (up.step hev).row hp
          rw [plen pw, up.len]
          have h1 : ((R.take i).map List.length).sum ≤ total R := by
            have e : total R = ((R.take i).map List.length).sum + ((R.drop i).map List.length).sum := by
              unfold total
              rw [← List.sum_append, ← List.map_append, List.take_append_drop]
            omega
          have h2 := ev_lt hev
          have h3 := sz.row i
          have h4 := sz.tot
          omega
        · exact TupI.im (ns := [(i : Int), (j : Int), e]) ⟨t3, rfl, upd_same⟩ p3.im
      · rintro H3 ⟨ws, ps, p, pw, up⟩
        exact ⟨ws, ps, p, pw, up.row hp (by rw [el, List.length_map])⟩
    · rintro H1 ⟨ws, ps, p, pw, up⟩
      rw [hn] at up
      exact q _ _ _ _ p.1 nD p.2 pw up
end
end K57

/-! ## KD2 -/
namespace K57
open PySem PySem.Spec PyProof.Rows L2
/-- a state -/
def StI (H : Hp) (v : V) (x : Nat × Nat) : Prop := TupI H v [(x.1 : Int), (x.2 : Int)]
theorem StI.im {H H' : Hp} {v : V} {x : Nat × Nat} (h : StI H v x) (s : ISame H H') : StI H' v x := TupI.im h s
section
variable {P : Program} {w : World} {K : PySem.W.Frag} {mg : Str → Option Value} {base : Heap}
/-! ### place_of -/
abbrev s_place_of : Stmt := topS 16
theorem sc_place_of : FnScope ["history", "state", "process", "number", "row", "saves", "index", "event"] ["history", "state"] (defScope s_place_of) := ⟨rfl, rfl, rfl, by decide +kernel, rfl, by decide +kernel, by decide +kernel⟩
def spPlace : Sp := fun vs H Q _ => ∃ (a : Addr) (R : Rows) (u : V) (p n : Nat), vs = [.ref a, u] ∧ HistAt H a R ∧ Sz R ∧ StI H u (p, n) ∧ p < R.length ∧ ∀ H', Same H H' → Q (.int (place (row R p) n : Nat)) H'
theorem c_place_of (T : Txt mg) (D : Dn K mg "place_of" s_place_of ["history", "state"]) : Cal P w K mg base 1 "place_of" ["history", "state"] spPlace := by
  refine D.cal sc_place_of (fun vs H Q E h => ?_) (fun f cdv A outer s H vs Q E hr h => ?_)
  · obtain ⟨a, R, u, p, n, rfl, _⟩ := h
    rfl
  · obtain ⟨a, R, u, p, n, rfl, hh, sz, ⟨t, rfl, ht⟩, hp, q⟩ := h
    have hu := hu_of hr
    refine ⟨_, (pss_cons (ps_asg (pv 1) (pg_tup rfl (pgs_cons (pg_name (i := 2) sc_place_of.nd rfl (Or.inl rfl)) (pgs_cons (pg_name (i := 3) sc_place_of.nd rfl (Or.inl rfl)) pgs_nil))))
      (pss_cons (ps_set (i := 4) sc_place_of.nd rfl (Or.inl rfl) (pe_ix ix_tup (pv 0) (pv 2) (fun _ _ => rfl)))
      (pss_cons (ps_if (pt_cmpR op_eq (pv 3) pe_int (nomark _)) (pss_one (ps_ret pe_int)) pss_nil)
      (pss_cons (ps_setLc (i := 5) (own := [("index", 6), ("event", 7)]) (g := (gTup K 2 (gCons (gName 6) (gCons (gName 7) gNil)))) rfl sc_place_of.nd rfl rfl (sw_true rfl rfl rfl (by decide +kernel)) (pi_enumT (by rfl) T.enumerate (pa_cons (pv 4) pa_nil)) (blkOk_by (N := ["history", "state", "process", "number", "row", "saves", "index", "event"]) (sc := defScope s_place_of) (by decide +kernel)) (fun _ _ _ _ _ => (pg_tup rfl (pgs_cons (pg_name (i := 6) sc_place_of.nd rfl (Or.inl rfl)) (pgs_cons (pg_name (i := 7) sc_place_of.nd rfl (Or.inl rfl)) pgs_nil)))) (fun _ _ _ _ _ => (pts_one (pt_cmpR op_eq (pv 7) pe_int (nomark _)))) (fun _ _ _ _ _ => (pv 6)))
      (pss_one (ps_ret (pe_ifExp (pt_cmpR op_gt (pv 3) (pe_callB call_len_seq (by rfl) T.len PySem.boot_len (pa_cons (pv 5) pa_nil)) (nomark _)) (pe_callB call_len_seq (by rfl) T.len PySem.boot_len (pa_cons (pv 4) pa_nil)) (pe_ix ix_list (pv 5) (pe_op op_sub (pv 3) pe_int) (fun _ _ => rfl))))))))), ?_⟩
    obtain ⟨vs, r, ha, hl, hv, hrow⟩ := hh.row hp
    have h60 := sz.row p
    refine ⟨_, rfl, t, _, rfl, sqT ht, rfl, _, _, rfl, _, _, rfl, rfl, ?_⟩
    refine ⟨_, rfl, _, rfl, a, vs, p, .ref r, rfl, rfl, sqT ha, atI_nat hv, ?_⟩
    refine ⟨_, rfl, rfl, _, rfl, ite2 (fun e => ?_) (fun e => ?_)⟩
    · have e0 : (n : Int) = 0 := V.int.inj (of_decide_eq_true e)
      have e1 : n = 0 := by omega
      subst e1
      exact q H (Same.refl H)
    have n0 : n ≠ 0 := fun z => e (by subst z; exact decide_eq_true rfl)
    refine ⟨.ref r, rfl, r, _, rfl, hrow.sq, fun L nL => any_it (walk_enumT (xs := (row R p).map V.int)) (fun i H' => Acc H L H' (((savesTo (row R p) i).map fun (k : Nat) => (k : Int)).map V.int)) (Acc.start nL) (fun i H' _ z => let ⟨o, e, d⟩ := hrow; RowV.sq ⟨o, z.1 _ _ e, d⟩) ?_ ?_⟩
    · rintro i x H1 H2 hi z ⟨t2, x1, x2, rfl, nt, rfl, e1, e2⟩
      cases Option.some.inj e1
      obtain ⟨e, he, rfl⟩ := map_int e2
      refine ⟨t2, _, rfl, sqT upd_same, rfl, _, _, rfl, _, _, rfl, rfl, rfl, ?_⟩
      have z2 := z.new (o := .tup [.int (i : Int), .int e]) nt
      refine ⟨_, rfl, rfl, _, rfl, ite2 (fun c => ?_) (fun c => ?_)⟩
      · have c0 : e = 0 := V.int.inj (of_decide_eq_true c)
        subst c0
        refine ⟨_, rfl, _, z2.2, small1000 ?_, (z2.more nL _).eq (by rw [savesTo_yes he, List.map_append, List.map_append]; rfl)⟩
        rw [List.length_map, List.length_map]
        have : (savesTo (row R p) i).length ≤ i := by
          unfold savesTo
          exact Nat.le_trans (List.length_filter_le ..) (by simp)
        rw [List.length_map] at hi
        omega
      · have c0 : e ≠ 0 := fun y => c (by subst y; exact decide_eq_true rfl)
        exact z2.eq (by rw [savesTo_no (by rw [he]; simpa using c0)])
    · intro H1 z
      rw [List.length_map] at z
      have hlen : ((saves (row R p)).map fun (k : Nat) => (k : Int)).map V.int = (((saves (row R p)).map fun (k : Nat) => (k : Int)).map V.int) := rfl
      have sL : (((saves (row R p)).map fun (k : Nat) => (k : Int)).map V.int).length = (saves (row R p)).length := by rw [List.length_map, List.length_map]
      refine ⟨_, rfl, .ref L, rfl, L, _, rfl, .inl (sqL z.2), _, _, rfl, rfl, _, rfl, ite2 (fun c => ?_) (fun c => ?_)⟩
      · have c1 := of_decide_eq_true c
        have c2 : (saves (row R p)).length < n := by
          have e : (((savesTo (row R p) (row R p).length).map fun (k : Nat) => (k : Int)).map V.int).length = (saves (row R p)).length := sL
          rw [e] at c1
          omega
        have e : place (row R p) n = (row R p).length := by
          unfold place
          rw [if_neg n0, List.getD_eq_getElem?_getD, List.getElem?_eq_none (by omega)]
          rfl
        obtain ⟨o, eo, d⟩ := hrow
        refine ⟨.ref r, rfl, r, _, rfl, .inr (RowV.sq ⟨o, z.1 _ _ eo, d⟩), ?_⟩
        rw [List.length_map, ← e]
        exact q _ z.1
      · have c2 : n ≤ (saves (row R p)).length := by
          have e : (((savesTo (row R p) (row R p).length).map fun (k : Nat) => (k : Int)).map V.int).length = (saves (row R p)).length := sL
          have c1 : ¬ (((((savesTo (row R p) (row R p).length).map fun (k : Nat) => (k : Int)).map V.int).length : Nat) : Int) < (n : Int) := fun y => c (decide_eq_true y)
          rw [e] at c1
          omega
        have hg : (saves (row R p))[n - 1]? = some ((saves (row R p))[n - 1]'(by omega)) := List.getElem?_eq_getElem (by omega)
        have e : place (row R p) n = (saves (row R p))[n - 1]'(by omega) := by
          unfold place
          rw [if_neg n0, List.getD_eq_getElem?_getD, hg]
          rfl
        refine ⟨.ref L, rfl, _, rfl, _, _, rfl, rfl, L, _, _, .int ((saves (row R p))[n - 1]'(by omega) : Nat), rfl, rfl, sqL z.2, ?_, ?_⟩
        · refine at_of (j := n - 1) (by omega) ?_
          show (((saves (row R p)).map fun (k : Nat) => (k : Int)).map V.int)[n - 1]? = _
          rw [List.getElem?_map, List.getElem?_map, hg]
          rfl
        · rw [← e]
          exact q _ z.1
/-! ### all_states -/
abbrev s_all_states : Stmt := topS 22
theorem sc_all_states : FnScope ["history", "process", "last", "number"] ["history"] (defScope s_all_states) := ⟨rfl, rfl, rfl, by decide +kernel, rfl, by decide +kernel, by decide +kernel⟩
def spStates : Sp := fun vs H Q _ => ∃ a R, vs = [.ref a] ∧ HistAt H a R ∧ Sz R ∧ ∀ H' D vs L, Same H H' → H D = none → H' D = some (.lst vs) → Paired (StI H') vs L → (∀ p n, (p, n) ∈ L ↔ IsState R p n) → L.length ≤ 700 → Q (.ref D) H'
theorem c_all_states (T : Txt mg) (D : Dn K mg "all_states" s_all_states ["history"]) (c_state_numbers : Cal P w K mg base 1 "state_numbers" ["history"] spStateNumbers) : Cal P w K mg base 2 "all_states" ["history"] spStates := by
  refine D.cal sc_all_states (fun vs H Q E h => ?_) (fun f cdv A outer s H vs Q E hr h => ?_)
  · obtain ⟨a, R, rfl, _⟩ := h
    rfl
  · obtain ⟨a, R, rfl, hh, sz, q⟩ := h
    have hu := hu_of hr
    refine ⟨_, (pss_one (ps_ret (pe_lc2 (own := [("process", 1), ("last", 2), ("number", 3)]) (vs1 := [3]) (g := (gTup K 2 (gCons (gName 1) (gCons (gName 2) gNil)))) (g1 := (gName 3)) rfl sc_all_states.nd (pi_enumT (by rfl) T.enumerate (pa_cons (pe_cal c_state_numbers (hr.mono (by decide)) (pa_cons (pv 0) pa_nil)) pa_nil)) (blkOk_by (N := ["history", "process", "last", "number"]) (sc := defScope s_all_states) (by decide +kernel)) (by decide) (fun _ _ _ _ _ => (pg_tup rfl (pgs_cons (pg_name (i := 1) sc_all_states.nd rfl (Or.inl rfl)) (pgs_cons (pg_name (i := 2) sc_all_states.nd rfl (Or.inl rfl)) pgs_nil)))) (fun _ _ _ _ _ => pts_nil) (fun _ _ _ _ _ => (pi_range1 rfl T.range (pa_cons (pe_op op_add (pv 2) pe_int) pa_nil))) (fun _ _ _ _ _ => (pg_name (i := 3) sc_all_states.nd rfl (Or.inl rfl))) (fun _ _ _ _ _ => pts_nil) (fun _ _ _ _ _ => (pe_tup (pa_cons (pv 1) (pa_cons (pv 3) pa_nil))))))), ?_⟩
    refine ⟨.ref a, rfl, a, R, rfl, hh, sz.len, fun H0 t s0 nt ht => ?_⟩
    refine ⟨t, _, rfl, sqT ht, fun D nD => any_it (walk_enumT (xs := ((R.map fun l => ((cz l + 1 : Nat) : Int)).map V.int))) (fun i H' => ∃ ws L, Acc H0 D H' ws ∧ Paired (StI H') ws L ∧ StUp R i 0 L) ⟨[], [], Acc.start nD, .nil, .start R⟩ (fun i H' _ p => let ⟨_, _, p, _⟩ := p; sqT (p.1 _ _ ht)) ?_ ?_⟩
    · rintro i x H1 H2 hi ⟨ws, L, p, pw, up⟩ ⟨t1, x1, x2, rfl, nt1, rfl, e1, e2⟩
      cases Option.some.inj e1
      obtain ⟨e, he, rfl⟩ := map_int e2
      rw [List.getElem?_map] at he
      obtain ⟨l, hlx, rfl⟩ := Option.map_eq_some_iff.mp he
      have el := row_of hlx
      have hp : i < R.length := lt_of hlx
      have h60 := sz.row i
      rw [el] at h60
      have hc : cz l ≤ l.length := List.count_le_length
      refine ⟨t1, _, rfl, sqT upd_same, rfl, _, _, rfl, _, _, rfl, rfl, rfl, ?_⟩
      have p2 := p.new (o := .tup [.int (i : Int), .int ((cz l + 1 : Nat) : Int)]) nt1
      refine ⟨_, rfl, _, _, rfl, rfl, _, rfl, by omega, by omega, any_it walk_range0 (fun j H' => ∃ ws L, Acc H0 D H' ws ∧ Paired (StI H') ws L ∧ StUp R i j L) ⟨ws, L, p2, pimp pw fun _ _ z => z.im (im_new nt1), up⟩ (fun _ _ _ _ => trivial) ?_ ?_⟩
      · rintro j x H3 H4 hj ⟨ws, L, p, pw, up⟩ ⟨rfl, rfl⟩
        refine ⟨rfl, _, rfl, _, rfl, (by show 2 ≤ sizeLine; decide), fun t3 nt3 => ?_⟩
        have p3 := p.new (o := .tup [.int (i : Int), .int (j : Int)]) nt3
        refine ⟨ws, p3.2, small1000 ?_, _, _, p3.more nD _, psnoc (pimp pw fun _ _ z => (z.im (im_new nt3)).im p3.im) ?_, up.step⟩
        · rw [plen pw]
          have := up.len
          have := sz.len
          omega
        · exact TupI.im (ns := [(i : Int), (j : Int)]) ⟨t3, rfl, upd_same⟩ p3.im
      · rintro H3 ⟨ws, L, p, pw, up⟩
        refine ⟨ws, L, p, pw, StUp.row up ?_ (by rw [el]; exact h60)⟩
        rw [el]
        omega
    · rintro H1 ⟨ws, L, p, pw, up⟩
      have en : ((R.map fun l => ((cz l + 1 : Nat) : Int)).map V.int).length = R.length := by rw [List.length_map, List.length_map]
      rw [en] at up
      refine q _ _ _ _ (s0.trans p.1) (s0.free nD) p.2 pw up.all ?_
      have := up.len
      have := sz.len
      omega
end
end K57

/-! ## KD3 -/
namespace K57
open PySem PySem.Spec PyProof.Rows L2
section
variable {P : Program} {w : World} {K : PySem.W.Frag} {mg : Str → Option Value} {base : Heap}
/-! ### next_process -/
abbrev s_next_process : Stmt := topS 9
theorem sc_next_process : FnScope ["rows", "done", "sent", "process", "row"] ["rows", "done", "sent"] (defScope s_next_process) := ⟨rfl, rfl, rfl, by decide +kernel, rfl, by decide +kernel, by decide +kernel⟩
@[irreducible] def spNextP : Sp := fun vs H Q _ => ∃ (a : Addr) (R : Rows) (d : Addr) (dn : List Nat) (st : Addr) (kvs : List (Key × V)), vs = [.ref a, .ref d, .ref st] ∧ HistAt H a R ∧ H d = some (.lst (nats dn)) ∧ dn.length = R.length ∧ H st = some (.dK kvs) ∧
  (∀ H', Same H H' → (∀ p e, ev R p (dn.getD p 0) = some e → e < 0 ∧ valV kvs (.inl (-e)) = none) → Q .non H') ∧
  (∀ H' (p : Nat) e, Same H H' → ev R p (dn.getD p 0) = some e → (e < 0 → (valV kvs (.inl (-e))).isSome = true) → Q (.int (p : Int)) H')
theorem c_next_process (T : Txt mg) (D : Dn K mg "next_process" s_next_process ["rows", "done", "sent"]) : Cal P w K mg base 1 "next_process" ["rows", "done", "sent"] spNextP := by
  refine D.cal sc_next_process (fun vs H Q E h => ?_) (fun f cdv A outer s H vs Q E hr h => ?_)
  · unfold spNextP at h
    obtain ⟨a, R, d, dn, st, kvs, rfl, _⟩ := h
    rfl
  · unfold spNextP at h
    obtain ⟨a, R, d, dn, st, kvs, rfl, hh, hd, hl, hs, q0, q1⟩ := h
    have hu := hu_of hr
    refine ⟨_, (pss_cons (ps_for PassesOwn.never rfl (pi_enumT (by rfl) T.enumerate (pa_cons (pv 0) pa_nil)) (pg_tup rfl (pgs_cons (pg_name (i := 3) sc_next_process.nd rfl (Or.inl rfl)) (pgs_cons (pg_name (i := 4) sc_next_process.nd rfl (Or.inl rfl)) pgs_nil))) (pss_one (ps_if (PW.pt (pw_and (pt_cmpR op_lt (pe_ix ix_list (pv 1) (pv 3) (fun _ _ => rfl)) (pe_callB call_len_seq (by rfl) T.len PySem.boot_len (pa_cons (pv 4) pa_nil)) (nomark _)) (pw_and1 (PW.pt (pw_or (pt_cmpR op_ge (pe_ix ix_tup (pv 4) (pe_ix ix_list (pv 1) (pv 3) (fun _ _ => rfl)) (fun _ _ => rfl)) pe_int (nomark _)) (pw_or1 (pt_cmp (pc_din hu (pe_un un_neg (pe_ix ix_tup (pv 4) (pe_ix ix_list (pv 1) (pv 3) (fun _ _ => rfl)) (fun _ _ => rfl))) (pv 2))))))))) (pss_one (ps_ret (pv 3))) pss_nil)))
      (pss_one (ps_ret pe_non))), ?_⟩
    obtain ⟨vs, ha, pr⟩ := hh
    have hn := plen pr
    refine ⟨.ref a, rfl, a, vs, rfl, sqT ha, for_it (walk_enumT (xs := vs)) (fun i σ H' => Same H H' ∧ (∃ y3 y4, σ = [some (.ref a), some (.ref d), some (.ref st), y3, y4]) ∧ ∀ p, p < i → ∀ e, ev R p (dn.getD p 0) = some e → e < 0 ∧ valV kvs (.inl (-e)) = none)
      ⟨Same.refl H, ⟨none, none, rfl⟩, fun p hp => by omega⟩ (fun i σ H' _ p => sqT (p.1 _ _ ha)) ?_ ?_⟩
    · rintro i x σ H1 H2 hi ⟨s1, ⟨y3, y4, rfl⟩, no⟩ ⟨t, x1, x2, rfl, nt, rfl, e1, e2⟩
      cases Option.some.inj e1
      obtain ⟨l, hlx, r, rfl, hr'⟩ := pgetL pr e2
      have el := row_of hlx
      have hp : i < R.length := by omega
      refine ⟨t, _, rfl, sqT upd_same, rfl, _, _, rfl, _, _, rfl, rfl, ?_⟩
      have s2 : Same H (upd H1 t (.tup [.int (i : Int), .ref r])) := sm_fresh s1 nt
      have hd2 := s2 _ _ hd
      have rv := hr'.same s2
      have hdi : atI (nats dn) (i : Int) = some (.int (dn.getD i 0 : Nat)) := at_nats (getD_at (by omega))
      refine ⟨_, rfl, _, rfl, d, _, i, _, rfl, rfl, sqL hd2, hdi, .ref r, rfl, r, _, rfl, .inr rv.sq, _, _, rfl, rfl, _, rfl, ite2 (fun c => ?_) (fun c => ?_)⟩
      · have c1 := of_decide_eq_true c
        rw [List.length_map] at c1
        have he : l[dn.getD i 0]? = some (l[dn.getD i 0]'(by omega)) := List.getElem?_eq_getElem (by omega)
        have hev : ev R i (dn.getD i 0) = some (l[dn.getD i 0]'(by omega)) := by unfold ev; rw [el]; exact he
        generalize (l[dn.getD i 0]'(by omega)) = e at he hev
        refine ⟨_, rfl, _, rfl, _, rfl, d, _, i, _, rfl, rfl, sqL hd2, hdi, r, _, _, .int e, rfl, rfl, rv.sq, at_map he, e, 0, rfl, rfl, _, rfl, ite2 (fun g => ?_) (fun g => ?_)⟩
        · have g1 : (0 : Int) ≤ e := of_decide_eq_true g
          exact ⟨_, rfl, q1 _ i e s2 hev (fun z => by omega)⟩
        · have g1 : ¬ (0 : Int) ≤ e := fun z => g (decide_eq_true z)
          refine ⟨_, rfl, _, rfl, _, rfl, d, _, i, _, rfl, rfl, sqL hd2, hdi, r, _, _, .int e, rfl, rfl, rv.sq, at_map he, e, rfl, _, rfl, st, _, rfl, DGet.k (k := Sum.inl (-e)) (s2 _ _ hs), _, rfl, ?_⟩
          cases hv : valV kvs (Sum.inl (-e) : Key) with
          | some v => exact ⟨_, rfl, q1 _ i e s2 hev (fun z => by rw [hv]; rfl)⟩
          | none =>
            refine ⟨s2, ⟨_, _, rfl⟩, fun p hp' x hx => ?_⟩
            by_cases z : p < i
            · exact no p z x hx
            · have : p = i := by omega
              subst this
              rw [hev] at hx
              cases hx
              exact ⟨by omega, hv⟩
      · have c1 : ¬ ((dn.getD i 0 : Nat) : Int) < ((l.map V.int).length : Nat) := fun z => c (decide_eq_true z)
        rw [List.length_map] at c1
        refine ⟨s2, ⟨_, _, rfl⟩, fun p hp' x hx => ?_⟩
        by_cases z : p < i
        · exact no p z x hx
        · have : p = i := by omega
          subst this
          have := ev_lt hx
          rw [el] at this
          omega
    · rintro σ H1 ⟨s1, ⟨y3, y4, rfl⟩, no⟩
      exact q0 H1 s1 fun p e he => no p (by have := ev_pl he; omega) e he
/-! ### some_order -/
abbrev s_some_order : Stmt := topS 10
theorem sc_some_order : GScope ["history", "done", "sent", "process", "event"] ["history"] (defScope s_some_order) := ⟨rfl, rfl, rfl, by decide +kernel, rfl, by decide +kernel, by decide +kernel⟩
structure CalG (P : Program) (w : World) (K : PySem.W.Frag) (mg : Str → Option Value) (base : Heap) (k : Nat) (x : Str) (ps : List Str) (sp : SpG) : Prop where
  ex : ∃ f fd, GFn P w K mg base k f fd ps sp ∧ mg x = some (.ref f) ∧ PySem.W.keepIn K (.ref f) = true ∧ Binds K fd ps []
theorem Dn.calG {k : Nat} {x : Str} {st : Stmt} {N ps : List Str} {sp : SpG} (D : Dn K mg x st ps) (S : GScope N ps (defScope st)) (len : ∀ vs H Q E, sp vs H Q E → vs.length = ps.length)
    (hbody : ∀ (f : Addr) (cdv : Value) (A : Around) (outer : List Env) (s : Shared) (H : Hp) (vs : List V) (Q : List V → Hp → Prop) (E : XK) (pn : List (Addr × Obj)), Room k (A.deeper (envOfC x (defScope st) s.heap.objs.size f cdv)) → sp vs H Q E →
      ∃ t, GSs (gcxOf P w K mg base N x (defScope st) f cdv A outer s H E pn) (defBody st) t ∧ t { nx := fun ys _ H' => Q ys H', rt := fun ys v H' => v = .non ∧ Q ys H' } [] (L2.start N vs) H) : CalG P w K mg base (k + 1) x ps sp := by
  obtain ⟨f, fd, F, g, b⟩ := D.ex
  have kp := F.kp
  obtain ⟨oc, od, kV, doc, pm, an, cdv, ct, osl, rfl, lk, hcd⟩ := F.ex
  exact ⟨f, _, gfn_of lk hcd S len (hbody f cdv), g, kp, b⟩
theorem pe_lsome {X : Cx} {k : Nat} {x : Str} {ps : List Str} {sp : SpG} {p pos p2 pos2 : Pos} {e : Expr} {es : List Expr} {t : TA} (c : CalG X.prog X.w X.K X.mg X.base k x ps sp) (hr : Room (k + 3) X.A) (hm : X.mg "list" = none) (ha : PA X (e :: es) t) (hg : Gl X x := by rfl) (hgl : Gl X "list" := by rfl) (hdb : (x == ("__debug__" : Str)) = false := by decide)
    (he : starEach (e :: es) X.env = (false, eval e X.env) :: starEach es X.env := by rfl) (hpl : (backTo pos (starEach es X.env)).any (·.1) = false := by rfl)
    (he2 : starEach [.Call (.Name x p) (e :: es) [] pos] X.env = (false, eval (.Call (.Name x p) (e :: es) [] pos) X.env) :: starEach [] X.env := by rfl) :
    PE X (.Call (.Name "list" p2) [.Call (.Name x p) (e :: es) [] pos] [] pos2) (tListG (tCallG sp [] (fun _ _ _ => False) t)) := by
  obtain ⟨f, fd, F, hm2, hk, hb⟩ := c.ex
  exact pe_listG (pgen_call F (hr.mono (by omega)) hg hm2 hk hb .nil ha hdb he hpl) passF (fun _ _ _ z => z.elim) hr hgl hm (by decide +kernel) (by decide) (by decide) he2
def OI (H : Hp) (v : V) (x : Nat × Int) : Prop := TupI H v [(x.1 : Int), x.2]
def spOrder : SpG := fun vs H cont _ => ∃ a R, vs = [.ref a] ∧ HistAt H a R ∧ Good R ∧ Sz R ∧ ∀ out ws H', Same H H' → Ordr R out → out.length = total R → Paired (OI H') ws out → cont ws H'
theorem c_some_order (T : Txt mg) (D : Dn K mg "some_order" s_some_order ["history"]) (c_next_process : Cal P w K mg base 1 "next_process" ["rows", "done", "sent"] spNextP) : CalG P w K mg base 2 "some_order" ["history"] spOrder := by
  refine D.calG sc_some_order (fun vs H Q E h => ?_) (fun f cdv A outer s H vs Q E pn hr h => ?_)
  · obtain ⟨a, R, rfl, _⟩ := h
    rfl
  · obtain ⟨a, R, rfl, hh, g, sz, q⟩ := h
    have hu := hu_of hr
    refine ⟨_, gss_cons (gs_ps (ps_set (i := 1) sc_some_order.nd rfl (.inl rfl) (pe_op op_rep (pe_lst (pa_cons pe_int pa_nil)) (pe_callB call_len_seq (by rfl) T.len PySem.boot_len (pa_cons (pv 0) pa_nil)))))
      (gss_cons (gs_ps (ps_set (i := 2) sc_some_order.nd rfl (.inl rfl) pe_dnewK))
      (gss_cons (gs_ps (ps_set (i := 3) sc_some_order.nd rfl (.inl rfl) (pe_cal c_next_process (hr.mono (by decide)) (pa_cons (pv 0) (pa_cons (pv 1) (pa_cons (pv 2) pa_nil))))))
      (gss_cons (gs_while owns_gcx (pt_cmpR op_notN (pv 3) pe_non (nomark _))
        (gss_cons (gs_ps (ps_set (i := 4) sc_some_order.nd rfl (.inl rfl) (pe_ix ix_tup (pe_ix ix_tup (pv 0) (pv 3) (fun _ _ => rfl)) (pe_ix ix_list (pv 1) (pv 3) (fun _ _ => rfl)) (fun _ _ => rfl))))
        (gss_cons (gs_ps (ps_augS (pv 1) (pv 3) get_listK pe_int ip_add set_list))
        (gss_cons (gs_ps (ps_dput hu (pv 2) (pv 4) pe_bl rfl))
        (gss_cons (gs_yield (pe_tup (pa_cons (pv 3) (pa_cons (pv 4) pa_nil))))
        (gss_cons (gs_ps (ps_set (i := 3) sc_some_order.nd rfl (.inl rfl) (pe_cal c_next_process (hr.mono (by decide)) (pa_cons (pv 0) (pa_cons (pv 1) (pa_cons (pv 2) pa_nil)))))) gss_nil))))))
      gss_nil))), ?_⟩
    obtain ⟨vs, ha, pr⟩ := id hh
    have hn := plen pr
    have h6 := sz.len
    -- done = [0] * len(history); sent = {}
    refine ⟨Nat.succ_le_of_lt (by decide), fun l0 n0 => ?_⟩
    have s0 := sm_new (o := .lst [.int 0]) n0
    refine ⟨.ref a, rfl, a, vs, rfl, .inr (sqT (s0 _ _ ha)), l0, _, _, rfl, rfl, upd_same, by omega, by omega, by simp; exact small63 (by omega), fun d nd => ?_⟩
    have ez : (List.replicate ((vs.length : Nat) : Int).toNat [V.int 0]).flatten = nats (List.replicate R.length 0) := by
      unfold nats
      rw [List.map_replicate, List.map_replicate, ← hn, Int.toNat_natCast]
      generalize vs.length = m
      induction m with
      | zero => rfl
      | succ m ih => rw [List.replicate_succ, List.replicate_succ, List.flatten_cons, ih]; rfl
    rw [ez]
    have s1 := sm_fresh (o := .lst (nats (List.replicate R.length 0))) s0 nd
    intro st nst
    have s2 := sm_fresh (o := .dK []) s1 nst
    have nd0 : H d = none := s0.free nd
    have nst0 : H st = none := s1.free nst
    have hds : d ≠ st := fun z => by subst z; rw [upd_same] at nst; cases nst
    have hd2 : (upd (upd (upd H l0 (.lst [.int 0])) d (.lst (nats (List.replicate R.length 0)))) st (.dK [])) d = some (.lst (nats (List.replicate R.length 0))) := by rw [upd_ne hds, upd_same]
    -- the state between two turns
    let Z : List V → List (Nat × Int) → List Nat → List (Key × V) → Hp → Prop := fun ys out dn kvs H' => Same H H' ∧ H' d = some (.lst (nats dn)) ∧ dn.length = R.length ∧ (∀ p, dn.getD p 0 = (proj out p).length) ∧ H' st = some (.dK kvs) ∧ kvs.length ≤ out.length ∧
      (∀ k : Int, (valV kvs (.inl k)).isSome = true ↔ ∃ u q : Nat, out[u]? = some (q, k)) ∧ Paired (OI H') ys out ∧ Ordr R out
    have hzero : ∀ p, (List.replicate R.length 0).getD p 0 = 0 := fun p => by
      rw [List.getD_eq_getElem?_getD, List.getElem?_replicate]
      split <;> rfl
    have Z0 : Z [] [] (List.replicate R.length 0) [] _ := ⟨s2, hd2, List.length_replicate, hzero, upd_same, Nat.le_refl _, fun k => ⟨fun z => (by cases z), fun ⟨u, q, z⟩ => (by cases z)⟩, .nil, .nil R⟩
    -- what next_process gives
    let N : List (Nat × Int) → V → Prop := fun out pv => (pv = .non ∧ out.length = total R) ∨ ∃ (p : Nat) (e : Int), pv = .int (p : Int) ∧ ev R p (proj out p).length = some e ∧ (e < 0 → ∃ u q : Nat, out[u]? = some (q, -e))
    have step : ∀ {ys : List V} {out : List (Nat × Int)} {dn : List Nat} {kvs : List (Key × V)} {H' : Hp} {Q' : VK}, Z ys out dn kvs H' → (∀ H2 pv, Z ys out dn kvs H2 → N out pv → Q' pv H2) → spNextP [.ref a, .ref d, .ref st] H' Q' E0 := by
      rintro ys out dn kvs H' Q' ⟨z1, z2, z3, z4, z5, z6, z7, z8, z9⟩ k
      have zs : ∀ {H2}, Same H' H2 → Z ys out dn kvs H2 := fun {H2} sm => ⟨z1.trans sm, sm _ _ z2, z3, z4, sm _ _ z5, z6, z7, pimp z8 fun _ _ y => TupI.im y (im sm), z9⟩
      unfold spNextP
      refine ⟨a, R, d, dn, st, kvs, rfl, hh.im (im z1), z2, z3, z5, fun H2 sm no => k H2 _ (zs sm) (.inl ⟨rfl, ?_⟩), fun H2 p e sm he hi => k H2 _ (zs sm) (.inr ⟨p, e, rfl, by rw [← z4]; exact he, fun y => (z7 _).mp (hi y)⟩)⟩
      refine z9.full fun p => z9.next g (fun p e he => ?_) p
      rw [← z4] at he
      obtain ⟨h1, h2⟩ := no p e he
      exact ⟨h1, fun u q x => by
        have y := (z7 (-e)).mpr ⟨u, q, x⟩
        rw [h2] at y
        cases y⟩
    -- process = next_process(history, done, sent)
    refine ⟨_, rfl, _, rfl, _, rfl, step Z0 fun H2 pv z nz => ?_⟩
    refine ⟨fun m ys σ H' => ∃ out dn kvs pv y4, m = total R - out.length ∧ σ = [some (.ref a), some (.ref d), some (.ref st), some pv, y4] ∧ Z ys out dn kvs H' ∧ N out pv, ⟨total R - 0, [], _, _, pv, none, rfl, rfl, z, nz⟩, ?_⟩
    rintro m ys σ H' ⟨out, dn, kvs, pv, y4, rfl, rfl, z, nz⟩
    refine ⟨_, rfl, rfl, _, rfl, ?_⟩
    rcases nz with ⟨rfl, full⟩ | ⟨p, e, rfl, hev, hsent⟩
    · obtain ⟨z1, z2, z3, z4, z5, z6, z7, z8, z9⟩ := z
      exact q _ _ _ z1 z9 full z8
    · obtain ⟨z1, z2, z3, z4, z5, z6, z7, z8, z9⟩ := z
      have hp := ev_pl hev
      obtain ⟨vs', r, ha', hl', hv', hrow⟩ := hh.row hp
      have hdp : dn[p]? = some (proj out p).length := by rw [getD_at (by omega), z4]
      have sn := z9.snoc hev hsent
      have ln := sn.len
      rw [List.length_append, List.length_singleton] at ln
      have h60 := sz.tot
      refine ⟨fun ys' σ' H'' => ∃ out' dn' kvs' pv' y4', total R - out'.length < total R - out.length ∧ σ' = [some (.ref a), some (.ref d), some (.ref st), some pv', y4'] ∧ Z ys' out' dn' kvs' H'' ∧ N out' pv', fun ys' σ' H'' ⟨out', dn', kvs', pv', y4', hm, b⟩ => ⟨_, hm, out', dn', kvs', pv', y4', rfl, b⟩, ?_⟩
      -- event = history[process][done[process]]
      refine ⟨_, rfl, _, rfl, a, vs', p, .ref r, rfl, rfl, sqT (z1 _ _ ha'), atI_nat hv', _, rfl, _, rfl, d, _, p, _, rfl, rfl, sqL z2, at_nats hdp, r, _, _, .int e, rfl, rfl, (hrow.same z1).sq, at_map hev, ?_⟩
      -- done[process] += 1
      refine ⟨_, rfl, _, rfl, d, _, p, _, rfl, rfl, sqL z2, nats_at hdp, _, 1, rfl, rfl, d, _, p, p, rfl, rfl, z2, ?_, ?_⟩
      · rw [nats_len]
        exact ix_at (by omega)
      generalize hX : upd H' d _ = X
      have eS : (nats dn).set p (.int (((proj out p).length : Int) + 1)) = nats (dn.set p ((proj out p).length + 1)) := nats_set dn p ((proj out p).length + 1)
      have X1 : X d = some (.lst (nats (dn.set p ((proj out p).length + 1)))) := by rw [← hX, upd_same]; exact congrArg (fun l => some (HO.lst l)) eS
      have X2 : X st = some (.dK kvs) := by rw [← hX, upd_ne hds.symm]; exact z5
      have X3 : Same H X := by rw [← hX]; exact sm_own z1 nd0
      have X4 : ISame H' X := by rw [← hX]; exact im_lst z2
      -- sent[event] = True
      refine ⟨_, rfl, _, rfl, st, _, rfl, DPut.k (k := Sum.inl e) X2 (small1000 (by have := z9.len; omega)), ?_⟩
      have Y1 : ∀ o, (upd X st o) d = some (.lst (nats (dn.set p ((proj out p).length + 1)))) := fun o => by rw [upd_ne hds]; exact X1
      have Y3 : ∀ o, Same H (upd X st o) := fun o => sm_own X3 nst0
      -- yield (process, event)
      refine ⟨?_, _, rfl, _, rfl, (by show 2 ≤ sizeLine; decide), fun t nt => ?_⟩
      · rw [plen z8]
        exact small1000 (by have := z9.len; omega)
      -- process = next_process(history, done, sent)
      refine ⟨_, rfl, _, rfl, _, rfl, step (ys := ys ++ [.ref t]) (out := out ++ [(p, e)]) (dn := dn.set p ((proj out p).length + 1)) (kvs := putK kvs (Sum.inl e) (.bl true)) ⟨sm_fresh (Y3 _) nt, keep_new (Y1 _) nt, by rw [List.length_set]; exact z3, fun p' => ?_, keep_new upd_same nt, ?_, fun k => ?_, ?_, sn⟩ fun H2 pv z nz => ⟨_, _, _, pv, _, by rw [List.length_append, List.length_singleton]; omega, rfl, z, nz⟩⟩
      · rw [proj_snoc, List.getD_eq_getElem?_getD]
        by_cases c : p = p'
        · subst c
          rw [if_pos rfl, List.getElem?_set_self (by omega), List.length_append]
          rfl
        · rw [if_neg c, List.getElem?_set_ne c, ← List.getD_eq_getElem?_getD]
          exact z4 p'
      · refine Nat.le_trans (length_putK ..) ?_
        rw [List.length_append, List.length_singleton]
        omega
      · rw [valV_put]
        constructor
        · intro y
          by_cases c : (Sum.inl k : Key) = Sum.inl e
          · cases c
            exact ⟨out.length, p, List.getElem?_concat_length⟩
          · rw [if_neg c] at y
            obtain ⟨u, q', hu'⟩ := (z7 k).mp y
            exact ⟨u, q', by rw [List.getElem?_append_left (lt_of hu')]; exact hu'⟩
        · rintro ⟨u, q', hu'⟩
          by_cases c : (Sum.inl k : Key) = Sum.inl e
          · rw [if_pos c]
            rfl
          · rw [if_neg c]
            refine (z7 k).mpr ⟨u, q', ?_⟩
            by_cases hlt : u < out.length
            · rw [List.getElem?_append_left hlt] at hu'
              exact hu'
            · have h1 := lt_of hu'
              rw [List.length_append, List.length_singleton] at h1
              have h2 : u = out.length := by omega
              subst h2
              rw [List.getElem?_concat_length] at hu'
              cases hu'
              exact absurd rfl c
      · have i1 : ISame H' (upd (upd X st (.dK (putK kvs (Sum.inl e) (.bl true)))) t (.tup [.int (p : Int), .int e])) := (X4.trans (im_dK X2)).trans (im_new nt)
        exact psnoc (pimp z8 fun _ _ y => TupI.im y i1) ⟨t, rfl, upd_same⟩
end
end K57

/-! ## KD4 -/
namespace K57
open PySem PySem.Spec PyProof.Rows L2
section
variable {P : Program} {w : World} {K : PySem.W.Frag} {mg : Str → Option Value} {base : Heap}
/-- sum([len(row) for row in ..]): the list of the lengths -/
theorem lens_eq (R : Rows) : ((R.map List.length).map fun (k : Nat) => (k : Int)).sum = (total R : Nat) := sum_nats _
/-! ### form_error -/
abbrev s_form_error : Stmt := topS 11
theorem sc_form_error : FnScope ["value", "process", "row", "index", "event"] ["value"] (defScope s_form_error) := ⟨rfl, rfl, rfl, by decide +kernel, rfl, by decide +kernel, by decide +kernel⟩
def spForm : Sp := fun vs H Q _ => ∃ a R, vs = [.ref a] ∧ HistAt H a R ∧ Good R ∧ Sz R ∧ ∀ H', Same H H' → Q .non H'
theorem c_form_error (T : Txt mg) (D : Dn K mg "form_error" s_form_error ["value"]) (c_all_places : Cal P w K mg base 1 "all_places" ["rows"] spPlaces) (c_is_number : Cal P w K mg base 1 "is_number" ["value", "low", "high"] spNumber) : Cal P w K mg base 2 "form_error" ["value"] spForm := by
  refine D.cal sc_form_error (fun vs H Q E h => ?_) (fun f cdv A outer s H vs Q E hr h => ?_)
  · obtain ⟨a, R, rfl, _⟩ := h
    rfl
  · obtain ⟨a, R, rfl, hh, g, sz, q⟩ := h
    have hu := hu_of hr
    refine ⟨_, (pss_cons (ps_if (PW.pt (pw_or (pt_not (pt_val (pe_callB call_isi (by rfl) T.isinstance (by decide +kernel) (pa_cons (pv 0) (pa_cons (pe_bltn (by rfl) T.tuple (by decide +kernel) (show RelV (.ty "tuple") _ from rfl)) pa_nil))))) (pw_or1 (pt_not (pt_chain op_le op_le pe_int (pe_callB call_len_seq (by rfl) T.len PySem.boot_len (pa_cons (pv 0) pa_nil)) (pe_constI T.mP)))))) (pss_one (ps_ret (pe_tup (pa_cons pe_str pa_nil)))) pss_nil)
      (pss_cons (ps_for PassesOwn.never rfl (pi_enumT (by rfl) T.enumerate (pa_cons (pv 0) pa_nil)) (pg_tup rfl (pgs_cons (pg_name (i := 1) sc_form_error.nd rfl (Or.inl rfl)) (pgs_cons (pg_name (i := 2) sc_form_error.nd rfl (Or.inl rfl)) pgs_nil))) (pss_one (ps_if (pt_not (pt_val (pe_callB call_isi (by rfl) T.isinstance (by decide +kernel) (pa_cons (pv 2) (pa_cons (pe_bltn (by rfl) T.tuple (by decide +kernel) (show RelV (.ty "tuple") _ from rfl)) pa_nil))))) (pss_one (ps_ret (pe_tup (pa_cons pe_str (pa_cons (pv 1) pa_nil))))) pss_nil)))
      (pss_cons (ps_if (pt_cmpR op_gt (pe_callB (cr_sum rfl) (by rfl) T.sum (by decide +kernel) (pa_cons (pe_lc (own := [("row", 2)]) (g := (gName 2)) rfl sc_form_error.nd (pi_tup (pv 0)) (blkOk_by (N := ["value", "process", "row", "index", "event"]) (sc := defScope s_form_error) (by decide +kernel)) (fun _ _ _ _ _ => (pg_name (i := 2) sc_form_error.nd rfl (Or.inl rfl))) (fun _ _ _ _ _ => pts_nil) (fun _ _ _ _ _ => (pe_callB (len_seqK (K := K)) (by rfl) T.len PySem.boot_len (pa_cons (pv 2) pa_nil)))) pa_nil)) (pe_constI T.mE) (nomark _)) (pss_one (ps_ret (pe_tup (pa_cons pe_str pa_nil)))) pss_nil)
      (pss_cons (ps_for PassesOwn.never rfl (pi_list (pe_cal c_all_places (hr.mono (by decide)) (pa_cons (pv 0) pa_nil))) (pg_tup rfl (pgs_cons (pg_name (i := 1) sc_form_error.nd rfl (Or.inl rfl)) (pgs_cons (pg_name (i := 3) sc_form_error.nd rfl (Or.inl rfl)) (pgs_cons (pg_name (i := 4) sc_form_error.nd rfl (Or.inl rfl)) pgs_nil)))) (pss_one (ps_if (pt_not (pt_val (pe_cal c_is_number (hr.mono (by decide)) (pa_cons (pv 4) (pa_cons (pe_un un_neg (pe_constI T.mM)) (pa_cons (pe_constI T.mM) pa_nil)))))) (pss_one (ps_ret (pe_tup (pa_cons pe_str (pa_cons (pv 1) (pa_cons (pv 3) pa_nil)))))) pss_nil)))
      (pss_one (ps_ret pe_non)))))), ?_⟩
    obtain ⟨vs, ha, pr⟩ := id hh
    have hn := plen pr
    have h1 := sz.pos
    have h6 := sz.len
    refine ⟨.ref a, rfl, .ref a, .ty "tuple", .type "tuple", .type "tuple", true, rfl, .ty "tuple", .base (.tup ha), kit_ty (by decide +kernel), true, rfl, ?_⟩
    refine ⟨.ref a, rfl, a, vs, rfl, .inr (sqT ha), 1, _, rfl, rfl, _, rfl, ite2 (fun _ => ?_) (fun c => absurd (decide_eq_true (by omega)) c)⟩
    refine ⟨_, 6, rfl, rfl, _, rfl, ?_⟩
    refine iteNS (by omega) ?_
    -- every row is a tuple
    refine ⟨.ref a, rfl, a, vs, rfl, sqT ha, for_it (walk_enumT (xs := vs)) (fun i σ H' => Same H H' ∧ ∃ y1 y2, σ = [some (.ref a), y1, y2, none, none]) ⟨Same.refl H, none, none, rfl⟩ (fun i σ H' _ p => sqT (p.1 _ _ ha)) ?_ ?_⟩
    · rintro i x σ H1 H2 hi ⟨s1, y1, y2, rfl⟩ ⟨t, x1, x2, rfl, nt, rfl, e1, e2⟩
      cases Option.some.inj e1
      obtain ⟨l, hlx, r, rfl, hr'⟩ := pgetL pr e2
      obtain ⟨o, ho, _⟩ := hr'
      refine ⟨t, _, rfl, sqT upd_same, rfl, _, _, rfl, _, _, rfl, rfl, ?_⟩
      have s2 : Same H (upd H1 t (.tup [.int (i : Int), .ref r])) := sm_fresh s1 nt
      exact ⟨.ref r, rfl, .ref r, .ty "tuple", .type "tuple", .type "tuple", true, rfl, .ty "tuple", .fTuple (s2 _ _ ho), kit_ty (by decide +kernel), true, rfl, s2, _, _, rfl⟩
    rintro σ H1 ⟨s1, y1, y2, rfl⟩
    -- not too many events
    refine ⟨.ref a, rfl, a, rfl, ⟨vs, sqT (s1 _ _ ha)⟩, fun L nL => any_it (walk_tup (xs := vs)) (fun i H' => Acc H1 L H' (nats ((R.take i).map List.length))) (Acc.start nL) (fun i H' _ z => sqT (z.1 _ _ (s1 _ _ ha))) ?_ ?_⟩
    · rintro i x H2 H3 hi z ⟨rfl, hx⟩
      obtain ⟨l, hlx, r, rfl, hr'⟩ := pgetL pr hx
      refine ⟨rfl, .ref r, rfl, r, _, rfl, .inr (hr'.same (s1.trans z.1)).sq, _, z.2, small1000 (by rw [nats_len, List.length_map, List.length_take]; omega), (z.more nL _).eq ?_⟩
      rw [List.length_map, nats_snoc, take_one hlx, List.map_append]
      rfl
    intro H2 z
    rw [take_all (by omega)] at z
    refine ⟨L, _, rfl, sqL z.2, _, 60, rfl, rfl, _, rfl, ite2 (fun c => ?_) (fun _ => ?_)⟩
    · have c1 := of_decide_eq_true c
      rw [lens_eq] at c1
      have := sz.tot
      omega
    -- every event is a number within the bounds
    have s2 := s1.trans z.1
    refine ⟨.ref a, rfl, a, R, rfl, hh.im (im s2), sz, fun H3 D ws ps sm nD hD pw up => ?_⟩
    refine ⟨D, rfl, ⟨ws, sqL hD⟩, for_it (walk_list (xs := ws)) (fun i σ H' => Same H3 H' ∧ ∃ y1 y2 y3 y4, σ = [some (.ref a), y1, y2, y3, y4]) ⟨Same.refl _, _, _, _, _, rfl⟩ (fun i σ H' _ p => sqL (p.1 _ _ hD)) ?_ ?_⟩
    · rintro i x σ H4 H5 hi ⟨s3, y1, y2, y3, y4, rfl⟩ ⟨rfl, hx⟩
      obtain ⟨⟨p, j, e⟩, hm, t, rfl, ht⟩ := pgetL pw hx
      have hev := up.all.mp (List.mem_of_getElem? hm)
      obtain ⟨g1, g2⟩ := g.rng p j e hev
      refine ⟨t, _, rfl, sqT (s3 _ _ ht), rfl, _, _, rfl, _, _, rfl, _, _, rfl, rfl, ?_⟩
      exact ⟨_, rfl, 24, rfl, e, -24, 24, rfl, g1, g2, true, rfl, s3, _, _, _, _, rfl⟩
    rintro σ H4 ⟨s3, _⟩
    exact q _ ((s2.trans sm).trans s3)
/-! ### message_error -/
abbrev s_message_error : Stmt := topS 12
theorem sc_message_error : FnScope ["rows", "known", "senders", "process", "index", "event"] ["rows"] (defScope s_message_error) := ⟨rfl, rfl, rfl, by decide +kernel, rfl, by decide +kernel, by decide +kernel⟩
/-- known and senders behind the first i events -/
structure ME (R : Rows) (ps : List (Nat × Nat × Int)) (i : Nat) (kv1 kv2 : List (Key × V)) : Prop where
  l1 : kv1.length ≤ i
  l2 : kv2.length ≤ i
  in1 : ∀ e : Int, (valV kv1 (.inl e)).isSome = true → e ≠ 0 ∧ ∃ (j p x : Nat), j < i ∧ ps[j]? = some (p, x, e)
  in2 : ∀ (e : Int) v, valV kv2 (.inl e) = some v → ∃ (p x : Nat), v = .int (p : Int) ∧ ev R p x = some e
  in3 : ∀ (j p x : Nat) (e : Int), j < i → ps[j]? = some (p, x, e) → 0 < e → (valV kv2 (.inl e)).isSome = true
theorem ME.start (R : Rows) (ps : List (Nat × Nat × Int)) : ME R ps 0 [] [] := ⟨Nat.le_refl _, Nat.le_refl _, fun e z => (by cases z), fun e v z => (by cases z), fun j p x e hj => (by omega)⟩
section
variable {R : Rows} {ps : List (Nat × Nat × Int)} {i : Nat} {kv1 kv2 : List (Key × V)} {p x : Nat} {e : Int}
theorem ME.no (m : ME R ps i kv1 kv2) (g : Good R) (up : PlUp R R.length 0 ps) (hm : ps[i]? = some (p, x, e)) : valV kv1 (.inl e) = none := by
  cases hv : valV kv1 (.inl e : Key) with
  | none => rfl
  | some v =>
    obtain ⟨e0, j', p', x', hj', hm'⟩ := m.in1 e (by rw [hv]; rfl)
    have hev := up.all.mp (List.mem_of_getElem? hm)
    have hev' := up.all.mp (List.mem_of_getElem? hm')
    obtain ⟨rfl, rfl⟩ := g.uniq _ _ _ _ e e0 hev hev'
    have := (List.getElem?_inj (lt_of hm') up.nd).mp (hm'.trans hm.symm)
    omega
theorem ME.known (m : ME R ps i kv1 kv2) (hm : ps[i]? = some (p, x, e)) (e0 : e ≠ 0) : (putK kv1 (.inl e) (.bl true)).length ≤ i + 1 ∧ ∀ e' : Int, (valV (putK kv1 (.inl e) (.bl true)) (.inl e')).isSome = true → e' ≠ 0 ∧ ∃ (j p x : Nat), j < i + 1 ∧ ps[j]? = some (p, x, e') := by
  refine ⟨Nat.le_trans (length_putK ..) (by have := m.l1; omega), fun e' h => ?_⟩
  rw [valV_put] at h
  by_cases c : (Sum.inl e' : Key) = Sum.inl e
  · cases c
    exact ⟨e0, i, p, x, by omega, hm⟩
  · rw [if_neg c] at h
    obtain ⟨h0, j, p', x', hj, hm'⟩ := m.in1 e' h
    exact ⟨h0, j, p', x', by omega, hm'⟩
theorem ME.keep (m : ME R ps i kv1 kv2) : ∀ e' : Int, (valV kv1 (.inl e')).isSome = true → e' ≠ 0 ∧ ∃ (j p x : Nat), j < i + 1 ∧ ps[j]? = some (p, x, e') := fun e' h => by
  obtain ⟨h0, j, p', x', hj, hm'⟩ := m.in1 e' h
  exact ⟨h0, j, p', x', by omega, hm'⟩
theorem ME.rest (m : ME R ps i kv1 kv2) (hm : ps[i]? = some (p, x, e)) (e0 : e ≤ 0) {kv1' : List (Key × V)} (h1 : kv1'.length ≤ i + 1) (h2 : ∀ e' : Int, (valV kv1' (.inl e')).isSome = true → e' ≠ 0 ∧ ∃ (j p x : Nat), j < i + 1 ∧ ps[j]? = some (p, x, e')) : ME R ps (i + 1) kv1' kv2 := by
  refine ⟨h1, by have := m.l2; omega, h2, m.in2, fun j p' x' e' hj hm' h0 => ?_⟩
  by_cases c : j < i
  · exact m.in3 j p' x' e' c hm' h0
  · have : j = i := by omega
    subst this
    rw [hm] at hm'
    cases hm'
    omega
theorem ME.pos (m : ME R ps i kv1 kv2) (up : PlUp R R.length 0 ps) (hm : ps[i]? = some (p, x, e)) (e0 : 0 < e) : ME R ps (i + 1) (putK kv1 (.inl e) (.bl true)) (putK kv2 (.inl e) (.int (p : Int))) := by
  obtain ⟨h1, h2⟩ := m.known hm (by omega)
  refine ⟨h1, Nat.le_trans (length_putK ..) (by have := m.l2; omega), h2, fun e' v h => ?_, fun j p' x' e' hj hm' h0 => ?_⟩
  · rw [valV_put] at h
    by_cases c : (Sum.inl e' : Key) = Sum.inl e
    · cases c
      rw [if_pos rfl] at h
      exact ⟨p, x, (Option.some.inj h).symm, up.all.mp (List.mem_of_getElem? hm)⟩
    · rw [if_neg c] at h
      exact m.in2 e' v h
  · rw [valV_put]
    by_cases c : (Sum.inl e' : Key) = Sum.inl e
    · rw [if_pos c]
      rfl
    · rw [if_neg c]
      refine m.in3 j p' x' e' ?_ hm' h0
      by_cases cj : j < i
      · exact cj
      · have : j = i := by omega
        subst this
        rw [hm] at hm'
        cases hm'
        exact absurd rfl c
end
theorem c_message_error (T : Txt mg) (D : Dn K mg "message_error" s_message_error ["rows"]) (c_all_places : Cal P w K mg base 1 "all_places" ["rows"] spPlaces) : Cal P w K mg base 2 "message_error" ["rows"] spForm := by
  refine D.cal sc_message_error (fun vs H Q E h => ?_) (fun f cdv A outer s H vs Q E hr h => ?_)
  · obtain ⟨a, R, rfl, _⟩ := h
    rfl
  · obtain ⟨a, R, rfl, hh, g, sz, q⟩ := h
    have hu := hu_of hr
    refine ⟨_, (pss_cons (ps_par (i := 1) (j := 2) rfl sc_message_error.nd rfl rfl (by decide) rfl rfl (pa_cons pe_dnewK (pa_cons pe_dnewK pa_nil)) (by rfl))
      (pss_cons (ps_for PassesOwn.never rfl (pi_list (pe_cal c_all_places (hr.mono (by decide)) (pa_cons (pv 0) pa_nil))) (pg_tup rfl (pgs_cons (pg_name (i := 3) sc_message_error.nd rfl (Or.inl rfl)) (pgs_cons (pg_name (i := 4) sc_message_error.nd rfl (Or.inl rfl)) (pgs_cons (pg_name (i := 5) sc_message_error.nd rfl (Or.inl rfl)) pgs_nil)))) (pss_cons (ps_if (pt_cmp (pc_din hu (pv 5) (pv 1))) (pss_one (ps_ret (pe_tup (pa_cons pe_str (pa_cons (pv 3) (pa_cons (pv 4) pa_nil)))))) pss_nil)
      (pss_cons (ps_if (pt_cmpR op_ne (pv 5) pe_int (nomark _)) (pss_one (ps_dput hu (pv 1) (pv 5) pe_bl rfl)) pss_nil)
      (pss_one (ps_if (pt_cmpR op_gt (pv 5) pe_int (nomark _)) (pss_one (ps_dput hu (pv 2) (pv 5) (pv 3) rfl)) pss_nil)))))
      (pss_cons (ps_for PassesOwn.never rfl (pi_list (pe_cal c_all_places (hr.mono (by decide)) (pa_cons (pv 0) pa_nil))) (pg_tup rfl (pgs_cons (pg_name (i := 3) sc_message_error.nd rfl (Or.inl rfl)) (pgs_cons (pg_name (i := 4) sc_message_error.nd rfl (Or.inl rfl)) (pgs_cons (pg_name (i := 5) sc_message_error.nd rfl (Or.inl rfl)) pgs_nil)))) (pss_one (ps_if (PW.pt (pw_and (pt_cmpR op_lt (pv 5) pe_int (nomark _)) (pw_and1 (pt_cmpR op_eq (pe_dget2 hu (pv 2) (pe_un un_neg (pv 5)) (pv 3) ⟨by rfl, by rfl, by rfl, by rfl⟩) (pv 3) (nomark _))))) (pss_one (ps_ret (pe_tup (pa_cons pe_str (pa_cons (pv 3) (pa_cons (pv 4) pa_nil)))))) pss_nil)))
      (pss_one (ps_ret pe_non))))), ?_⟩
    have h60 := sz.tot
    -- known, senders = ({}, {})
    intro k1 nk1 k2 nk2
    have hk : k1 ≠ k2 := fun z => by subst z; rw [upd_same] at nk2; cases nk2
    have s0 : Same H _ := (sm_new (o := .dK []) nk1).trans (sm_new (o := .dK []) nk2)
    have nk2' : H k2 = none := (sm_new (o := .dK []) nk1).free nk2
    refine ⟨_, _, rfl, ?_⟩
    refine ⟨.ref a, rfl, a, R, rfl, hh.im (im s0), sz, fun H1 D ws ps sm nD hD pw up => ?_⟩
    have sH1 := s0.trans sm
    have pl := up.total
    have pwl := plen pw
    have nD' : H D = none := s0.free nD
    refine ⟨D, rfl, ⟨ws, sqL hD⟩, for_it (walk_list (xs := ws)) (fun i σ H' => Same H H' ∧ (H' D = some (.lst ws) ∧ Paired (PI3 H') ws ps) ∧ (∃ y3 y4 y5, σ = [some (.ref a), some (.ref k1), some (.ref k2), y3, y4, y5]) ∧
      ∃ kv1 kv2, H' k1 = some (.dK kv1) ∧ H' k2 = some (.dK kv2) ∧ ME R ps i kv1 kv2)
      ⟨sH1, ⟨hD, pw⟩, ⟨none, none, none, rfl⟩, [], [], sm _ _ (by rw [upd_ne hk, upd_same]), sm _ _ upd_same, .start R ps⟩ (fun i σ H' _ p => sqL p.2.1.1) ?_ ?_⟩
    · rintro i x σ H4 H5 hi ⟨s3, ⟨hD4, pw4⟩, ⟨y3, y4, y5, rfl⟩, kv1, kv2, d1, d2, m⟩ ⟨rfl, hx⟩
      obtain ⟨⟨p, j, e⟩, hm, t, rfl, ht⟩ := pgetL pw4 hx
      have i60 : i < 60 := by omega
      have D1 : D ≠ k1 := ne_of hD4 d1 (by intro z; cases z)
      have D2 : D ≠ k2 := ne_of hD4 d2 (by intro z; cases z)
      refine ⟨t, _, rfl, sqT ht, rfl, _, _, rfl, _, _, rfl, _, _, rfl, rfl, ?_⟩
      refine ⟨_, rfl, _, rfl, k1, _, rfl, DGet.k (k := Sum.inl e) d1, _, rfl, ?_⟩
      rw [m.no g up hm]
      have pwi : ∀ {H6}, ISame H5 H6 → Paired (PI3 H6) ws ps := fun z => pimp pw4 fun _ _ y => TupI.im y z
      refine ⟨_, rfl, rfl, _, rfl, ?_⟩
      by_cases e0 : e = 0
      · refine iteNS (by rw [e0]) ?_
        refine ⟨_, rfl, e, 0, rfl, rfl, _, rfl, ite2 (fun c => ?_) (fun c => ?_)⟩
        · have := of_decide_eq_true c
          omega
        · exact ⟨s3, ⟨hD4, pw4⟩, ⟨_, _, _, rfl⟩, kv1, kv2, d1, d2, m.rest hm (by omega) (by have := m.l1; omega) m.keep⟩
      · obtain ⟨n1, n2⟩ := m.known hm e0
        have d2' : ∀ o, (upd H5 k1 o) k2 = some (.dK kv2) := fun o => by rw [upd_ne hk.symm]; exact d2
        have ne : decide (V.int e = V.int 0) = false := decide_eq_false fun z => e0 (V.int.inj z)
        rw [ne]
        refine ⟨_, rfl, _, rfl, k1, _, rfl, DPut.k (k := Sum.inl e) d1 (small1000 (by have := m.l1; omega)), ?_⟩
        refine ⟨_, rfl, e, 0, rfl, rfl, _, rfl, ite2 (fun c => ?_) (fun c => ?_)⟩
        · have c1 := of_decide_eq_true c
          refine ⟨_, rfl, _, rfl, _, rfl, k2, _, rfl, DPut.k (k := Sum.inl e) (d2' _) (small1000 (by have := m.l2; omega)), ?_⟩
          refine ⟨sm_own (sm_own s3 nk1) nk2', ⟨by rw [upd_ne D2, upd_ne D1]; exact hD4, pwi ((im_dK d1).trans (im_dK (d2' _)))⟩, ⟨_, _, _, rfl⟩, _, _, by rw [upd_ne hk, upd_same], upd_same, m.pos up hm c1⟩
        · have c1 : ¬ 0 < e := fun z => c (decide_eq_true z)
          exact ⟨sm_own s3 nk1, ⟨by rw [upd_ne D1]; exact hD4, pwi (im_dK d1)⟩, ⟨_, _, _, rfl⟩, _, _, upd_same, d2' _, m.rest hm (by omega) n1 n2⟩
    -- for every receipt its sending stands at another process
    rintro σ H4 ⟨s3, ⟨hD4, pw4⟩, ⟨y3, y4, y5, rfl⟩, kv1, kv2, d1, d2, m⟩
    refine ⟨.ref a, rfl, a, R, rfl, hh.im (im s3), sz, fun H6 D' ws' ps' sm' nD2 hD' pw' up' => ?_⟩
    refine ⟨D', rfl, ⟨ws', sqL hD'⟩, for_it (walk_list (xs := ws')) (fun i σ H' => Same H6 H' ∧ ∃ y3 y4 y5, σ = [some (.ref a), some (.ref k1), some (.ref k2), y3, y4, y5]) ⟨Same.refl _, _, _, _, rfl⟩ (fun i σ H' _ p => sqL (p.1 _ _ hD')) ?_ ?_⟩
    · rintro i x σ H7 H8 hi ⟨s4, z3, z4, z5, rfl⟩ ⟨rfl, hx⟩
      obtain ⟨⟨p, j, e⟩, hm, t, rfl, ht⟩ := pgetL pw' hx
      have hev := up'.all.mp (List.mem_of_getElem? hm)
      refine ⟨t, _, rfl, sqT (s4 _ _ ht), rfl, _, _, rfl, _, _, rfl, _, _, rfl, rfl, ?_⟩
      refine ⟨_, rfl, e, 0, rfl, rfl, _, rfl, ite2 (fun c => ?_) (fun c => ?_)⟩
      · have c1 : e < 0 := of_decide_eq_true c
        have d28 := s4 _ _ (sm' _ _ d2)
        refine ⟨_, rfl, k2, rfl, .inl ⟨_, .inl d28⟩, _, rfl, e, rfl, _, rfl, _, DGet.k (k := Sum.inl (-e)) d28, _, rfl, ?_⟩
        obtain ⟨p1, x1, hs1, hne⟩ := g.sent p j e c1 hev
        have hmm := up.all.mpr hs1
        obtain ⟨jj, hjj⟩ := List.mem_iff_getElem?.mp hmm
        have hsome := m.in3 jj p1 x1 (-e) (by have := lt_of hjj; omega) hjj (by omega)
        obtain ⟨v, hv⟩ := Option.isSome_iff_exists.mp hsome
        obtain ⟨p2, x2, rfl, hev2⟩ := m.in2 _ _ hv
        obtain ⟨rfl, rfl⟩ := g.uniq _ _ _ _ (-e) (by omega) hev2 hs1
        rw [hv]
        refine ⟨rfl, _, rfl, ite2 (fun z => ?_) (fun _ => ?_)⟩
        · have z1 : ((p2 : Nat) : Int) = (p : Int) := V.int.inj (of_decide_eq_true z)
          exact absurd (by omega) hne
        · exact ⟨s4, _, _, _, rfl⟩
      · exact ⟨s4, _, _, _, rfl⟩
    · rintro σ H7 ⟨s4, _⟩
      exact q _ ((s3.trans sm').trans s4)
end
end K57

/-! ## KD5 -/
namespace K57
open PySem PySem.Spec PyProof.Rows L2
section
variable {P : Program} {w : World} {K : PySem.W.Frag} {mg : Str → Option Value} {base : Heap}
/-! ### history_error, is_history -/
abbrev s_history_error : Stmt := topS 13
theorem sc_history_error : FnScope ["value", "error", "row"] ["value"] (defScope s_history_error) := ⟨rfl, rfl, rfl, by decide +kernel, rfl, by decide +kernel, by decide +kernel⟩
theorem c_history_error (T : Txt mg) (D : Dn K mg "history_error" s_history_error ["value"]) (c_form_error : Cal P w K mg base 2 "form_error" ["value"] spForm) (c_message_error : Cal P w K mg base 2 "message_error" ["rows"] spForm)
    (c_some_order : CalG P w K mg base 2 "some_order" ["history"] spOrder) : Cal P w K mg base 6 "history_error" ["value"] spForm := by
  refine D.cal sc_history_error (fun vs H Q E h => ?_) (fun f cdv A outer s H vs Q E hr h => ?_)
  · obtain ⟨a, R, rfl, _⟩ := h
    rfl
  · obtain ⟨a, R, rfl, hh, g, sz, q⟩ := h
    have hu := hu_of hr
    refine ⟨_, (pss_cons (ps_set (i := 1) sc_history_error.nd rfl (Or.inl rfl) (pe_cal c_form_error (hr.mono (by decide)) (pa_cons (pv 0) pa_nil)))
      (pss_cons (ps_if (pt_cmpR op_isN (pv 1) pe_non (nomark _)) (pss_one (ps_set (i := 1) sc_history_error.nd rfl (Or.inl rfl) (pe_cal c_message_error (hr.mono (by decide)) (pa_cons (pv 0) pa_nil)))) pss_nil)
      (pss_cons (ps_if (PW.pt (pw_and (pt_cmpR op_isN (pv 1) pe_non (nomark _)) (pw_and1 (pt_cmpR op_lt (pe_callB call_len_seq (by rfl) T.len PySem.boot_len (pa_cons (pe_lsome c_some_order (hr.mono (by decide)) T.list (pa_cons (pv 0) pa_nil)) pa_nil)) (pe_callB (cr_sum rfl) (by rfl) T.sum (by decide +kernel) (pa_cons (pe_lc (own := [("row", 2)]) (g := (gName 2)) rfl sc_history_error.nd (pi_tup (pv 0)) (blkOk_by (N := ["value", "error", "row"]) (sc := defScope s_history_error) (by decide +kernel)) (fun _ _ _ _ _ => (pg_name (i := 2) sc_history_error.nd rfl (Or.inl rfl))) (fun _ _ _ _ _ => pts_nil) (fun _ _ _ _ _ => (pe_callB (len_seqK (K := K)) (by rfl) T.len PySem.boot_len (pa_cons (pv 2) pa_nil)))) pa_nil)) (nomark _))))) (pss_one (ps_set (i := 1) sc_history_error.nd rfl (Or.inl rfl) (pe_tup (pa_cons pe_str pa_nil)))) pss_nil)
      (pss_one (ps_ret (pv 1)))))), ?_⟩
    obtain ⟨vs, ha, pr⟩ := id hh
    have hn := plen pr
    have h6 := sz.len
    refine ⟨_, rfl, a, R, rfl, hh, g, sz, fun H1 s1 => ?_⟩
    refine ⟨_, rfl, rfl, _, rfl, ite2 (fun _ => ?_) (fun c => absurd (decide_eq_true rfl) c)⟩
    refine ⟨_, rfl, a, R, rfl, hh.im (im s1), g, sz, fun H2 s2 => ?_⟩
    have s12 := s1.trans s2
    refine ⟨_, rfl, rfl, _, rfl, ite2 (fun _ => ?_) (fun c => absurd (decide_eq_true rfl) c)⟩
    refine ⟨_, rfl, a, R, rfl, hh.im (im s12), g, sz, fun out ws H3 s3 ord full po => fun p np => ?_⟩
    have s13 := sm_fresh (o := .lst ws) (s12.trans s3) np
    refine ⟨p, _, rfl, .inl (sqL upd_same), ?_⟩
    refine ⟨.ref a, rfl, a, rfl, ⟨vs, sqT (s13 _ _ ha)⟩, fun L nL => any_it (walk_tup (xs := vs)) (fun i H' => Acc (upd H3 p (.lst ws)) L H' (nats ((R.take i).map List.length))) (Acc.start nL) (fun i H' _ z => sqT (z.1 _ _ (s13 _ _ ha))) ?_ ?_⟩
    · rintro i x H4 H5 hi z ⟨rfl, hx⟩
      obtain ⟨l, hlx, r, rfl, hr'⟩ := pgetL pr hx
      refine ⟨rfl, .ref r, rfl, r, _, rfl, .inr (hr'.same (s13.trans z.1)).sq, _, z.2, small1000 (by rw [nats_len, List.length_map, List.length_take]; omega), (z.more nL _).eq ?_⟩
      rw [List.length_map, nats_snoc, take_one hlx, List.map_append]
      rfl
    intro H4 z
    rw [take_all (by omega)] at z
    refine ⟨L, _, rfl, sqL z.2, _, _, rfl, rfl, _, rfl, ite2 (fun c => ?_) (fun _ => ?_)⟩
    · have c1 := of_decide_eq_true c
      rw [lens_eq, plen po] at c1
      omega
    · exact ⟨_, rfl, q _ (s13.trans z.1)⟩
abbrev s_is_history : Stmt := topS 14
theorem sc_is_history : FnScope ["value"] ["value"] (defScope s_is_history) := ⟨rfl, rfl, rfl, by decide +kernel, rfl, by decide +kernel, by decide +kernel⟩
def spIsHist : Sp := fun vs H Q _ => ∃ a R, vs = [.ref a] ∧ HistAt H a R ∧ Good R ∧ Sz R ∧ ∀ H', Same H H' → Q (.bl true) H'
theorem c_is_history (T : Txt mg) (D : Dn K mg "is_history" s_is_history ["value"]) (c_history_error : Cal P w K mg base 6 "history_error" ["value"] spForm) : Cal P w K mg base 7 "is_history" ["value"] spIsHist := by
  refine D.cal sc_is_history (fun vs H Q E h => ?_) (fun f cdv A outer s H vs Q E hr h => ?_)
  · obtain ⟨a, R, rfl, _⟩ := h
    rfl
  · obtain ⟨a, R, rfl, hh, g, sz, q⟩ := h
    refine ⟨_, (pss_one (ps_ret (pe_cmpR op_isN (pe_cal c_history_error (hr.mono (by decide)) (pa_cons (pv 0) pa_nil)) pe_non (nomark _)))), ?_⟩
    refine ⟨_, rfl, a, R, rfl, hh, g, sz, fun H1 s1 => ⟨rfl, ?_⟩⟩
    show Q (.bl (decide (V.non = V.non))) H1
    rw [decide_eq_true rfl]
    exact q H1 s1
/-! ### with_event -/
abbrev s_with_event : Stmt := topS 19
theorem sc_with_event : FnScope ["history", "process", "event", "rows", "own", "row"] ["history", "process", "event"] (defScope s_with_event) := ⟨rfl, rfl, rfl, by decide +kernel, rfl, by decide +kernel, by decide +kernel⟩
def spWith : Sp := fun vs H Q _ => ∃ (a : Addr) (R : Rows) (p : Nat) (e : Int), vs = [.ref a, .int (p : Int), .int e] ∧ HistAt H a R ∧ p < R.length ∧ Good (app R p e) ∧ Sz (app R p e) ∧ ∀ H' b, Same H H' → HistAt H' b (app R p e) → Q (.ref b) H'
theorem c_with_event (T : Txt mg) (D : Dn K mg "with_event" s_with_event ["history", "process", "event"]) (c_is_history : Cal P w K mg base 7 "is_history" ["value"] spIsHist) : Cal P w K mg base 8 "with_event" ["history", "process", "event"] spWith := by
  refine D.cal sc_with_event (fun vs H Q E h => ?_) (fun f cdv A outer s H vs Q E hr h => ?_)
  · obtain ⟨a, R, p, e, rfl, _⟩ := h
    rfl
  · obtain ⟨a, R, p, e, rfl, hh, hp, g, sz, q⟩ := h
    have hu := hu_of hr
    refine ⟨_, (pss_cons (ps_set (i := 3) sc_with_event.nd rfl (Or.inl rfl) (pe_callTy call_tuple_of (by rfl) T.tuple (by decide +kernel) (pa_cons (pe_lc (own := [("own", 4), ("row", 5)]) (g := (gTup K 2 (gCons (gName 4) (gCons (gName 5) gNil)))) rfl sc_with_event.nd (pi_enumT (by rfl) T.enumerate (pa_cons (pv 0) pa_nil)) (blkOk_by (N := ["history", "process", "event", "rows", "own", "row"]) (sc := defScope s_with_event) (by decide +kernel)) (fun _ _ _ _ _ => (pg_tup rfl (pgs_cons (pg_name (i := 4) sc_with_event.nd rfl (Or.inl rfl)) (pgs_cons (pg_name (i := 5) sc_with_event.nd rfl (Or.inl rfl)) pgs_nil)))) (fun _ _ _ _ _ => pts_nil) (fun _ _ _ _ _ => (pe_ifExp (pt_cmpR op_eq (pv 4) (pv 1) (nomark _)) (pe_op (op_catFK (K := K)) (pv 5) (pe_tupF (pa_cons (pv 2) pa_nil))) (pv 5)))) pa_nil)))
      (pss_cons (ps_if (pt_not (pt_val (pe_cal c_is_history (hr.mono (by decide)) (pa_cons (pv 3) pa_nil)))) (pss_one ps_never) pss_nil)
      (pss_one (ps_ret (pv 3))))), ?_⟩
    obtain ⟨vs, ha, pr⟩ := id hh
    have hn := plen pr
    have h6 := sz.len
    rw [app_len] at h6
    have h60 := sz.tot
    rw [total_app hp] at h60
    have hlen : ∀ p, (row R p).length ≤ 60 := fun p => Nat.le_trans (len_le_total p) (by omega)
    refine ⟨.ref a, rfl, a, vs, rfl, sqT ha, fun L nL => any_it (walk_enumT (xs := vs)) (fun i H' => ∃ ws, Acc H L H' ws ∧ Paired (RowI H') ws ((app R p e).take i)) ⟨[], Acc.start nL, .nil⟩ (fun i H' _ z => let ⟨_, z, _⟩ := z; sqT (z.1 _ _ ha)) ?_ ?_⟩
    · rintro i x H1 H2 hi ⟨ws, z, pw⟩ ⟨t, x1, x2, rfl, nt, rfl, e1, e2⟩
      cases Option.some.inj e1
      obtain ⟨l, hlx, r, rfl, hr'⟩ := pgetL pr e2
      have el := row_of hlx
      refine ⟨t, _, rfl, sqT upd_same, rfl, _, _, rfl, _, _, rfl, rfl, rfl, ?_⟩
      have z2 := z.new (o := .tup [.int (i : Int), .ref r]) nt
      have rv := hr'.same z2.1
      have pw2 := pimp pw fun _ _ y => RowI.im y (im_new (o := .tup [.int (i : Int), .ref r]) nt)
      have lw : ws.length < sizeLine := small1000 (by rw [plen pw, List.length_take]; omega)
      have i60 := hlen i
      rw [el] at i60
      refine ⟨_, rfl, _, rfl, rfl, _, rfl, ite2 (fun c => ?_) (fun c => ?_)⟩
      · have c1 : ((i : Nat) : Int) = (p : Int) := V.int.inj (of_decide_eq_true c)
        have c2 : i = p := by omega
        subst c2
        have hg : (app R i e)[i]? = some (l ++ [e]) := by
          unfold app
          rw [List.getElem?_set_self hp, el]
        refine ⟨_, rfl, _, rfl, ?_⟩
        refine ⟨(by show 1 ≤ sizeLine; decide), fun t2 o2 nt2 d2 => ?_⟩
        have z3 := z2.new (o := .frz o2 (.tup [.int e])) nt2
        have rv3 := hr'.same z3.1
        have pw3 := pimp pw2 fun _ _ y => RowI.im y (im_new (o := .frz o2 (.tup [.int e])) nt2)
        have re : RowV (upd (upd H1 t (.tup [.int (i : Int), .ref r])) t2 (.frz o2 (.tup [.int e]))) t2 ([e].map V.int) := ⟨o2, upd_same, d2⟩
        refine ⟨r, t2, l.map V.int, [.int e], rfl, rfl, rv3.sq, re.sq, by rw [List.length_map]; exact small63 (by simp; omega), by simp, fun l0 => ?_, fun l0 t3 o3 nt3 d3 => ?_⟩
        · have l1 : l = [] := List.map_eq_nil_iff.mp l0
          subst l1
          exact ⟨ws, z3.2, lw, _, z3.more nL _, by rw [take_one hg]; exact psnoc (pimp pw3 fun _ _ y => RowI.im y z3.im) (RowI.im ⟨t2, rfl, re⟩ z3.im)⟩
        · have z4 := z3.new (o := .frz o3 (.tup (l.map V.int ++ [.int e]))) nt3
          have e4 : l.map V.int ++ [.int e] = (l ++ [e]).map V.int := by rw [List.map_append]; rfl
          have pw4 := pimp pw3 fun _ _ y => RowI.im y (im_new (o := .frz o3 (.tup (l.map V.int ++ [.int e]))) nt3)
          exact ⟨ws, z4.2, lw, _, z4.more nL _, by rw [take_one hg]; exact psnoc (pimp pw4 fun _ _ y => RowI.im y z4.im) (RowI.im ⟨t3, rfl, o3, by rw [upd_same, e4], d3⟩ z4.im)⟩
      · have c2 : i ≠ p := fun y => c (by subst y; exact decide_eq_true rfl)
        have hg : (app R p e)[i]? = some l := by
          unfold app
          rw [List.getElem?_set_ne (Ne.symm c2), hlx]
        exact ⟨_, rfl, ws, z2.2, lw, _, z2.more nL _, by rw [take_one hg]; exact psnoc (pimp pw2 fun _ _ y => RowI.im y z2.im) (RowI.im ⟨r, rfl, rv⟩ z2.im)⟩
    · rintro H1 ⟨ws, z, pw⟩
      rw [take_all (by rw [app_len]; omega)] at pw
      refine ⟨L, _, rfl, .inl ⟨sqL z.2, fun b nb => ?_⟩⟩
      have hb : HistAt (upd H1 b (.tup ws)) b (app R p e) := ⟨ws, upd_same, pimp pw fun _ _ y => RowI.im y (im_new nb)⟩
      refine ⟨_, rfl, b, _, rfl, hb, g, sz, fun H2 s2 => ⟨true, rfl, ?_⟩⟩
      exact ⟨_, rfl, q _ _ ((sm_fresh z.1 nb).trans s2) (hb.im (im s2))⟩
end
end K57

/-! ## KD6 -/
namespace K57
open PySem PySem.Spec PyProof.Rows L2
section
variable {P : Program} {w : World} {K : PySem.W.Frag} {mg : Str → Option Value} {base : Heap}
/-! ### message_table -/
abbrev s_message_table : Stmt := topS 18
theorem sc_message_table : FnScope ["history", "spots", "process", "index", "event"] ["history"] (defScope s_message_table) := ⟨rfl, rfl, rfl, by decide +kernel, rfl, by decide +kernel, by decide +kernel⟩
/-- the table of all events but the saves -/
def SpotE (H : Hp) (kv : Key × V) (x : Nat × Nat × Int) : Prop := kv.1 = Sum.inl x.2.2 ∧ TupI H kv.2 [(x.1 : Int), (x.2.1 : Int)]
theorem SpotE.im {H H' : Hp} {kv : Key × V} {x : Nat × Nat × Int} (h : SpotE H kv x) (s : ISame H H') : SpotE H' kv x := ⟨h.1, h.2.im s⟩
def nz (ps : List (Nat × Nat × Int)) : List (Nat × Nat × Int) := ps.filter fun x => decide (x.2.2 ≠ 0)
theorem nz_yes {ps : List (Nat × Nat × Int)} {i : Nat} {x : Nat × Nat × Int} (h : ps[i]? = some x) (h0 : x.2.2 ≠ 0) : nz (ps.take (i + 1)) = nz (ps.take i) ++ [x] := by
  unfold nz
  rw [take_one h, List.filter_append]
  simp [h0]
theorem nz_no {ps : List (Nat × Nat × Int)} {i : Nat} {x : Nat × Nat × Int} (h : ps[i]? = some x) (h0 : x.2.2 = 0) : nz (ps.take (i + 1)) = nz (ps.take i) := by
  unfold nz
  rw [take_one h, List.filter_append]
  simp [h0]
theorem spot_some {H : Hp} {kvs : List (Key × V)} {sp : List (Nat × Nat × Int)} (h : Paired (SpotE H) kvs sp) {e : Int} {v : V} (hv : valV kvs (.inl e) = some v) : ∃ p x, (p, x, e) ∈ sp ∧ TupI H v [(p : Int), (x : Int)] := by
  obtain ⟨⟨p, x, e'⟩, hm, h1, h2⟩ := pmem h (valV_mem hv)
  cases (Sum.inl.inj h1 : e = e')
  exact ⟨p, x, hm, h2⟩
theorem spot_all {H : Hp} {kvs : List (Key × V)} {sp : List (Nat × Nat × Int)} (h : Paired (SpotE H) kvs sp) {e : Int} {p x : Nat} (hm : (p, x, e) ∈ sp) : ∃ v, valV kvs (.inl e) = some v := by
  cases hv : valV kvs (.inl e : Key) with
  | some v => exact ⟨v, rfl⟩
  | none =>
    obtain ⟨i, hi⟩ := List.mem_iff_getElem?.mp hm
    obtain ⟨kv, hk, h1, _⟩ := pget h hi
    exact absurd (List.mem_map.mpr ⟨kv, List.mem_of_getElem? hk, h1⟩) (valV_not hv)
theorem spot_keys {H : Hp} : ∀ {kvs : List (Key × V)} {sp : List (Nat × Nat × Int)}, Paired (SpotE H) kvs sp → kvs.map (·.1) = (sp.map fun x => x.2.2).map Sum.inl
  | _, _, .nil => rfl
  | _, _, .cons h r => by rw [List.map_cons, List.map_cons, List.map_cons, spot_keys r, h.1]
/-- an entry of the messages' table -/
def TabE (R : Rows) (H : Hp) (kv : Key × V) : Prop := ∃ (m : Int) (p i : Nat) (t : Addr) (v1 v2 : V), kv.1 = Sum.inl m ∧ 0 < m ∧ ev R p i = some m ∧ kv.2 = .ref t ∧ H t = some (.tup [v1, v2]) ∧ TupI H v1 [(p : Int), (i : Int)] ∧
  ((v2 = .non ∧ ∀ q j, ev R q j ≠ some (-m)) ∨ ∃ q j, TupI H v2 [((q : Nat) : Int), ((j : Nat) : Int)] ∧ ev R q j = some (-m))
theorem TabE.im {R : Rows} {H H' : Hp} {kv : Key × V} (h : TabE R H kv) (s : ISame H H') : TabE R H' kv := by
  obtain ⟨m, p, i, t, v1, v2, a1, a2, a3, a4, a5, a6, a7⟩ := h
  refine ⟨m, p, i, t, v1, v2, a1, a2, a3, a4, s _ _ trivial a5, a6.im s, ?_⟩
  rcases a7 with a7 | ⟨q, j, b1, b2⟩
  · exact .inl a7
  · exact .inr ⟨q, j, b1.im s, b2⟩
def spTable : Sp := fun vs H Q _ => ∃ a R, vs = [.ref a] ∧ HistAt H a R ∧ Good R ∧ Sz R ∧ ∀ H' D kvs, Same H H' → H D = none → H' D = some (.dK kvs) → (∀ kv ∈ kvs, TabE R H' kv) → (∀ p i m, 0 < m → ev R p i = some m → (valV kvs (.inl m)).isSome = true) → kvs.length ≤ 60 → Q (.ref D) H'
theorem c_message_table (T : Txt mg) (D : Dn K mg "message_table" s_message_table ["history"]) (c_all_places : Cal P w K mg base 1 "all_places" ["rows"] spPlaces) : Cal P w K mg base 2 "message_table" ["history"] spTable := by
  refine D.cal sc_message_table (fun vs H Q E h => ?_) (fun f cdv A outer s H vs Q E hr h => ?_)
  · obtain ⟨a, R, rfl, _⟩ := h
    rfl
  · obtain ⟨a, R, rfl, hh, g, sz, q⟩ := h
    have hu := hu_of hr
    refine ⟨_, (pss_cons (ps_set (i := 1) sc_message_table.nd rfl (Or.inr rfl) (pe_dc (own := [("process", 2), ("index", 3), ("event", 4)]) (g := (gTup K 3 (gCons (gName 2) (gCons (gName 3) (gCons (gName 4) gNil))))) rfl sc_message_table.nd (pi_list (pe_cal c_all_places (hr.mono (by decide)) (pa_cons (pv 0) pa_nil))) (blkOk_by (N := ["history", "spots", "process", "index", "event"]) (sc := defScope s_message_table) (by decide +kernel)) (fun _ _ _ _ _ => (pg_tup rfl (pgs_cons (pg_name (i := 2) sc_message_table.nd rfl (Or.inl rfl)) (pgs_cons (pg_name (i := 3) sc_message_table.nd rfl (Or.inl rfl)) (pgs_cons (pg_name (i := 4) sc_message_table.nd rfl (Or.inl rfl)) pgs_nil))))) (fun _ _ _ _ _ => (pts_one (pt_cmpR op_ne (pv 4) pe_int (nomark _)))) (fun _ _ _ _ _ => (pv 4)) (fun _ _ _ _ _ => (pe_tup (pa_cons (pv 2) (pa_cons (pv 3) pa_nil))))))
      (pss_one (ps_ret (pe_dc (own := [("event", 4)]) (g := (gName 4)) rfl sc_message_table.nd (pi_list (pe_callB (call_sortedDI rfl) (by rfl) T.sorted (by decide +kernel) (pa_cons (pv 1) pa_nil))) (blkOk_by (N := ["history", "spots", "process", "index", "event"]) (sc := defScope s_message_table) (by decide +kernel)) (fun _ _ _ _ _ => (pg_name (i := 4) sc_message_table.nd rfl (Or.inl rfl))) (fun _ _ _ _ _ => (pts_one (pt_cmpR op_gt (pv 4) pe_int (nomark _)))) (fun _ _ _ _ _ => (pv 4)) (fun _ _ _ _ _ => (pe_tup (pa_cons (pe_dget hu (pv 1) (pv 4) (fun _ _ => rfl)) (pa_cons (pe_dget1 hu (pv 1) (pe_un un_neg (pv 4)) ⟨by rfl, by rfl, by rfl, by rfl⟩) pa_nil)))))))), ?_⟩
    have h60 := sz.tot
    refine ⟨.ref a, rfl, a, R, rfl, hh, sz, fun H1 L ws ps s1 nL hL pw up => ?_⟩
    have pl := up.total
    have pwl := plen pw
    refine ⟨L, rfl, ⟨ws, sqL hL⟩, fun D nD => any_it (walk_list (xs := ws)) (fun i H' => Same H1 H' ∧ ∃ kvs, H' D = some (.dK kvs) ∧ Paired (SpotE H') kvs (nz (ps.take i))) ⟨sm_new nD, [], upd_same, .nil⟩ (fun i H' _ z => sqL (z.1 _ _ hL)) ?_ ?_⟩
    · rintro i x H2 H3 hi ⟨s2, kvs, hD, pk⟩ ⟨rfl, hx⟩
      obtain ⟨⟨p, j, e⟩, hm, t, rfl, ht⟩ := pgetL pw hx
      have lk : kvs.length < sizeLine := small1000 (by
        rw [plen pk]
        unfold nz
        have := List.length_filter_le (fun x : Nat × Nat × Int => decide (x.2.2 ≠ 0)) (ps.take i)
        rw [List.length_take] at this
        omega)
      refine ⟨t, _, rfl, sqT (s2 _ _ ht), rfl, _, _, rfl, _, _, rfl, _, _, rfl, rfl, rfl, ?_⟩
      refine ⟨_, rfl, rfl, _, rfl, ?_⟩
      by_cases e0 : e = 0
      · exact iteNS (by rw [e0]) ⟨s2, kvs, hD, by rw [nz_no hm e0]; exact pk⟩
      · have ne : decide (V.int e = V.int 0) = false := decide_eq_false fun z => e0 (V.int.inj z)
        rw [ne]
        refine ⟨_, rfl, _, rfl, _, rfl, (by show 2 ≤ sizeLine; decide), fun t2 nt2 => ?_⟩
        have hD2 : (upd H3 t2 (.tup [.int (p : Int), .int (j : Int)])) D = some (.dK kvs) := keep_new hD nt2
        refine ⟨kvs, Sum.inl e, rfl, hD2, lk, sm_own (sm_fresh s2 nt2) nD, _, upd_same, ?_⟩
        have hno : valV kvs (Sum.inl e : Key) = none := by
          cases hv : valV kvs (Sum.inl e : Key) with
          | none => rfl
          | some v =>
            obtain ⟨p', x', hm', _⟩ := spot_some pk hv
            have hm2 := (List.mem_filter.mp hm').1
            obtain ⟨k, hk⟩ := List.mem_iff_getElem?.mp hm2
            have hki : k < i := by
              have := lt_of hk
              rw [List.length_take] at this
              omega
            rw [List.getElem?_take_of_lt hki] at hk
            obtain ⟨rfl, rfl⟩ := g.uniq _ _ _ _ e e0 (up.all.mp (List.mem_of_getElem? hk)) (up.all.mp (List.mem_of_getElem? hm))
            have := (List.getElem?_inj (lt_of hk) up.nd).mp (hk.trans hm.symm)
            omega
        rw [putK_new _ hno, nz_yes hm e0]
        have i2 : ISame H3 (upd (upd H3 t2 (.tup [.int (p : Int), .int (j : Int)])) D (.dK (kvs ++ [(Sum.inl e, .ref t2)]))) := (im_new nt2).trans (im_dK hD2)
        exact psnoc (pimp pk fun _ _ y => SpotE.im y i2) ⟨rfl, TupI.im (ns := [(p : Int), (j : Int)]) ⟨t2, rfl, upd_same⟩ (im_dK hD2)⟩
    rintro H2 ⟨s2, kvs, hD, pk⟩
    rw [take_all (by omega)] at pk
    have nD0 : H D = none := s1.free nD
    have mem : ∀ {p x : Nat} {e : Int}, (p, x, e) ∈ nz ps ↔ ev R p x = some e ∧ e ≠ 0 := fun {p x e} => by
      unfold nz
      rw [List.mem_filter, up.all]
      simp
    have lz : (nz ps).length ≤ 60 := by
      unfold nz
      exact Nat.le_trans (List.length_filter_le ..) (by omega)
    refine ⟨_, rfl, D, kvs, (nz ps).map fun x => x.2.2, rfl, .inl hD, spot_keys pk, by rw [List.length_map]; omega, fun ys p perm srt np => ?_⟩
    have s3 := sm_fresh (o := .lst (ys.map V.int)) s2 np
    have hD3 := keep_new (o := .lst (ys.map V.int)) hD np
    have pk3 := pimp pk fun _ _ y => SpotE.im y (im_new (o := .lst (ys.map V.int)) np)
    have ly : ys.length ≤ 60 := by rw [perm.length_eq, List.length_map]; exact lz
    refine ⟨p, rfl, ⟨_, sqL upd_same⟩, fun F nF => any_it (walk_list (xs := ys.map V.int)) (fun i H' => Same (upd H2 p (.lst (ys.map V.int))) H' ∧ ∃ k2, H' F = some (.dK k2) ∧ k2.length ≤ i ∧ (∀ kv ∈ k2, TabE R H' kv) ∧ (∀ k (m : Int), k < i → ys[k]? = some m → 0 < m → (valV k2 (.inl m)).isSome = true))
      ⟨sm_new nF, [], upd_same, Nat.le_refl _, fun kv hkv => (by simp at hkv), fun k m hk => (by omega)⟩ (fun i H' _ z => sqL (z.1 _ _ upd_same)) ?_ ?_⟩
    · rintro i x H4 H5 hi ⟨s4, k2, hF, lk2, tab, cmp⟩ ⟨rfl, hx⟩
      obtain ⟨m, hm, rfl⟩ := map_int hx
      rw [List.length_map] at hi
      refine ⟨rfl, _, rfl, m, 0, rfl, rfl, _, rfl, ite2 (fun c => ?_) (fun c => ?_)⟩
      · have m0 : 0 < m := of_decide_eq_true c
        have hmem : m ∈ (nz ps).map fun x => x.2.2 := perm.mem_iff.mp (List.mem_of_getElem? hm)
        obtain ⟨⟨p1, x1, m'⟩, hm1, em⟩ := List.mem_map.mp hmem
        cases (show m' = m from em)
        obtain ⟨v, hv⟩ := spot_all pk3 hm1
        obtain ⟨p2, x2, hm2, tv⟩ := spot_some pk3 hv
        have hev := (mem.mp hm2).1
        have hcase : ∀ u, u = (valV kvs (Sum.inl (-m) : Key)).getD .non → (u = .non ∧ ∀ q j, ev R q j ≠ some (-m)) ∨ ∃ q j, TupI (upd H2 p (.lst (ys.map V.int))) u [((q : Nat) : Int), ((j : Nat) : Int)] ∧ ev R q j = some (-m) := by
          rintro u rfl
          cases hv2 : valV kvs (Sum.inl (-m) : Key) with
          | none =>
            refine .inl ⟨rfl, fun q j hq => ?_⟩
            obtain ⟨v', hv'⟩ := spot_all pk3 (mem.mpr ⟨hq, by omega⟩)
            rw [hv2] at hv'
            cases hv'
          | some v' =>
            obtain ⟨q, j, hq, tq⟩ := spot_some pk3 hv2
            exact .inr ⟨q, j, tq, (mem.mp hq).1⟩
        have hD4 := s4 _ _ hD3
        refine ⟨_, rfl, _, rfl, _, rfl, D, v, rfl, by rw [← hv]; exact DGet.k (k := Sum.inl m) hD4, ?_⟩
        refine ⟨_, rfl, D, rfl, .inl ⟨_, .inl hD4⟩, _, rfl, m, rfl, _, DGet.k (k := Sum.inl (-m)) hD4, (by show 2 ≤ sizeLine; decide), fun t nt => ?_⟩
        have hF5 := keep_new (o := .tup [v, (valV kvs (Sum.inl (-m) : Key)).getD .non]) hF nt
        refine ⟨k2, Sum.inl m, rfl, hF5, small1000 (by omega), sm_own (sm_fresh s4 nt) nF, _, upd_same, Nat.le_trans (length_putK ..) (by omega), fun kv hkv => ?_, fun k m' hk hm' h0 => ?_⟩
        · have i5 : ISame H5 _ := (im_new (o := .tup [v, (valV kvs (Sum.inl (-m) : Key)).getD .non]) nt).trans (im_dK (o := .dK (putK k2 (Sum.inl m) (.ref t))) hF5)
          have i6 := (im s4).trans i5
          rcases mem_putK hkv with rfl | hkv
          · refine ⟨m, p2, x2, t, v, (valV kvs (Sum.inl (-m) : Key)).getD .non, rfl, m0, hev, rfl, im_dK hF5 _ _ trivial upd_same, tv.im i6, ?_⟩
            rcases hcase _ rfl with z | ⟨q, j, z1, z2⟩
            · exact .inl z
            · exact .inr ⟨q, j, z1.im i6, z2⟩
          · exact (tab kv hkv).im i5
        · by_cases ck : k < i
          · exact some_putK (cmp k m' ck hm' h0)
          · have : k = i := by omega
            subst this
            rw [hm] at hm'
            cases hm'
            exact some_put
      · refine ⟨s4, k2, hF, by omega, tab, fun k m' hk hm' h0 => ?_⟩
        by_cases ck : k < i
        · exact cmp k m' ck hm' h0
        · have : k = i := by omega
          subst this
          rw [hm] at hm'
          cases hm'
          exact absurd (decide_eq_true h0) c
    · rintro H4 ⟨s4, k2, hF, lk2, tab, cmp⟩
      rw [List.length_map] at lk2 cmp
      refine q _ F k2 ((s1.trans s3).trans s4) ((s1.trans s3).free nF) hF tab (fun p i m h0 he => ?_) (by omega)
      have hmem : m ∈ ys := perm.mem_iff.mpr (List.mem_map.mpr ⟨(p, i, m), mem.mpr ⟨he, by omega⟩, rfl⟩)
      obtain ⟨k, hk⟩ := List.mem_iff_getElem?.mp hmem
      exact cmp k m (lt_of hk) hk h0
end
end K57

/-! ## KD7 -/
namespace K57
open PySem PySem.Spec PyProof.Rows L2
section
variable {P : Program} {w : World} {K : PySem.W.Frag} {mg : Str → Option Value} {base : Heap}
/-! ### moves_of -/
abbrev s_moves_of : Stmt := topS 21
theorem sc_moves_of : FnScope ["history", "found", "message", "start", "end", "begin", "finish"] ["history"] (defScope s_moves_of) := ⟨rfl, rfl, rfl, by decide +kernel, rfl, by decide +kernel, by decide +kernel⟩
/-- a move: sender, beginning, receiver, end -/
def MvE (R : Rows) (H : Hp) (kv : Key × V) : Prop := ∃ (m : Int) (p a q b : Nat), kv.1 = Sum.inl m ∧ TupI H kv.2 [(p : Int), (a : Int), (q : Int), (b : Int)] ∧ Mv R p a q b
theorem MvE.im {R : Rows} {H H' : Hp} {kv : Key × V} (h : MvE R H kv) (s : ISame H H') : MvE R H' kv := let ⟨m, p, a, q, b, h1, h2, h3⟩ := h; ⟨m, p, a, q, b, h1, h2.im s, h3⟩
def spMoves : Sp := fun vs H Q _ => ∃ a R, vs = [.ref a] ∧ HistAt H a R ∧ Good R ∧ Sz R ∧ ∀ H' D kvs, Same H H' → H D = none → H' D = some (.dK kvs) → (∀ kv ∈ kvs, MvE R H' kv) → kvs.length ≤ 60 → (kvs.map (·.1)).Nodup → Q (.ref D) H'
theorem nd_put {kvs : List (Key × V)} {k : Key} {v : V} (h : (kvs.map (·.1)).Nodup) : ((putK kvs k v).map (·.1)).Nodup := by
  cases hv : valV kvs k with
  | none => exact nd_putK v h hv
  | some u =>
    have e : (putK kvs k v).map (·.1) = kvs.map (·.1) := by
      unfold putK
      rw [if_pos (by rw [valV_any, hv]; rfl), List.map_map]
      apply List.map_congr_left
      intro x _
      by_cases c : x.1 = k
      · simp [c]
      · simp [c]
    rw [e]
    exact h
theorem c_moves_of (T : Txt mg) (D : Dn K mg "moves_of" s_moves_of ["history"]) (c_message_table : Cal P w K mg base 2 "message_table" ["history"] spTable) (c_interval_at : Cal P w K mg base 1 "interval_at" ["row", "index"] spInterval) : Cal P w K mg base 3 "moves_of" ["history"] spMoves := by
  refine D.cal sc_moves_of (fun vs H Q E h => ?_) (fun f cdv A outer s H vs Q E hr h => ?_)
  · obtain ⟨a, R, rfl, _⟩ := h
    rfl
  · obtain ⟨a, R, rfl, hh, g, sz, q⟩ := h
    have hu := hu_of hr
    refine ⟨_, (pss_cons (ps_set (i := 1) sc_moves_of.nd rfl (Or.inl rfl) pe_dnewK)
      (pss_cons (ps_for PassesOwn.never rfl (pi_items (pe_frz (pe_cal c_message_table (hr.mono (by decide)) (pa_cons (pv 0) pa_nil)))) (pg_tup rfl (pgs_cons (pg_name (i := 2) sc_moves_of.nd rfl (Or.inl rfl)) (pgs_cons (pg_tup rfl (pgs_cons (pg_name (i := 3) sc_moves_of.nd rfl (Or.inl rfl)) (pgs_cons (pg_name (i := 4) sc_moves_of.nd rfl (Or.inl rfl)) pgs_nil))) pgs_nil))) (pss_one (ps_if (pt_cmpR op_notN (pv 4) pe_non (nomark _)) (pss_cons (ps_par (i := 5) (j := 6) rfl sc_moves_of.nd rfl rfl (by decide) rfl rfl (pa_cons (pe_cal c_interval_at (hr.mono (by decide)) (pa_cons (pe_ix ix_tup (pv 0) (pe_ix ix_tup (pv 3) pe_int (fun _ _ => rfl)) (fun _ _ => rfl)) (pa_cons (pe_ix ix_tup (pv 3) pe_int (fun _ _ => rfl)) pa_nil))) (pa_cons (pe_cal c_interval_at (hr.mono (by decide)) (pa_cons (pe_ix ix_tup (pv 0) (pe_ix ix_tup (pv 4) pe_int (fun _ _ => rfl)) (fun _ _ => rfl)) (pa_cons (pe_ix ix_tup (pv 4) pe_int (fun _ _ => rfl)) pa_nil))) pa_nil)) (by rfl))
      (pss_one (ps_dput hu (pv 1) (pv 2) (pe_tup (pa_cons (pe_ix ix_tup (pv 3) pe_int (fun _ _ => rfl)) (pa_cons (pv 5) (pa_cons (pe_ix ix_tup (pv 4) pe_int (fun _ _ => rfl)) (pa_cons (pv 6) pa_nil))))) rfl))) pss_nil)))
      (pss_one (ps_ret (pv 1))))), ?_⟩
    intro F nF
    have s0 := sm_new (o := .dK []) nF
    refine ⟨_, rfl, a, R, rfl, hh.im (im s0), g, sz, fun H1 D kvs s1 nD hD tab cmp lk => ?_⟩
    refine ⟨D, _, rfl, hD, trivial, fun od => ⟨D, od, kvs, rfl, upd_same, ?_⟩⟩
    have s01 := s0.trans s1
    have sF : Same H (upd H1 D (.frz od (.dK kvs))) := sm_own s01 (s0.free nD)
    have hFD : F ≠ D := fun z => by subst z; rw [upd_same] at nD; cases nD
    have iD : ISame H1 (upd H1 D (.frz od (.dK kvs))) := im_dK hD
    refine for_it (walk_itemsP (kvs := kvs)) (fun i σ H' => Same H H' ∧ ISame (upd H1 D (.frz od (.dK kvs))) H' ∧ (∃ y2 y3 y4 y5 y6, σ = [some (.ref a), some (.ref F), y2, y3, y4, y5, y6]) ∧ ∃ kf, H' F = some (.dK kf) ∧ kf.length ≤ i ∧ (∀ kv ∈ kf, MvE R H' kv) ∧ (kf.map (·.1)).Nodup)
      ⟨sF, ISame.refl _, ⟨none, none, none, none, none, rfl⟩, [], by rw [upd_ne hFD]; exact s1 _ _ upd_same, Nat.le_refl _, fun kv hkv => (by simp at hkv), List.nodup_nil⟩ (fun i σ H' _ z => z.2.1 _ _ trivial upd_same) ?_ ?_
    · rintro i x σ H2 H3 hi ⟨s2, i2, ⟨y2, y3, y4, y5, y6, rfl⟩, kf, hF, lf, tf, ndf⟩ ⟨t0, kk, vv, rfl, nt0, rfl, hkv⟩
      obtain ⟨m, p, ix, t, v1, v2, k1, m0, hev, k2, ht, ⟨t1, rfl, ht1⟩, hc⟩ := (tab _ (List.mem_of_getElem? hkv)).im iD
      cases (k1 : kk = Sum.inl m)
      cases (k2 : vv = .ref t)
      have i3 : ISame H2 (upd H2 t0 (.tup [kV (Sum.inl m), .ref t])) := im_new nt0
      have i23 := i2.trans i3
      have s3 : Same H (upd H2 t0 (.tup [kV (Sum.inl m), .ref t])) := sm_fresh s2 nt0
      refine ⟨t0, _, rfl, sqT upd_same, rfl, _, _, rfl, _, _, rfl, t, _, rfl, sqT (i23 _ _ trivial ht), rfl, _, _, rfl, _, _, rfl, rfl, rfl, ?_⟩
      have hF3 := keep_new (o := .tup [kV (Sum.inl m), .ref t]) hF nt0
      refine ⟨_, rfl, rfl, _, rfl, ?_⟩
      rcases hc with ⟨rfl, _⟩ | ⟨qq, j, ⟨t2, rfl, ht2⟩, hev2⟩
      · refine iteNS rfl ?_
        exact ⟨s3, i23, ⟨_, _, _, _, _, rfl⟩, kf, hF3, by omega, fun kv hkv => (tf kv hkv).im i3, ndf⟩
      · have ht1' := i23.t ht1
        have ht2' := i23.t ht2
        obtain ⟨vs, r, ha, hl, hv, hrow⟩ := hh.row (ev_pl hev)
        obtain ⟨vs', r', ha', hl', hv', hrow'⟩ := hh.row (ev_pl hev2)
        have h60 := sz.row p
        have h60' := sz.row qq
        refine ⟨_, rfl, _, rfl, t1, _, 0, _, rfl, rfl, sqT ht1', at0, a, vs, _, _, rfl, rfl, sqT (s3 _ _ ha), atI_nat hv, _, rfl, t1, _, 1, _, rfl, rfl, sqT ht1', at1, r, row R p, ix, rfl, hrow.same s3, ev_lt hev, by omega, fun H4 s4 => ?_⟩
        have s34 := s3.trans s4
        have i4 := im s4
        refine ⟨_, rfl, _, rfl, t2, _, 0, _, rfl, rfl, sqT (s4 _ _ ht2'), at0, a, vs', _, _, rfl, rfl, sqT (s34 _ _ ha'), atI_nat hv', _, rfl, t2, _, 1, _, rfl, rfl, sqT (s4 _ _ ht2'), at1, r', row R qq, j, rfl, hrow'.same s34, ev_lt hev2, by omega, fun H5 s5 => ?_⟩
        have s35 := s34.trans s5
        have i5 := i4.trans (im s5)
        have ht1'' := i5.t ht1'
        have ht2'' := i5.t ht2'
        refine ⟨_, _, rfl, ?_⟩
        refine ⟨_, rfl, t1, _, 0, _, rfl, rfl, sqT ht1'', at0, _, rfl, _, rfl, t2, _, 0, _, rfl, rfl, sqT ht2'', at0, _, rfl, (by show 4 ≤ sizeLine; decide), fun t3 nt3 => ?_⟩
        have hF5 : H5 F = some (.dK kf) := s5 _ _ (s4 _ _ hF3)
        have hF6 := keep_new (o := .tup [.int (p : Int), .int (cz ((row R p).take ix) : Nat), .int (qq : Int), .int (cz ((row R qq).take j) : Nat)]) hF5 nt3
        refine ⟨_, rfl, _, rfl, F, _, rfl, DPut.k (k := Sum.inl m) hF6 (small1000 (by have := lt_of hkv; omega)), ?_⟩
        have i6 : ISame H5 (upd (upd H5 t3 (.tup [.int (p : Int), .int (cz ((row R p).take ix) : Nat), .int (qq : Int), .int (cz ((row R qq).take j) : Nat)])) F (.dK (putK kf (Sum.inl m) (.ref t3)))) := (im_new nt3).trans (im_dK hF6)
        have i36 := i5.trans i6
        refine ⟨sm_own (sm_fresh s35 nt3) nF, i23.trans i36, ⟨_, _, _, _, _, rfl⟩, _, upd_same, Nat.le_trans (length_putK ..) (by omega), fun kv' hkv' => ?_, nd_put ndf⟩
        rcases mem_putK hkv' with rfl | hkv'
        · exact ⟨m, p, _, qq, _, rfl, TupI.im (ns := [(p : Int), (cz ((row R p).take ix) : Nat), (qq : Int), (cz ((row R qq).take j) : Nat)]) ⟨t3, rfl, upd_same⟩ (im_dK hF6), m, ix, j, m0, hev, hev2, rfl, rfl⟩
        · exact ((tf kv' hkv').im i3).im i36
    · rintro σ H2 ⟨s2, i2, ⟨y2, y3, y4, y5, y6, rfl⟩, kf, hF, lf, tf, ndf⟩
      exact ⟨_, rfl, q _ F kf s2 nF hF tf (by omega) ndf⟩
/-! ### received_messages -/
abbrev s_received_messages : Stmt := topS 26
theorem sc_received_messages : FnScope ["history", "rows", "message", "sent", "received"] ["history"] (defScope s_received_messages) := ⟨rfl, rfl, rfl, by decide +kernel, rfl, by decide +kernel, by decide +kernel⟩
abbrev Rc := Int × Nat × Nat × Nat × Nat
def RcI (H : Hp) (v : V) (x : Rc) : Prop := TupI H v [x.1, (x.2.1 : Int), (x.2.2.1 : Int), (x.2.2.2.1 : Int), (x.2.2.2.2 : Int)]
def IsRc (R : Rows) (x : Rc) : Prop := 0 < x.1 ∧ ev R x.2.1 x.2.2.1 = some x.1 ∧ ev R x.2.2.2.1 x.2.2.2.2 = some (-x.1)
def spRecv : Sp := fun vs H Q _ => ∃ a R, vs = [.ref a] ∧ HistAt H a R ∧ Good R ∧ Sz R ∧ ∀ H' D ws L, Same H H' → H D = none → H' D = some (.lst ws) → Paired (RcI H') ws L → (∀ x, x ∈ L ↔ IsRc R x) → L.length ≤ 60 → Q (.ref D) H'
theorem c_received_messages (T : Txt mg) (D : Dn K mg "received_messages" s_received_messages ["history"]) (c_message_table : Cal P w K mg base 2 "message_table" ["history"] spTable) : Cal P w K mg base 3 "received_messages" ["history"] spRecv := by
  refine D.cal sc_received_messages (fun vs H Q E h => ?_) (fun f cdv A outer s H vs Q E hr h => ?_)
  · obtain ⟨a, R, rfl, _⟩ := h
    rfl
  · obtain ⟨a, R, rfl, hh, g, sz, q⟩ := h
    have hu := hu_of hr
    refine ⟨_, (pss_cons (ps_set (i := 1) sc_received_messages.nd rfl (Or.inl rfl) (pe_lst pa_nil))
      (pss_cons (ps_for PassesOwn.never rfl (pi_items (pe_frz (pe_cal c_message_table (hr.mono (by decide)) (pa_cons (pv 0) pa_nil)))) (pg_tup rfl (pgs_cons (pg_name (i := 2) sc_received_messages.nd rfl (Or.inl rfl)) (pgs_cons (pg_tup rfl (pgs_cons (pg_name (i := 3) sc_received_messages.nd rfl (Or.inl rfl)) (pgs_cons (pg_name (i := 4) sc_received_messages.nd rfl (Or.inl rfl)) pgs_nil))) pgs_nil))) (pss_one (ps_if (pt_cmpR op_notN (pv 4) pe_non (nomark _)) (pss_one (ps_expr (pe_bm PySem.F.plainAttrs_list PySem.F.slot_list_append PySem.F.type_list_append mt_append (pv 1) (pa_cons (pe_tup (pa_cons (pv 2) (StX.pa_star (pv 3) (StX.pa_star (pv 4) pa_nil)))) pa_nil)))) pss_nil)))
      (pss_one (ps_ret (pv 1))))), ?_⟩
    refine ⟨Nat.zero_le _, fun F nF => ?_⟩
    have s0 := sm_new (o := .lst []) nF
    refine ⟨_, rfl, a, R, rfl, hh.im (im s0), g, sz, fun H1 D kvs s1 nD hD tab cmp lk => ?_⟩
    refine ⟨D, _, rfl, hD, trivial, fun od => ⟨D, od, kvs, rfl, upd_same, ?_⟩⟩
    have s01 := s0.trans s1
    have sF : Same H (upd H1 D (.frz od (.dK kvs))) := sm_own s01 (s0.free nD)
    have hFD : F ≠ D := fun z => by subst z; rw [upd_same] at nD; cases nD
    have iD : ISame H1 (upd H1 D (.frz od (.dK kvs))) := im_dK hD
    refine for_it (walk_itemsP (kvs := kvs)) (fun i σ H' => Same H H' ∧ ISame (upd H1 D (.frz od (.dK kvs))) H' ∧ (∃ y2 y3 y4, σ = [some (.ref a), some (.ref F), y2, y3, y4]) ∧ ∃ ws L, H' F = some (.lst ws) ∧ Paired (RcI H') ws L ∧ L.length ≤ i ∧ (∀ x ∈ L, IsRc R x) ∧
        ∀ k kv (m : Int), k < i → kvs[k]? = some kv → kv.1 = Sum.inl m → ∀ p x qq j, IsRc R (m, p, x, qq, j) → (m, p, x, qq, j) ∈ L)
      ⟨sF, ISame.refl _, ⟨none, none, none, rfl⟩, [], [], by rw [upd_ne hFD]; exact s1 _ _ upd_same, .nil, Nat.le_refl _, fun x hx => (by simp at hx), fun k kv m hk => (by omega)⟩ (fun i σ H' _ z => z.2.1 _ _ trivial upd_same) ?_ ?_
    · rintro i x σ H2 H3 hi ⟨s2, i2, ⟨y2, y3, y4, rfl⟩, ws, L, hF, pw, lL, snd, cpl⟩ ⟨t0, kk, vv, rfl, nt0, rfl, hkv⟩
      obtain ⟨m, p, ix, t, v1, v2, k1, m0, hev, k2, ht, ⟨t1, rfl, ht1⟩, hc⟩ := (tab _ (List.mem_of_getElem? hkv)).im iD
      cases (k1 : kk = Sum.inl m)
      cases (k2 : vv = .ref t)
      have i3 : ISame H2 (upd H2 t0 (.tup [kV (Sum.inl m), .ref t])) := im_new nt0
      have i23 := i2.trans i3
      have s3 : Same H (upd H2 t0 (.tup [kV (Sum.inl m), .ref t])) := sm_fresh s2 nt0
      refine ⟨t0, _, rfl, sqT upd_same, rfl, _, _, rfl, _, _, rfl, t, _, rfl, sqT (i23 _ _ trivial ht), rfl, _, _, rfl, _, _, rfl, rfl, rfl, ?_⟩
      have hF3 := keep_new (o := .tup [kV (Sum.inl m), .ref t]) hF nt0
      have mine : ∀ {p' x' q' j'}, IsRc R (m, p', x', q', j') → p' = p ∧ x' = ix := fun {p' x' q' j'} hrc => g.uniq _ _ _ _ m (by omega) hrc.2.1 hev
      refine ⟨_, rfl, rfl, _, rfl, ?_⟩
      rcases hc with ⟨rfl, none'⟩ | ⟨qq, j, ⟨t2, rfl, ht2⟩, hev2⟩
      · refine iteNS rfl ?_
        refine ⟨s3, i23, ⟨_, _, _, rfl⟩, ws, L, hF3, pimp pw fun _ _ y => TupI.im y i3, by omega, snd, fun k kv' m' hk hkv' hm' p' x' q' j' hrc => ?_⟩
        by_cases ck : k < i
        · exact cpl k kv' m' ck hkv' hm' p' x' q' j' hrc
        · have : k = i := by omega
          subst this
          rw [hkv] at hkv'
          cases hkv'
          cases hm'
          exact absurd hrc.2.2 (none' _ _)
      · have ht1' := i23.t ht1
        have ht2' := i23.t ht2
        refine ⟨.ref F, rfl, .inl ⟨rfl, _, sqL hF3⟩, _, rfl, _, rfl, t1, _, rfl, .inl (sqT ht1'), _, rfl, t2, _, rfl, .inl (sqT ht2'), (by show 5 ≤ sizeLine; decide), fun t3 nt3 => ?_⟩
        have hF4 := keep_new (o := .tup ([m, (p : Int), (ix : Int), (qq : Int), (j : Int)].map V.int)) hF3 nt3
        refine ⟨F, ws, .ref t3, rfl, rfl, hF4, small1000 (by rw [plen pw]; have := lt_of hkv; omega), ?_⟩
        have i4 : ISame H2 (upd (upd (upd H2 t0 (.tup [kV (Sum.inl m), .ref t])) t3 (.tup ([m, (p : Int), (ix : Int), (qq : Int), (j : Int)].map V.int))) F (.lst (ws ++ [.ref t3]))) := (i3.trans (im_new nt3)).trans (im_lst hF4)
        refine ⟨sm_own (sm_fresh s3 nt3) nF, i2.trans i4, ⟨_, _, _, rfl⟩, _, L ++ [(m, p, ix, qq, j)], upd_same, psnoc (pimp pw fun _ _ y => TupI.im y i4) (TupI.im (ns := [m, (p : Int), (ix : Int), (qq : Int), (j : Int)]) ⟨t3, rfl, upd_same⟩ (im_lst hF4)), by rw [List.length_append, List.length_singleton]; omega, fun x hx => ?_, fun k kv' m' hk hkv' hm' p' x' q' j' hrc => ?_⟩
        · rcases List.mem_append.mp hx with hx | hx
          · exact snd x hx
          · rw [List.mem_singleton] at hx
            subst hx
            exact ⟨m0, hev, hev2⟩
        · by_cases ck : k < i
          · exact List.mem_append_left _ (cpl k kv' m' ck hkv' hm' p' x' q' j' hrc)
          · have : k = i := by omega
            subst this
            rw [hkv] at hkv'
            cases hkv'
            cases hm'
            obtain ⟨rfl, rfl⟩ := mine hrc
            obtain ⟨rfl, rfl⟩ := g.uniq _ _ _ _ (-m) (by omega) hrc.2.2 hev2
            simp
    · rintro σ H2 ⟨s2, i2, ⟨y2, y3, y4, rfl⟩, ws, L, hF, pw, lL, snd, cpl⟩
      refine ⟨_, rfl, q _ F ws L s2 nF hF pw (fun x => ⟨snd x, fun hx => ?_⟩) (by omega)⟩
      obtain ⟨m, p, ix, qq, j⟩ := x
      obtain ⟨v, hv⟩ := Option.isSome_iff_exists.mp (cmp p ix m hx.1 hx.2.1)
      obtain ⟨k, hk⟩ := List.mem_iff_getElem?.mp (valV_mem hv)
      exact cpl k _ m (lt_of hk) hk rfl p ix qq j hx
/-! ### message_intervals -/
abbrev s_message_intervals : Stmt := topS 30
theorem sc_message_intervals : FnScope ["history", "rows", "message", "sender", "sent", "receiver", "received"] ["history"] (defScope s_message_intervals) := ⟨rfl, rfl, rfl, by decide +kernel, rfl, by decide +kernel, by decide +kernel⟩
abbrev Iv := Nat × Nat × Nat × Nat
def IvI (H : Hp) (v : V) (x : Iv) : Prop := TupI H v [(x.1 : Int), (x.2.1 : Int), (x.2.2.1 : Int), (x.2.2.2 : Int)]
def ivOf (R : Rows) (x : Rc) : Iv := (x.2.1, cz ((row R x.2.1).take x.2.2.1), x.2.2.2.1, cz ((row R x.2.2.2.1).take x.2.2.2.2))
def spIvs : Sp := fun vs H Q _ => ∃ a R, vs = [.ref a] ∧ HistAt H a R ∧ Good R ∧ Sz R ∧ ∀ H' D ws L, Same H H' → H D = none → H' D = some (.lst ws) → Paired (IvI H') ws L → (∀ p a q b, (p, a, q, b) ∈ L ↔ Mv R p a q b) → L.length ≤ 60 → Q (.ref D) H'
theorem c_message_intervals (T : Txt mg) (D : Dn K mg "message_intervals" s_message_intervals ["history"]) (c_received_messages : Cal P w K mg base 3 "received_messages" ["history"] spRecv) (c_interval_at : Cal P w K mg base 1 "interval_at" ["row", "index"] spInterval) : Cal P w K mg base 4 "message_intervals" ["history"] spIvs := by
  refine D.cal sc_message_intervals (fun vs H Q E h => ?_) (fun f cdv A outer s H vs Q E hr h => ?_)
  · obtain ⟨a, R, rfl, _⟩ := h
    rfl
  · obtain ⟨a, R, rfl, hh, g, sz, q⟩ := h
    have hu := hu_of hr
    refine ⟨_, (pss_cons (ps_set (i := 1) sc_message_intervals.nd rfl (Or.inl rfl) (pe_lst pa_nil))
      (pss_cons (ps_for PassesOwn.never rfl (pi_list (pe_cal c_received_messages (hr.mono (by decide)) (pa_cons (pv 0) pa_nil))) (pg_tup rfl (pgs_cons (pg_name (i := 2) sc_message_intervals.nd rfl (Or.inl rfl)) (pgs_cons (pg_name (i := 3) sc_message_intervals.nd rfl (Or.inl rfl)) (pgs_cons (pg_name (i := 4) sc_message_intervals.nd rfl (Or.inl rfl)) (pgs_cons (pg_name (i := 5) sc_message_intervals.nd rfl (Or.inl rfl)) (pgs_cons (pg_name (i := 6) sc_message_intervals.nd rfl (Or.inl rfl)) pgs_nil)))))) (pss_one (ps_expr (pe_bm PySem.F.plainAttrs_list PySem.F.slot_list_append PySem.F.type_list_append mt_append (pv 1) (pa_cons (pe_tup (pa_cons (pv 3) (pa_cons (pe_cal c_interval_at (hr.mono (by decide)) (pa_cons (pe_ix ix_tup (pv 0) (pv 3) (fun _ _ => rfl)) (pa_cons (pv 4) pa_nil))) (pa_cons (pv 5) (pa_cons (pe_cal c_interval_at (hr.mono (by decide)) (pa_cons (pe_ix ix_tup (pv 0) (pv 5) (fun _ _ => rfl)) (pa_cons (pv 6) pa_nil))) pa_nil))))) pa_nil)))))
      (pss_one (ps_ret (pv 1))))), ?_⟩
    refine ⟨Nat.zero_le _, fun F nF => ?_⟩
    have s0 := sm_new (o := .lst []) nF
    refine ⟨_, rfl, a, R, rfl, hh.im (im s0), g, sz, fun H1 D ws L s1 nD hD pw mem lL => ?_⟩
    have s01 := s0.trans s1
    have hFD : F ≠ D := fun z => by subst z; rw [upd_same] at nD; cases nD
    refine ⟨D, rfl, ⟨ws, sqL hD⟩, for_it (walk_list (xs := ws)) (fun i σ H' => Same H H' ∧ H' D = some (.lst ws) ∧ Paired (RcI H') ws L ∧ (∃ y2 y3 y4 y5 y6, σ = [some (.ref a), some (.ref F), y2, y3, y4, y5, y6]) ∧ ∃ us, H' F = some (.lst us) ∧ Paired (IvI H') us ((L.take i).map (ivOf R)))
      ⟨s01, hD, pw, ⟨none, none, none, none, none, rfl⟩, [], s1 _ _ upd_same, .nil⟩ (fun i σ H' _ z => sqL z.2.1) ?_ ?_⟩
    · rintro i x σ H2 H3 hi ⟨s2, hD2, pw2, ⟨y2, y3, y4, y5, y6, rfl⟩, us, hF, pu⟩ ⟨rfl, hx⟩
      obtain ⟨⟨m, p, ix, qq, j⟩, hm, t, rfl, ht⟩ := pgetL pw2 hx
      obtain ⟨m0, hev, hev2⟩ := (mem _).mp (List.mem_of_getElem? hm)
      obtain ⟨vs, r, ha, hl, hv, hrow⟩ := hh.row (ev_pl hev)
      obtain ⟨vs', r', ha', hl', hv', hrow'⟩ := hh.row (ev_pl hev2)
      have h60 := sz.row p
      have h60' := sz.row qq
      have lu : us.length < sizeLine := small1000 (by rw [plen pu, List.length_map, List.length_take]; omega)
      refine ⟨t, _, rfl, sqT ht, rfl, _, _, rfl, _, _, rfl, _, _, rfl, _, _, rfl, _, _, rfl, rfl, ?_⟩
      refine ⟨.ref F, rfl, .inl ⟨rfl, _, sqL hF⟩, _, rfl, _, rfl, _, rfl, a, vs, _, _, rfl, rfl, sqT (s2 _ _ ha), atI_nat hv, _, rfl, r, row R p, ix, rfl, hrow.same s2, ev_lt hev, by omega, fun H4 s4 => ?_⟩
      have s24 := s2.trans s4
      refine ⟨_, rfl, _, rfl, _, rfl, a, vs', _, _, rfl, rfl, sqT (s24 _ _ ha'), atI_nat hv', _, rfl, r', row R qq, j, rfl, hrow'.same s24, ev_lt hev2, by omega, fun H5 s5 => ?_⟩
      refine ⟨(by show 4 ≤ sizeLine; decide), fun t3 nt3 => ?_⟩
      have s45 := s4.trans s5
      have hF5 := s45 _ _ hF
      have hF6 := keep_new (o := .tup [.int (p : Int), .int (cz ((row R p).take ix) : Nat), .int (qq : Int), .int (cz ((row R qq).take j) : Nat)]) hF5 nt3
      have hD6 := keep_new (o := .tup [.int (p : Int), .int (cz ((row R p).take ix) : Nat), .int (qq : Int), .int (cz ((row R qq).take j) : Nat)]) (s45 _ _ hD2) nt3
      refine ⟨F, us, .ref t3, rfl, rfl, hF6, lu, ?_⟩
      have i6 : ISame H3 (upd (upd H5 t3 (.tup [.int (p : Int), .int (cz ((row R p).take ix) : Nat), .int (qq : Int), .int (cz ((row R qq).take j) : Nat)])) F (.lst (us ++ [.ref t3]))) := ((im s45).trans (im_new nt3)).trans (im_lst hF6)
      refine ⟨sm_own (sm_fresh (s2.trans s45) nt3) nF, by rw [upd_ne hFD.symm]; exact hD6, pimp pw2 fun _ _ y => TupI.im y i6, ⟨_, _, _, _, _, rfl⟩, _, upd_same, ?_⟩
      rw [take_one hm, List.map_append]
      exact psnoc (pimp pu fun _ _ y => TupI.im y i6) (TupI.im (ns := [(p : Int), (cz ((row R p).take ix) : Nat), (qq : Int), (cz ((row R qq).take j) : Nat)]) ⟨t3, rfl, upd_same⟩ (im_lst hF6))
    · rintro σ H2 ⟨s2, hD2, pw2, ⟨y2, y3, y4, y5, y6, rfl⟩, us, hF, pu⟩
      rw [take_all (Nat.le_of_eq (plen pw).symm)] at pu
      refine ⟨_, rfl, q _ F us _ s2 nF hF pu (fun p a q b => ⟨fun hx => ?_, fun hx => ?_⟩) (by rw [List.length_map]; exact lL)⟩
      · obtain ⟨⟨m, p', ix, q', j⟩, hm, e⟩ := List.mem_map.mp hx
        obtain ⟨m0, hev, hev2⟩ := (mem _).mp hm
        unfold ivOf at e
        cases e
        exact ⟨m, ix, j, m0, hev, hev2, rfl, rfl⟩
      · obtain ⟨m, i, j, m0, hev, hev2, rfl, rfl⟩ := hx
        exact List.mem_map.mpr ⟨(m, p, i, q, j), (mem _).mpr ⟨m0, hev, hev2⟩, rfl⟩
end
end K57

/-! ## KD8 -/
namespace K57
open PySem PySem.Spec PyProof.Rows L2
section
variable {P : Program} {w : World} {K : PySem.W.Frag} {mg : Str → Option Value} {base : Heap}
theorem zeros_eq (n : Nat) : (List.replicate ((n : Nat) : Int).toNat [V.int 0]).flatten = nats (List.replicate n 0) := by
  unfold nats
  rw [List.map_replicate, List.map_replicate, Int.toNat_natCast]
  induction n with
  | zero => rfl
  | succ m ih => rw [List.replicate_succ, List.replicate_succ, List.flatten_cons, ih]; rfl
theorem fn_at {dn : List Nat} {i : Nat} (h : i < dn.length) : atI (nats dn) (i : Int) = some (.int (fn dn i : Nat)) := at_nats (getD_at h)
/-! ### causal_past -/
abbrev s_causal_past : Stmt := topS 27
theorem sc_causal_past : FnScope ["history", "state", "process", "number", "past", "rows", "changed", "message", "sender", "sent", "receiver", "received"] ["history", "state"] (defScope s_causal_past) := ⟨rfl, rfl, rfl, by decide +kernel, rfl, by decide +kernel, by decide +kernel⟩
def spPast : Sp := fun vs H Q _ => ∃ (a : Addr) (R : Rows) (u : V) (p n : Nat), vs = [.ref a, u] ∧ HistAt H a R ∧ Good R ∧ Sz R ∧ StI H u (p, n) ∧ p < R.length ∧ ∀ H' D dn, Same H H' → H D = none → H' D = some (.lst (nats dn)) → dn.length = R.length → IsPast R p n (fn dn) → Q (.ref D) H'
theorem c_causal_past (T : Txt mg) (D : Dn K mg "causal_past" s_causal_past ["history", "state"]) (c_place_of : Cal P w K mg base 1 "place_of" ["history", "state"] spPlace) (c_received_messages : Cal P w K mg base 3 "received_messages" ["history"] spRecv) : Cal P w K mg base 4 "causal_past" ["history", "state"] spPast := by
  refine D.cal sc_causal_past (fun vs H Q E h => ?_) (fun f cdv A outer s H vs Q E hr h => ?_)
  · obtain ⟨a, R, u, p, n, rfl, _⟩ := h
    rfl
  · obtain ⟨a, R, u, p, n, rfl, hh, g, sz, ⟨t, rfl, ht⟩, hp, q⟩ := h
    have hu := hu_of hr
    refine ⟨_, (pss_cons (ps_asg (pv 1) (pg_tup rfl (pgs_cons (pg_name (i := 2) sc_causal_past.nd rfl (Or.inl rfl)) (pgs_cons (pg_name (i := 3) sc_causal_past.nd rfl (Or.inl rfl)) pgs_nil))))
      (pss_cons (ps_set (i := 4) sc_causal_past.nd rfl (Or.inl rfl) (pe_op op_rep (pe_lst (pa_cons pe_int pa_nil)) (pe_callB call_len_seq (by rfl) T.len PySem.boot_len (pa_cons (pv 0) pa_nil))))
      (pss_cons (ps_asg (pe_cal c_place_of (hr.mono (by decide)) (pa_cons (pv 0) (pa_cons (pv 1) pa_nil))) (pg_sub (pv 4) (pv 2) set_list))
      (pss_cons (ps_set (i := 5) sc_causal_past.nd rfl (Or.inl rfl) (pe_cal c_received_messages (hr.mono (by decide)) (pa_cons (pv 0) pa_nil)))
      (pss_cons (ps_set (i := 6) sc_causal_past.nd rfl (Or.inl rfl) pe_bl)
      (pss_cons (ps_while PassesOwn.never (pt_val (pv 6)) (pss_cons (ps_set (i := 6) sc_causal_past.nd rfl (Or.inl rfl) pe_bl)
      (pss_one (ps_for PassesOwn.never rfl (pi_list (pv 5)) (pg_tup rfl (pgs_cons (pg_name (i := 7) sc_causal_past.nd rfl (Or.inl rfl)) (pgs_cons (pg_name (i := 8) sc_causal_past.nd rfl (Or.inl rfl)) (pgs_cons (pg_name (i := 9) sc_causal_past.nd rfl (Or.inl rfl)) (pgs_cons (pg_name (i := 10) sc_causal_past.nd rfl (Or.inl rfl)) (pgs_cons (pg_name (i := 11) sc_causal_past.nd rfl (Or.inl rfl)) pgs_nil)))))) (pss_one (ps_if (PW.pt (pw_and (pt_cmpR op_lt (pv 11) (pe_ix ix_list (pv 4) (pv 10) (fun _ _ => rfl)) (nomark _)) (pw_and1 (pt_cmpR op_le (pe_ix ix_list (pv 4) (pv 8) (fun _ _ => rfl)) (pv 9) (nomark _))))) (pss_cons (ps_asg (pe_op op_add (pv 9) pe_int) (pg_sub (pv 4) (pv 8) set_list))
      (pss_one (ps_set (i := 6) sc_causal_past.nd rfl (Or.inl rfl) pe_bl))) pss_nil))))))
      (pss_one (ps_ret (pv 4))))))))), ?_⟩
    obtain ⟨vs, ha, pr⟩ := id hh
    have hn := plen pr
    have h6 := sz.len
    -- process, number = state; past = [0] * len(history)
    refine ⟨_, rfl, t, _, rfl, sqT ht, rfl, _, _, rfl, _, _, rfl, rfl, ?_⟩
    refine ⟨Nat.succ_le_of_lt (by decide), fun l0 n0 => ?_⟩
    have s0 := sm_new (o := .lst [.int 0]) n0
    refine ⟨.ref a, rfl, a, vs, rfl, .inr (sqT (s0 _ _ ha)), l0, _, _, rfl, rfl, upd_same, by omega, by omega, by simp; exact small63 (by omega), fun d nd => ?_⟩
    rw [zeros_eq, hn]
    have s1 := sm_fresh (o := .lst (nats (List.replicate R.length 0))) s0 nd
    have nd0 : H d = none := s0.free nd
    -- past[process] = place_of(history, state)
    refine ⟨_, rfl, _, rfl, a, R, _, p, n, rfl, hh.im (im s1), sz, ⟨t, rfl, s1 _ _ ht⟩, hp, fun H1 sm => ?_⟩
    have s2 := s1.trans sm
    have hd1 := sm _ _ upd_same
    refine ⟨_, rfl, _, rfl, d, _, p, p, rfl, rfl, hd1, by rw [nats_len, List.length_replicate]; exact ix_at hp, ?_⟩
    rw [nats_set]
    have up0 := PastUp.start (n := n) hp
    have s3 := sm_own (o := .lst (nats ((List.replicate R.length 0).set p (place (row R p) n)))) s2 nd0
    generalize (List.replicate R.length 0).set p (place (row R p) n) = dn0 at up0 s3
    -- rows = received_messages(history); changed = True
    refine ⟨_, rfl, a, R, rfl, hh.im (im s3), g, sz, fun H2 L ws Lx sm2 nL hL pw mem lL => ?_⟩
    have s4 := s3.trans sm2
    have hd2 := sm2 _ _ upd_same
    have dL : d ≠ L := fun z => by subst z; rw [upd_same] at nL; cases nL
    refine ⟨fun m σ H' => ∃ dn ch y7 y8 y9 y10 y11, m = total R - dn.sum + (if ch = true then 1 else 0) ∧ σ = [some (.ref a), some (.ref t), some (.int (p : Int)), some (.int (n : Int)), some (.ref d), some (.ref L), some (.bl ch), y7, y8, y9, y10, y11] ∧
      Same H H' ∧ H' d = some (.lst (nats dn)) ∧ H' L = some (.lst ws) ∧ Paired (RcI H') ws Lx ∧ PastUp R p n dn ∧ (ch = false → ∀ x ∈ Lx, x.2.2.2.2 < fn dn x.2.2.2.1 → x.2.2.1 < fn dn x.2.1),
      ⟨_, dn0, true, none, none, none, none, none, rfl, rfl, s4, hd2, hL, pw, up0, fun z => (by cases z)⟩, ?_⟩
    rintro m σ H3 ⟨dn, ch, y7, y8, y9, y10, y11, rfl, rfl, s5, hd, hL3, pw3, up, fin⟩
    refine ⟨_, rfl, ch, rfl, ?_⟩
    cases ch with
    | false =>
      refine ⟨_, rfl, q _ d dn s5 nd0 hd up.len (up.done fun m s i qq j h0 x y hj => ?_)⟩
      exact fin rfl (m, s, i, qq, j) ((mem _).mpr ⟨h0, x, y⟩) hj
    | true =>
      refine ⟨fun σ' H' => ∃ dn' ch y7 y8 y9 y10 y11, total R - dn'.sum + (if ch = true then 1 else 0) < total R - dn.sum + 1 ∧ σ' = [some (.ref a), some (.ref t), some (.int (p : Int)), some (.int (n : Int)), some (.ref d), some (.ref L), some (.bl ch), y7, y8, y9, y10, y11] ∧
        Same H H' ∧ H' d = some (.lst (nats dn')) ∧ H' L = some (.lst ws) ∧ Paired (RcI H') ws Lx ∧ PastUp R p n dn' ∧ (ch = false → ∀ x ∈ Lx, x.2.2.2.2 < fn dn' x.2.2.2.1 → x.2.2.1 < fn dn' x.2.1),
        fun σ' H' ⟨dn', ch, y7, y8, y9, y10, y11, hm, r⟩ => ⟨_, hm, dn', ch, y7, y8, y9, y10, y11, rfl, r⟩, ?_⟩
      -- changed = False; for ..
      refine ⟨_, rfl, L, rfl, ⟨ws, sqL hL3⟩, for_it (walk_list (xs := ws)) (fun i σ H' => Same H H' ∧ H' L = some (.lst ws) ∧ Paired (RcI H') ws Lx ∧ ∃ dn' ch y7 y8 y9 y10 y11, σ = [some (.ref a), some (.ref t), some (.int (p : Int)), some (.int (n : Int)), some (.ref d), some (.ref L), some (.bl ch), y7, y8, y9, y10, y11] ∧
        H' d = some (.lst (nats dn')) ∧ PastUp R p n dn' ∧ (ch = false → dn' = dn ∧ ∀ x ∈ Lx.take i, x.2.2.2.2 < fn dn' x.2.2.2.1 → x.2.2.1 < fn dn' x.2.1) ∧ (ch = true → dn.sum < dn'.sum))
        ⟨s5, hL3, pw3, dn, false, _, _, _, _, _, rfl, hd, up, fun _ => ⟨rfl, fun x hx => by simp at hx⟩, fun z => (by cases z)⟩ (fun i σ H' _ z => sqL z.2.1) ?_ ?_⟩
      · rintro i x σ H4 H5 hi ⟨s6, hL4, pw4, dn', ch, z7, z8, z9, z10, z11, rfl, hd4, up4, same, grow⟩ ⟨rfl, hx⟩
        obtain ⟨⟨m, sp, si, rq, rj⟩, hm, t2, rfl, ht2⟩ := pgetL pw4 hx
        obtain ⟨m0, hev, hev2⟩ : 0 < m ∧ ev R sp si = some m ∧ ev R rq rj = some (-m) := (mem _).mp (List.mem_of_getElem? hm)
        have hsp : sp < dn'.length := by rw [up4.len]; exact ev_pl hev
        have hrq : rq < dn'.length := by rw [up4.len]; exact ev_pl hev2
        refine ⟨t2, _, rfl, sqT ht2, rfl, _, _, rfl, _, _, rfl, _, _, rfl, _, _, rfl, _, _, rfl, rfl, ?_⟩
        refine ⟨_, rfl, _, rfl, _, rfl, d, _, rq, _, rfl, rfl, sqL hd4, fn_at hrq, _, _, rfl, rfl, _, rfl, ite2 (fun c => ?_) (fun c => ?_)⟩
        · have c1 : (rj : Int) < (fn dn' rq : Nat) := of_decide_eq_true c
          refine ⟨_, rfl, _, rfl, d, _, sp, _, rfl, rfl, sqL hd4, fn_at hsp, _, rfl, _, _, rfl, rfl, _, rfl, ite2 (fun c2 => ?_) (fun c2 => ?_)⟩
          · have c3 : ((fn dn' sp : Nat) : Int) ≤ (si : Int) := of_decide_eq_true c2
            obtain ⟨up5, gr⟩ := up4.step m0 hev hev2 (by omega) (by omega)
            refine ⟨_, rfl, _, _, rfl, rfl, _, rfl, _, rfl, d, _, sp, sp, rfl, rfl, hd4, by rw [nats_len]; exact ix_at hsp, ?_⟩
            have i5 : ISame H5 (upd H5 d (.lst ((nats dn').set sp (.int ((si : Int) + 1))))) := im_lst hd4
            have e5 : (nats dn').set sp (.int ((si : Int) + 1)) = nats (dn'.set sp (si + 1)) := nats_set dn' sp (si + 1)
            have hs : dn.sum ≤ dn'.sum := by
              cases ch with
              | true => exact Nat.le_of_lt (grow rfl)
              | false => rw [(same rfl).1]; exact Nat.le_refl _
            refine ⟨sm_own s6 nd0, by rw [upd_ne dL.symm]; exact hL4, pimp pw4 fun _ _ y => TupI.im y i5, dn'.set sp (si + 1), true, _, _, _, _, _, rfl, by rw [upd_same]; exact congrArg (fun l => some (HO.lst l)) e5, up5, fun z => (by cases z), fun _ => by omega⟩
          · have c3 : ¬ ((fn dn' sp : Nat) : Int) ≤ (si : Int) := fun z => c2 (decide_eq_true z)
            refine ⟨s6, hL4, pw4, dn', ch, _, _, _, _, _, rfl, hd4, up4, fun z => ⟨(same z).1, fun x hx' hlt => ?_⟩, grow⟩
            rw [take_one hm] at hx'
            rcases List.mem_append.mp hx' with hx' | hx'
            · exact (same z).2 x hx' hlt
            · rw [List.mem_singleton] at hx'
              subst hx'
              show si < fn dn' sp
              omega
        · have c1 : ¬ (rj : Int) < (fn dn' rq : Nat) := fun z => c (decide_eq_true z)
          refine ⟨s6, hL4, pw4, dn', ch, _, _, _, _, _, rfl, hd4, up4, fun z => ⟨(same z).1, fun x hx' hlt => ?_⟩, grow⟩
          rw [take_one hm] at hx'
          rcases List.mem_append.mp hx' with hx' | hx'
          · exact (same z).2 x hx' hlt
          · rw [List.mem_singleton] at hx'
            subst hx'
            have : rj < fn dn' rq := hlt
            omega
      · rintro σ H4 ⟨s6, hL4, pw4, dn', ch, z7, z8, z9, z10, z11, rfl, hd4, up4, same, grow⟩
        refine ⟨dn', ch, _, _, _, _, _, ?_, rfl, s6, hd4, hL4, pw4, up4, fun z => ?_⟩
        · have h1 := up4.sum
          cases ch with
          | true =>
            have := grow rfl
            rw [if_pos rfl]
            omega
          | false =>
            rw [(same rfl).1]
            exact Nat.lt_succ_self _
        · have := (same z).2
          rw [take_all (Nat.le_of_eq (plen pw).symm)] at this
          exact this
end
end K57

/-! ## KD9 -/
namespace K57
open PySem PySem.Spec PyProof.Rows L2
section
variable {P : Program} {w : World} {K : PySem.W.Frag} {mg : Str → Option Value} {base : Heap}
/-! ### vector_of -/
abbrev s_vector_of : Stmt := topS 28
theorem sc_vector_of : FnScope ["history", "state", "process", "number", "past", "found", "row", "count"] ["history", "state"] (defScope s_vector_of) := ⟨rfl, rfl, rfl, by decide +kernel, rfl, by decide +kernel, by decide +kernel⟩
def spVec : Sp := fun vs H Q _ => ∃ (a : Addr) (R : Rows) (u : V) (p n : Nat), vs = [.ref a, u] ∧ HistAt H a R ∧ Good R ∧ Sz R ∧ StI H u (p, n) ∧ p < R.length ∧ ∀ H' t v, Same H H' → H t = none → H' t = some (.tup (nats (vec R v p n))) → IsPast R p n v → Q (.ref t) H'
theorem c_vector_of (T : Txt mg) (D : Dn K mg "vector_of" s_vector_of ["history", "state"]) (c_causal_past : Cal P w K mg base 4 "causal_past" ["history", "state"] spPast) (c_interval_at : Cal P w K mg base 1 "interval_at" ["row", "index"] spInterval) : Cal P w K mg base 5 "vector_of" ["history", "state"] spVec := by
  refine D.cal sc_vector_of (fun vs H Q E h => ?_) (fun f cdv A outer s H vs Q E hr h => ?_)
  · obtain ⟨a, R, u, p, n, rfl, _⟩ := h
    rfl
  · obtain ⟨a, R, u, p, n, rfl, hh, g, sz, ⟨t, rfl, ht⟩, hp, q⟩ := h
    have hu := hu_of hr
    refine ⟨_, (pss_cons (ps_asg (pv 1) (pg_tup rfl (pgs_cons (pg_name (i := 2) sc_vector_of.nd rfl (Or.inl rfl)) (pgs_cons (pg_name (i := 3) sc_vector_of.nd rfl (Or.inl rfl)) pgs_nil))))
      (pss_cons (ps_set (i := 4) sc_vector_of.nd rfl (Or.inl rfl) (pe_cal c_causal_past (hr.mono (by decide)) (pa_cons (pv 0) (pa_cons (pv 1) pa_nil))))
      (pss_cons (ps_setLc (i := 5) (own := [("row", 6), ("count", 7)]) (g := (gTup K 2 (gCons (gName 6) (gCons (gName 7) gNil)))) rfl sc_vector_of.nd rfl rfl (sw_true rfl rfl rfl (by decide +kernel)) (pi_zipM (by rfl) T.zip (pa_cons (pv 0) (pa_cons (pv 4) pa_nil))) (blkOk_by (N := ["history", "state", "process", "number", "past", "found", "row", "count"]) (sc := defScope s_vector_of) (by decide +kernel)) (fun _ _ _ _ _ => (pg_tup rfl (pgs_cons (pg_name (i := 6) sc_vector_of.nd rfl (Or.inl rfl)) (pgs_cons (pg_name (i := 7) sc_vector_of.nd rfl (Or.inl rfl)) pgs_nil)))) (fun _ _ _ _ _ => pts_nil) (fun _ _ _ _ _ => (pe_ifExp (pt_cmpR op_gt (pv 7) pe_int (nomark _)) (pe_op op_add (pe_cal c_interval_at (hr.mono (by decide)) (pa_cons (pv 6) (pa_cons (pe_op op_sub (pv 7) pe_int) pa_nil))) pe_int) pe_int)))
      (pss_cons (ps_asg (pv 3) (pg_sub (pv 5) (pv 2) set_list))
      (pss_one (ps_ret (pe_callTy call_tuple_of (by rfl) T.tuple (by decide +kernel) (pa_cons (pv 5) pa_nil)))))))), ?_⟩
    obtain ⟨vs, ha, pr⟩ := id hh
    have hn := plen pr
    have h6 := sz.len
    refine ⟨_, rfl, t, _, rfl, sqT ht, rfl, _, _, rfl, _, _, rfl, rfl, ?_⟩
    refine ⟨_, rfl, _, rfl, a, R, _, p, n, rfl, hh, g, sz, ⟨t, rfl, ht⟩, hp, fun H1 d dn s1 nd hd ld past => ?_⟩
    -- found = [.. for row, count in zip(history, past)]
    refine ⟨_, rfl, _, rfl, a, d, vs, nats dn, rfl, sqT (s1 _ _ ha), sqL hd, fun L nL => any_it (walk_zipM (xs := vs) (ys := nats dn) (by rw [nats_len]; omega)) (fun i H' => Acc H1 L H' (nats ((List.range i).map fun q => comp (row R q) (fn dn q)))) (Acc.start nL) (fun i H' _ z => ⟨sqT (z.1 _ _ (s1 _ _ ha)), sqL (z.1 _ _ hd)⟩) ?_ ?_⟩
    · rintro i x H2 H3 hi z ⟨t2, x1, x2, rfl, nt, rfl, e1, e2⟩
      obtain ⟨l, hlx, r, rfl, hr'⟩ := pgetL pr e1
      have el := row_of hlx
      have hid : i < dn.length := by omega
      have ex : (nats dn)[i]? = some (.int (fn dn i : Nat)) := nats_at (getD_at hid)
      cases (Option.some.inj (ex.symm.trans e2))
      have lz : (nats ((List.range i).map fun q => comp (row R q) (fn dn q))).length < sizeLine := small1000 (by rw [nats_len, List.length_map, List.length_range]; omega)
      refine ⟨t2, _, rfl, sqT upd_same, rfl, _, _, rfl, _, _, rfl, rfl, rfl, ?_⟩
      have z2 := z.new (o := .tup [.ref r, .int (fn dn i : Nat)]) nt
      have fin : ∀ (k : Nat), k = comp (row R i) (fn dn i) → nats ((List.range i).map fun q => comp (row R q) (fn dn q)) ++ [.int (k : Int)] = nats ((List.range (i + 1)).map fun q => comp (row R q) (fn dn q)) := fun k hk => by
        rw [nats_snoc, List.range_succ, List.map_append, hk]
        rfl
      refine ⟨_, rfl, _, _, rfl, rfl, _, rfl, ite2 (fun c => ?_) (fun c => ?_)⟩
      · have c1 : (0 : Int) < (fn dn i : Nat) := of_decide_eq_true c
        have c2 := past.bound i
        rw [el] at c2
        have h60 := sz.row i
        rw [el] at h60
        have ek : ((fn dn i : Nat) : Int) - 1 = ((fn dn i - 1 : Nat) : Int) := by omega
        refine ⟨_, rfl, _, rfl, _, _, rfl, rfl, r, l, fn dn i - 1, ?_, hr'.same (s1.trans z2.1), by omega, by omega, fun H4 s4 => ?_⟩
        · show [V.ref r, V.int (((fn dn i : Nat) : Int) - 1)] = _
          rw [ek]
        · have z4 := z2.same s4
          refine ⟨_, _, rfl, rfl, _, z4.2, lz, (z4.more nL _).eq (fin (cz (l.take (fn dn i - 1)) + 1) ?_)⟩
          unfold comp
          rw [if_pos (by omega), el]
      · have c1 : ¬ (0 : Int) < (fn dn i : Nat) := fun y => c (decide_eq_true y)
        refine ⟨_, z2.2, lz, (z2.more nL _).eq (fin 0 ?_)⟩
        unfold comp
        rw [if_neg (by omega)]
    · intro H2 z
      have z' : Acc H1 L H2 (nats ((List.range R.length).map fun q => comp (row R q) (fn dn q))) := z.eq (by rw [hn])
      refine ⟨_, rfl, _, rfl, _, rfl, L, _, p, p, rfl, rfl, z'.2, by rw [nats_len, List.length_map, List.length_range]; exact ix_at hp, ?_⟩
      refine ⟨_, rfl, L, _, rfl, .inl ⟨sqL upd_same, fun t3 nt3 => ?_⟩⟩
      have s2 : Same H (upd H2 L (.lst ((nats ((List.range R.length).map fun q => comp (row R q) (fn dn q))).set p (.int (n : Int))))) := sm_own (s1.trans z'.1) (s1.free nL)
      refine q _ t3 (fn dn) (sm_fresh s2 nt3) (s2.free nt3) ?_ past
      rw [upd_same]
      exact congrArg (fun l => some (HO.tup l)) (nats_set _ p n)
/-! ### comes_before -/
abbrev s_comes_before : Stmt := topS 29
theorem sc_comes_before : FnScope ["history", "one", "other", "process", "number"] ["history", "one", "other"] (defScope s_comes_before) := ⟨rfl, rfl, rfl, by decide +kernel, rfl, by decide +kernel, by decide +kernel⟩
def spComes : Sp := fun vs H Q _ => ∃ (a : Addr) (R : Rows) (u v : V) (p n q k : Nat), vs = [.ref a, u, v] ∧ HistAt H a R ∧ Good R ∧ Sz R ∧ StI H u (p, n) ∧ StI H v (q, k) ∧ p < R.length ∧ q < R.length ∧ ∀ H' vf, Same H H' → IsPast R q k vf → Q (.bl (decide (n < (vec R vf q k).getD p 0))) H'
theorem c_comes_before (T : Txt mg) (D : Dn K mg "comes_before" s_comes_before ["history", "one", "other"]) (c_vector_of : Cal P w K mg base 5 "vector_of" ["history", "state"] spVec) : Cal P w K mg base 6 "comes_before" ["history", "one", "other"] spComes := by
  refine D.cal sc_comes_before (fun vs H Q E h => ?_) (fun f cdv A outer s H vs Q E hr h => ?_)
  · obtain ⟨a, R, u, v, p, n, q, k, rfl, _⟩ := h
    rfl
  · obtain ⟨a, R, u, v, p, n, qq, k, rfl, hh, g, sz, ⟨t, rfl, ht⟩, hv, hp, hq, q⟩ := h
    have hu := hu_of hr
    refine ⟨_, (pss_cons (ps_asg (pv 1) (pg_tup rfl (pgs_cons (pg_name (i := 3) sc_comes_before.nd rfl (Or.inl rfl)) (pgs_cons (pg_name (i := 4) sc_comes_before.nd rfl (Or.inl rfl)) pgs_nil))))
      (pss_one (ps_ret (pe_cmpR op_lt (pv 4) (pe_ix ix_tup (pe_cal c_vector_of (hr.mono (by decide)) (pa_cons (pv 0) (pa_cons (pv 2) pa_nil))) (pv 3) (fun _ _ => rfl)) (nomark _))))), ?_⟩
    refine ⟨_, rfl, t, _, rfl, sqT ht, rfl, _, _, rfl, _, _, rfl, rfl, ?_⟩
    refine ⟨_, rfl, _, rfl, _, rfl, a, R, _, qq, k, rfl, hh, g, sz, hv, hq, fun H1 t1 vf s1 nt1 ht1 past => ?_⟩
    refine ⟨_, rfl, t1, _, p, _, rfl, rfl, sqT ht1, at_nats (vec_at hp), _, _, rfl, rfl, ?_⟩
    have e : decide ((n : Int) < (((vec R vf qq k).getD p 0 : Nat) : Int)) = decide (n < (vec R vf qq k).getD p 0) := by
      by_cases c : n < (vec R vf qq k).getD p 0
      · rw [decide_eq_true c]
        exact decide_eq_true (by omega)
      · rw [decide_eq_false c]
        exact decide_eq_false (by omega)
    show Q (.bl (decide ((n : Int) < (((vec R vf qq k).getD p 0 : Nat) : Int)))) H1
    rw [e]
    exact q H1 vf s1 past
/-! ### zigzag_ends -/
abbrev s_zigzag_ends : Stmt := topS 31
theorem sc_zigzag_ends : FnScope ["rows", "count", "state", "process", "number", "least", "ends", "changed", "sender", "sent", "receiver", "received"] ["rows", "count", "state"] (defScope s_zigzag_ends) := ⟨rfl, rfl, rfl, by decide +kernel, rfl, by decide +kernel, by decide +kernel⟩
def ov : Option Nat → V
  | none => .non
  | some k => .int (k : Int)
def wt (E : List (Option Nat)) : Nat := (E.map fun o => o.getD 100).sum
theorem wt_set {E : List (Option Nat)} {r x : Nat} {o : Option Nat} (h : E[r]? = some o) (hx : x < o.getD 100) : wt (E.set r (some x)) < wt E := by
  unfold wt
  rw [List.map_set]
  have := K57.sum_set (E.map fun o => o.getD 100) r x (by rw [List.length_map]; exact lt_of h)
  rw [List.getD_eq_getElem?_getD, List.getElem?_map, h] at this
  have e : ((Option.map (fun o : Option Nat => o.getD 100) (some o)).getD 0) = o.getD 100 := rfl
  rw [e] at this
  have e2 : ((some x : Option Nat).getD 100) = x := rfl
  rw [e2]
  omega
structure ZE (R : Rows) (p n : Nat) (kv : List (Key × V)) (E : List (Option Nat)) : Prop where
  len : E.length = R.length
  sz : kv.length + wt E ≤ 601
  own : ∃ l : Nat, valV kv (.inl (p : Int)) = some (.int (l : Int)) ∧ l ≤ n
  nat : ∀ (q : Nat) v, valV kv (.inl (q : Int)) = some v → ∃ l : Nat, v = .int (l : Int)
  le : ∀ (q e : Nat), E[q]? = some (some e) → ∃ l : Nat, valV kv (.inl (q : Int)) = some (.int (l : Int)) ∧ l + 1 ≤ e
def ZOk (kv : List (Key × V)) (E : List (Option Nat)) (x : Iv) : Prop := ∀ l : Nat, valV kv (.inl (x.1 : Int)) = some (.int (l : Int)) → l ≤ x.2.1 → ∃ e, E[x.2.2.1]? = some (some e) ∧ e ≤ x.2.2.2 + 1
theorem ZE.start {R : Rows} {p n : Nat} (h6 : R.length ≤ 6) : ZE R p n [(.inl (p : Int), .int (n : Int))] (List.replicate R.length none) := by
  refine ⟨List.length_replicate, ?_, ⟨n, valV_pos rfl, Nat.le_refl _⟩, fun q v h => ?_, fun q e h => ?_⟩
  · unfold wt
    rw [List.map_replicate]
    have : (List.replicate R.length ((none : Option Nat).getD 100)).sum = R.length * 100 := by
      induction R.length with
      | zero => rfl
      | succ m ih => rw [List.replicate_succ, List.sum_cons, ih]; show 100 + _ = _; omega
    rw [this]
    show 1 + _ ≤ _
    omega
  · have hm := valV_mem h
    rw [List.mem_singleton] at hm
    cases hm
    exact ⟨n, rfl⟩
  · rw [List.getElem?_replicate] at h
    split at h <;> cases h
theorem ZE.step {R : Rows} {p n : Nat} {kv : List (Key × V)} {E : List (Option Nat)} (z : ZE R p n kv E) {r b g : Nat} {o : Option Nat} (ho : E[r]? = some o) (hb : b + 1 < o.getD 100) (hg : g ≤ b) (hg2 : ∀ l : Nat, valV kv (.inl (r : Int)) = some (.int (l : Int)) → g ≤ l) :
    ZE R p n (putK kv (.inl (r : Int)) (.int (g : Int))) (E.set r (some (b + 1))) ∧ wt (E.set r (some (b + 1))) < wt E := by
  have hw := wt_set ho hb
  refine ⟨⟨by rw [List.length_set]; exact z.len, ?_, ?_, fun q v h => ?_, fun q e h => ?_⟩, hw⟩
  · have := length_putK kv (Sum.inl (r : Int) : Key) (.int (g : Int))
    have := z.sz
    omega
  · obtain ⟨l, hl, hln⟩ := z.own
    rw [valV_put]
    by_cases c : (Sum.inl (p : Int) : Key) = Sum.inl (r : Int)
    · rw [if_pos c]
      have e : p = r := by have := Sum.inl.inj c; omega
      subst e
      exact ⟨g, rfl, Nat.le_trans (hg2 l hl) hln⟩
    · rw [if_neg c]
      exact ⟨l, hl, hln⟩
  · rw [valV_put] at h
    by_cases c : (Sum.inl (q : Int) : Key) = Sum.inl (r : Int)
    · rw [if_pos c] at h
      exact ⟨g, (Option.some.inj h).symm⟩
    · rw [if_neg c] at h
      exact z.nat q v h
  · rw [valV_put]
    by_cases c : q = r
    · subst c
      rw [if_pos rfl]
      rw [List.getElem?_set_self (lt_of ho)] at h
      cases h
      exact ⟨g, rfl, by omega⟩
    · rw [if_neg (fun y => c (by have := Sum.inl.inj y; omega))]
      rw [List.getElem?_set_ne (Ne.symm c)] at h
      exact z.le q e h
theorem ZE.done {R : Rows} {p n : Nat} {kv : List (Key × V)} {E : List (Option Nat)} {L : List Iv} (z : ZE R p n kv E) (ok : ∀ x ∈ L, ZOk kv E x) (mem : ∀ p a q b, (p, a, q, b) ∈ L ↔ Mv R p a q b) {q b : Nat} (h : Zg R p n q b) : ∃ e, E[q]? = some (some e) ∧ e ≤ b + 1 := by
  induction h with
  | one m le =>
    obtain ⟨l, hl, hln⟩ := z.own
    exact ok _ ((mem _ _ _ _).mpr m) l hl (Nat.le_trans hln le)
  | @more q b a r c _ m le ih =>
    obtain ⟨e, he, heb⟩ := ih
    obtain ⟨l, hl, hle⟩ := z.le _ _ he
    exact ok _ ((mem _ _ _ _).mpr m) l hl (show l ≤ a by omega)
theorem ov_set (E : List (Option Nat)) (r x : Nat) : (E.map ov).set r (.int ((x : Nat) : Int)) = (E.set r (some x)).map ov := by
  rw [List.map_set]
  rfl
def spEnds : Sp := fun vs H Q _ => ∃ (D : Addr) (ws : List V) (L : List Iv) (R : Rows) (u : V) (p n : Nat), vs = [.ref D, .int (R.length : Int), u] ∧ H D = some (.lst ws) ∧ Paired (IvI H) ws L ∧ (∀ p a q b, (p, a, q, b) ∈ L ↔ Mv R p a q b) ∧ Sz R ∧ StI H u (p, n) ∧ p < R.length ∧
  ∀ H' F (E : List (Option Nat)), Same H H' → H F = none → H' F = some (.lst (E.map ov)) → E.length = R.length → (∀ q b, Zg R p n q b → ∃ e, E[q]? = some (some e) ∧ e ≤ b + 1) → Q (.ref F) H'
theorem nons_eq (n : Nat) : (List.replicate ((n : Nat) : Int).toNat [V.non]).flatten = (List.replicate n (none : Option Nat)).map ov := by
  rw [Int.toNat_natCast]
  induction n with
  | zero => rfl
  | succ m ih => rw [List.replicate_succ, List.replicate_succ, List.flatten_cons, ih]; rfl
theorem ov_at {E : List (Option Nat)} {r : Nat} {o : Option Nat} (h : E[r]? = some o) : atI (E.map ov) (r : Int) = some (ov o) := atI_nat (by rw [List.getElem?_map, h]; rfl)
theorem Mv.b60 {R : Rows} (sz : Sz R) {p a q b : Nat} (m : Mv R p a q b) : b ≤ 60 := by
  obtain ⟨_, i, j, _, _, _, _, rfl⟩ := m
  refine Nat.le_trans List.count_le_length ?_
  rw [List.length_take]
  have := sz.row q
  omega
theorem c_zigzag_ends (T : Txt mg) (D : Dn K mg "zigzag_ends" s_zigzag_ends ["rows", "count", "state"]) : Cal P w K mg base 1 "zigzag_ends" ["rows", "count", "state"] spEnds := by
  refine D.cal sc_zigzag_ends (fun vs H Q E h => ?_) (fun f cdv A outer s H vs Q E hr h => ?_)
  · obtain ⟨D, ws, L, R, u, p, n, rfl, _⟩ := h
    rfl
  · obtain ⟨D, ws, L, R, u, p, n, rfl, hD, pw, mem, sz, ⟨t, rfl, ht⟩, hp, q⟩ := h
    have hu := hu_of hr
    refine ⟨_, (pss_cons (ps_asg (pv 2) (pg_tup rfl (pgs_cons (pg_name (i := 3) sc_zigzag_ends.nd rfl (Or.inl rfl)) (pgs_cons (pg_name (i := 4) sc_zigzag_ends.nd rfl (Or.inl rfl)) pgs_nil))))
      (pss_cons (ps_par (i := 5) (j := 6) rfl sc_zigzag_ends.nd rfl rfl (by decide) rfl rfl (pa_cons (pe_disp (pps_cons (pv 3) (pv 4) pps_nil) (by rfl) (by rfl) (fun z => by cases z) (by decide)) (pa_cons (pe_op op_rep (pe_lst (pa_cons pe_non pa_nil)) (pv 1)) pa_nil)) (by rfl))
      (pss_cons (ps_set (i := 7) sc_zigzag_ends.nd rfl (Or.inl rfl) pe_bl)
      (pss_cons (ps_while PassesOwn.never (pt_val (pv 7)) (pss_cons (ps_set (i := 7) sc_zigzag_ends.nd rfl (Or.inl rfl) pe_bl)
      (pss_one (ps_for PassesOwn.never rfl (pi_list (pv 0)) (pg_tup rfl (pgs_cons (pg_name (i := 8) sc_zigzag_ends.nd rfl (Or.inl rfl)) (pgs_cons (pg_name (i := 9) sc_zigzag_ends.nd rfl (Or.inl rfl)) (pgs_cons (pg_name (i := 10) sc_zigzag_ends.nd rfl (Or.inl rfl)) (pgs_cons (pg_name (i := 11) sc_zigzag_ends.nd rfl (Or.inl rfl)) pgs_nil))))) (pss_one (ps_if (PW.pt (pw_and (pt_cmp (pc_din hu (pv 8) (pv 5))) (pw_and1 (pt_cmpR op_ge (pv 9) (pe_dget hu (pv 5) (pv 8) (fun _ _ => rfl)) (nomark _))))) (pss_one (ps_if (PW.pt (pw_or (pt_cmpR op_isN (pe_ix ix_list (pv 6) (pv 10) (fun _ _ => rfl)) pe_non (nomark _)) (pw_or1 (pt_cmpR op_lt (pe_op op_add (pv 11) pe_int) (pe_ix ix_list (pv 6) (pv 10) (fun _ _ => rfl)) (nomark _))))) (pss_cons (ps_asg (pe_op op_add (pv 11) pe_int) (pg_sub (pv 6) (pv 10) set_list))
      (pss_cons (ps_dput hu (pv 5) (pv 10) (pe_callB (call_min2 rfl) (by rfl) T.min (by decide +kernel) (pa_cons (pv 11) (pa_cons (pe_dget2 hu (pv 5) (pv 10) (pv 11) ⟨by rfl, by rfl, by rfl, by rfl⟩) pa_nil))) rfl)
      (pss_one (ps_set (i := 7) sc_zigzag_ends.nd rfl (Or.inl rfl) pe_bl)))) pss_nil)) pss_nil))))))
      (pss_one (ps_ret (pv 6))))))), ?_⟩
    have h6 := sz.len
    refine ⟨_, rfl, t, _, rfl, sqT ht, rfl, _, _, rfl, _, _, rfl, rfl, ?_⟩
    -- least, ends = ({process: number}, [None] * count)
    intro k nk
    refine ⟨_, rfl, _, rfl, upd_same, [(.inl (p : Int), .int (n : Int))], rfl, (by show 1 ≤ 15; decide), ?_⟩
    refine ⟨Nat.succ_le_of_lt (by decide), fun l0 n0 => ?_⟩
    have s1 := sm_fresh (o := .lst [.non]) (sm_own (o := .dK (mergeK [] [(.inl (p : Int), .int (n : Int))])) (sm_new (o := .dK []) nk) nk) n0
    have hk1 := keep_new (o := .lst [.non]) (upd_same : (upd (upd H k (.dK [])) k (.dK (mergeK [] [(.inl (p : Int), .int (n : Int))]))) k = some (.dK [(.inl (p : Int), .int (n : Int))])) n0
    refine ⟨_, rfl, l0, _, _, rfl, rfl, upd_same, by omega, by omega, by simp; exact small63 (by omega), fun d nd => ?_⟩
    rw [nons_eq]
    have s2 := sm_fresh (o := .lst ((List.replicate R.length (none : Option Nat)).map ov)) s1 nd
    have hk2 := keep_new (o := .lst ((List.replicate R.length (none : Option Nat)).map ov)) hk1 nd
    have nd0 := s1.free nd
    have dk : d ≠ k := fun z => by subst z; rw [hk1] at nd; cases nd
    refine ⟨_, _, rfl, ?_⟩
    have z0 := ZE.start (R := R) (p := p) (n := n) h6
    -- changed = True; while changed
    refine ⟨fun m σ H' => ∃ kv E ch y8 y9 y10 y11, m = wt E + (if ch = true then 1 else 0) ∧ σ = [some (.ref D), some (.int (R.length : Int)), some (.ref t), some (.int (p : Int)), some (.int (n : Int)), some (.ref k), some (.ref d), some (.bl ch), y8, y9, y10, y11] ∧
      Same H H' ∧ H' k = some (.dK kv) ∧ H' d = some (.lst (E.map ov)) ∧ ZE R p n kv E ∧ (ch = false → ∀ x ∈ L, ZOk kv E x),
      ⟨_, _, _, true, none, none, none, none, rfl, rfl, s2, hk2, upd_same, z0, fun z => (by cases z)⟩, ?_⟩
    rintro m σ H3 ⟨kv0, E0, ch, y8, y9, y10, y11, rfl, rfl, s3, hk3, hd3, ze0, fin⟩
    refine ⟨_, rfl, ch, rfl, ?_⟩
    cases ch with
    | false => exact ⟨_, rfl, q _ d E0 s3 nd0 hd3 ze0.len fun q' b' hz => ze0.done (fin rfl) mem hz⟩
    | true =>
      refine ⟨fun σ' H' => ∃ kv E ch y8 y9 y10 y11, wt E + (if ch = true then 1 else 0) < wt E0 + 1 ∧ σ' = [some (.ref D), some (.int (R.length : Int)), some (.ref t), some (.int (p : Int)), some (.int (n : Int)), some (.ref k), some (.ref d), some (.bl ch), y8, y9, y10, y11] ∧
        Same H H' ∧ H' k = some (.dK kv) ∧ H' d = some (.lst (E.map ov)) ∧ ZE R p n kv E ∧ (ch = false → ∀ x ∈ L, ZOk kv E x),
        fun σ' H' ⟨kv, E, ch, y8, y9, y10, y11, hm, r⟩ => ⟨_, hm, kv, E, ch, y8, y9, y10, y11, rfl, r⟩, ?_⟩
      refine ⟨_, rfl, D, rfl, ⟨ws, sqL (s3 _ _ hD)⟩, for_it (walk_list (xs := ws)) (fun i σ H' => Same H H' ∧ ∃ kv E ch y8 y9 y10 y11, σ = [some (.ref D), some (.int (R.length : Int)), some (.ref t), some (.int (p : Int)), some (.int (n : Int)), some (.ref k), some (.ref d), some (.bl ch), y8, y9, y10, y11] ∧
        H' k = some (.dK kv) ∧ H' d = some (.lst (E.map ov)) ∧ ZE R p n kv E ∧ (ch = false → (kv = kv0 ∧ E = E0) ∧ ∀ x ∈ L.take i, ZOk kv E x) ∧ (ch = true → wt E < wt E0))
        ⟨s3, kv0, E0, false, _, _, _, _, rfl, hk3, hd3, ze0, fun _ => ⟨⟨rfl, rfl⟩, fun x hx => by simp at hx⟩, fun z => (by cases z)⟩ (fun i σ H' _ z => sqL (z.1 _ _ hD)) ?_ ?_⟩
      · rintro i x σ H4 H5 hi ⟨s4, kv, E, ch, z8, z9, z10, z11, rfl, hk4, hd4, ze, same, less⟩ ⟨rfl, hx⟩
        obtain ⟨⟨sp, sa, rr, b⟩, hm, t2, rfl, ht2⟩ := pgetL pw hx
        have hmv : Mv R sp sa rr b := (mem _ _ _ _).mp (List.mem_of_getElem? hm)
        have b60 := hmv.b60 sz
        have hrr : rr < R.length := by obtain ⟨_, i', j', _, _, y, _⟩ := hmv; exact ev_pl y
        obtain ⟨o, ho⟩ : ∃ o, E[rr]? = some o := ⟨_, List.getElem?_eq_getElem (by rw [ze.len]; exact hrr)⟩
        -- this turn changes nothing
        have stay : ZOk kv E (sp, sa, rr, b) → (ch = false → (kv = kv0 ∧ E = E0) ∧ ∀ x ∈ L.take (i + 1), ZOk kv E x) := fun y z => by
          refine ⟨(same z).1, fun x hx' => ?_⟩
          rw [take_one hm] at hx'
          rcases List.mem_append.mp hx' with hx' | hx'
          · exact (same z).2 x hx'
          · rw [List.mem_singleton] at hx'
            subst hx'
            exact y
        refine ⟨t2, _, rfl, sqT (s4 _ _ ht2), rfl, _, _, rfl, _, _, rfl, _, _, rfl, _, _, rfl, rfl, ?_⟩
        refine ⟨_, rfl, _, rfl, k, _, rfl, DGet.k (k := Sum.inl (sp : Int)) hk4, _, rfl, ?_⟩
        cases hv : valV kv (Sum.inl (sp : Int) : Key) with
        | none => exact ⟨s4, kv, E, ch, _, _, _, _, rfl, hk4, hd4, ze, stay (fun l hl _ => by rw [hv] at hl; cases hl), less⟩
        | some v =>
          obtain ⟨l, rfl⟩ := ze.nat sp v hv
          refine ⟨_, rfl, _, rfl, _, rfl, k, _, rfl, by rw [← hv]; exact DGet.k (k := Sum.inl (sp : Int)) hk4, _, _, rfl, rfl, _, rfl, ite2 (fun c => ?_) (fun c => ?_)⟩
          · have c1 : (l : Int) ≤ (sa : Int) := of_decide_eq_true c
            -- the least that is known of the receiver
            obtain ⟨j, hj, hjl⟩ : ∃ j : Nat, (valV kv (Sum.inl (rr : Int) : Key)).getD (.int (b : Int)) = .int (j : Int) ∧ ∀ l : Nat, valV kv (Sum.inl (rr : Int) : Key) = some (.int (l : Int)) → j = l := by
              cases hv2 : valV kv (Sum.inl (rr : Int) : Key) with
              | none => exact ⟨b, rfl, fun l hl => by cases hl⟩
              | some v2 =>
                obtain ⟨l2, rfl⟩ := ze.nat rr v2 hv2
                exact ⟨l2, rfl, fun l hl => by have := V.int.inj (Option.some.inj hl); omega⟩
            have eg : (if (j : Int) < (b : Int) then (j : Int) else (b : Int)) = ((if j < b then j else b : Nat) : Int) := by
              by_cases y : j < b
              · rw [if_pos y, if_pos (by omega)]
              · rw [if_neg y, if_neg (by omega)]
            have stepZ : b + 1 < o.getD 100 → ZE R p n (putK kv (.inl (rr : Int)) (.int ((if j < b then j else b : Nat) : Int))) (E.set rr (some (b + 1))) ∧ wt (E.set rr (some (b + 1))) < wt E := fun hb =>
              ze.step ho hb (by split <;> omega) (fun l hl => by rw [← hjl l hl]; split <;> omega)
            have lw : wt E ≤ wt E0 := by
              cases ch with
              | true => exact Nat.le_of_lt (less rfl)
              | false => rw [(same rfl).1.2]; exact Nat.le_refl _
            have hdk : ∀ o, (upd H5 d o) k = some (.dK kv) := fun o => by rw [upd_ne dk.symm]; exact hk4
            have kz : kv.length ≤ 1000 := by have := ze.sz; omega
            have e5 : (E.map ov).set rr (.int ((b : Int) + 1)) = (E.set rr (some (b + 1))).map ov := ov_set E rr (b + 1)
            refine ⟨_, rfl, _, rfl, d, _, rr, _, rfl, rfl, sqL hd4, ov_at ho, rfl, _, rfl, ?_⟩
            cases o with
            | none =>
              obtain ⟨zz, ww⟩ := stepZ (by show b + 1 < 100; omega)
              refine ⟨_, rfl, _, _, rfl, rfl, _, rfl, _, rfl, d, _, rr, rr, rfl, rfl, hd4, by rw [List.length_map, ze.len]; exact ix_at hrr, ?_⟩
              refine ⟨_, rfl, _, rfl, k, rfl, .inl ⟨_, .inl (hdk _)⟩, _, rfl, _, rfl, _, DGet.k (k := Sum.inl (rr : Int)) (hdk _), b, j, by rw [hj], ?_⟩
              rw [eg]
              refine ⟨_, rfl, _, rfl, k, _, rfl, DPut.k (k := Sum.inl (rr : Int)) (hdk _) (small1000 kz), ?_⟩
              exact ⟨sm_own (sm_own s4 nd0) nk, _, E.set rr (some (b + 1)), true, _, _, _, _, rfl, upd_same, by rw [upd_ne dk, upd_same]; exact congrArg (fun l => some (HO.lst l)) e5, zz, fun z => (by cases z), fun _ => by omega⟩
            | some e =>
              refine ⟨_, rfl, _, _, rfl, rfl, _, rfl, _, rfl, d, _, rr, _, rfl, rfl, sqL hd4, ov_at ho, _, _, rfl, rfl, _, rfl, ite2 (fun c2 => ?_) (fun c2 => ?_)⟩
              · have c3 : (b : Int) + 1 < (e : Int) := of_decide_eq_true c2
                obtain ⟨zz, ww⟩ := stepZ (by show b + 1 < e; omega)
                refine ⟨_, rfl, _, _, rfl, rfl, _, rfl, _, rfl, d, _, rr, rr, rfl, rfl, hd4, by rw [List.length_map, ze.len]; exact ix_at hrr, ?_⟩
                refine ⟨_, rfl, _, rfl, k, rfl, .inl ⟨_, .inl (hdk _)⟩, _, rfl, _, rfl, _, DGet.k (k := Sum.inl (rr : Int)) (hdk _), b, j, by rw [hj], ?_⟩
                rw [eg]
                refine ⟨_, rfl, _, rfl, k, _, rfl, DPut.k (k := Sum.inl (rr : Int)) (hdk _) (small1000 kz), ?_⟩
                exact ⟨sm_own (sm_own s4 nd0) nk, _, E.set rr (some (b + 1)), true, _, _, _, _, rfl, upd_same, by rw [upd_ne dk, upd_same]; exact congrArg (fun l => some (HO.lst l)) e5, zz, fun z => (by cases z), fun _ => by omega⟩
              · have c3 : ¬ (b : Int) + 1 < (e : Int) := fun y => c2 (decide_eq_true y)
                exact ⟨s4, kv, E, ch, _, _, _, _, rfl, hk4, hd4, ze, stay (fun l' _ _ => ⟨e, ho, show e ≤ b + 1 by omega⟩), less⟩
          · have c1 : ¬ (l : Int) ≤ (sa : Int) := fun y => c (decide_eq_true y)
            exact ⟨s4, kv, E, ch, _, _, _, _, rfl, hk4, hd4, ze, stay (fun l' hl' hle => by
              rw [hv] at hl'
              have := V.int.inj (Option.some.inj hl')
              have h2 : l' ≤ sa := hle
              omega), less⟩
      · rintro σ H4 ⟨s4, kv, E, ch, z8, z9, z10, z11, rfl, hk4, hd4, ze, same, less⟩
        refine ⟨kv, E, ch, _, _, _, _, ?_, rfl, s4, hk4, hd4, ze, fun z => ?_⟩
        · cases ch with
          | true => have := less rfl; rw [if_pos rfl]; omega
          | false => rw [(same rfl).1.2]; exact Nat.lt_succ_self _
        · have := (same z).2
          rw [take_all (Nat.le_of_eq (plen pw).symm)] at this
          exact this
end
end K57

/-! ## KD10 -/
namespace K57
open PySem PySem.Spec PyProof.Rows L2
section
variable {P : Program} {w : World} {K : PySem.W.Frag} {mg : Str → Option Value} {base : Heap}
/-! ### find_untracked, is_tracked -/
abbrev s_find_untracked : Stmt := topS 32
theorem sc_find_untracked : FnScope ["history", "vectors", "rows", "one", "process", "number", "ends", "other", "vector", "end", "state"] ["history"] (defScope s_find_untracked) := ⟨rfl, rfl, rfl, by decide +kernel, rfl, by decide +kernel, by decide +kernel⟩
abbrev sk (p n : Nat) : List Key := [Sum.inl (p : Int), Sum.inl (n : Int)]
def VE (R : Rows) (H : Hp) (kv : List Key × V) : Prop := ∃ (p n : Nat) (vf : Nat → Nat) (t : Addr), kv.1 = sk p n ∧ IsState R p n ∧ kv.2 = .ref t ∧ H t = some (.tup (nats (vec R vf p n))) ∧ IsPast R p n vf
theorem VE.im {R : Rows} {H H' : Hp} {kv : List Key × V} (h : VE R H kv) (s : ISame H H') : VE R H' kv := let ⟨p, n, vf, t, h1, h2, h3, h4, h5⟩ := h; ⟨p, n, vf, t, h1, h2, h3, s.t h4, h5⟩
theorem sk_inj {p n q k : Nat} (h : sk p n = sk q k) : p = q ∧ n = k := by
  have h1 := Sum.inl.inj (List.cons.inj h).1
  have h2 := Sum.inl.inj (List.cons.inj (List.cons.inj h).2).1
  omega
/-- one pair of states is tracked -/
def Chk (R : Rows) (p n : Nat) (k : List Key) : Prop := ∀ q m vf, k = sk q m → IsPast R q m vf → ∀ b, Zg R p n q b → b < m → n < (vec R vf q m).getD p 0
def spUntr : Sp := fun vs H Q _ => ∃ a R, vs = [.ref a] ∧ HistAt H a R ∧ Good R ∧ Sz R ∧ (∀ H', Same H H' → Tracked R → Q .non H') ∧ ∀ H' t, Same H H' → Q (.ref t) H'
theorem c_find_untracked (T : Txt mg) (D : Dn K mg "find_untracked" s_find_untracked ["history"]) (c_all_states : Cal P w K mg base 2 "all_states" ["history"] spStates) (c_vector_of : Cal P w K mg base 5 "vector_of" ["history", "state"] spVec)
    (c_message_intervals : Cal P w K mg base 4 "message_intervals" ["history"] spIvs) (c_zigzag_ends : Cal P w K mg base 1 "zigzag_ends" ["rows", "count", "state"] spEnds) : Cal P w K mg base 6 "find_untracked" ["history"] spUntr := by
  refine D.cal sc_find_untracked (fun vs H Q E h => ?_) (fun f cdv A outer s H vs Q E hr h => ?_)
  · obtain ⟨a, R, rfl, _⟩ := h
    rfl
  · obtain ⟨a, R, rfl, hh, g, sz, q0, q1⟩ := h
    have hu := hu_of hr
    have hu0 := Nat.lt_of_succ_lt hu
    refine ⟨_, (pss_cons (ps_setDcL (j := 1) (own := [("state", 10)]) hu0 rfl sc_find_untracked.nd rfl rfl (sw_trueD rfl rfl rfl (by decide +kernel)) (pe_cal c_all_states (hr.mono (by decide)) (pa_cons (pv 0) pa_nil)) (blkOk_by (N := ["history", "vectors", "rows", "one", "process", "number", "ends", "other", "vector", "end", "state"]) (sc := defScope s_find_untracked) (by decide +kernel)) (fun _ _ _ _ _ => (pg_name (i := 10) sc_find_untracked.nd rfl (Or.inl rfl))) (fun _ _ _ _ _ => (pv 10)) (fun _ _ _ _ _ => (pe_cal c_vector_of (hr.mono (by decide)) (pa_cons (pv 0) (pa_cons (pv 10) pa_nil)))))
      (pss_frz (pss_cons (ps_set (i := 2) sc_find_untracked.nd rfl (Or.inl rfl) (pe_cal c_message_intervals (hr.mono (by decide)) (pa_cons (pv 0) pa_nil)))
      (pss_cons (ps_for PassesOwn.never rfl (pi_keys (pv 1)) (pg_name (i := 3) sc_find_untracked.nd rfl (Or.inl rfl)) (pss_cons (ps_asg (pv 3) (pg_tup rfl (pgs_cons (pg_name (i := 4) sc_find_untracked.nd rfl (Or.inl rfl)) (pgs_cons (pg_name (i := 5) sc_find_untracked.nd rfl (Or.inl rfl)) pgs_nil))))
      (pss_cons (ps_set (i := 6) sc_find_untracked.nd rfl (Or.inl rfl) (pe_cal c_zigzag_ends (hr.mono (by decide)) (pa_cons (pv 2) (pa_cons (pe_callB call_len_seq (by rfl) T.len PySem.boot_len (pa_cons (pv 0) pa_nil)) (pa_cons (pv 3) pa_nil)))))
      (pss_one (ps_for PassesOwn.never rfl (pi_itemsT (pv 1)) (pg_tup rfl (pgs_cons (pg_name (i := 7) sc_find_untracked.nd rfl (Or.inl rfl)) (pgs_cons (pg_name (i := 8) sc_find_untracked.nd rfl (Or.inl rfl)) pgs_nil))) (pss_cons (ps_set (i := 9) sc_find_untracked.nd rfl (Or.inl rfl) (pe_ix ix_list (pv 6) (pe_ix ix_tup (pv 7) pe_int (fun _ _ => rfl)) (fun _ _ => rfl)))
      (pss_one (ps_if (PW.pt (pw_and (pt_cmpR op_notN (pv 9) pe_non (nomark _)) (pw_and (pt_cmpR op_ge (pe_ix ix_tup (pv 7) pe_int (fun _ _ => rfl)) (pv 9) (nomark _)) (pw_and1 (pt_cmpR op_ge (pv 5) (pe_ix ix_tup (pv 8) (pv 4) (fun _ _ => rfl)) (nomark _)))))) (pss_one (ps_ret (pe_tup (pa_cons (pv 3) (pa_cons (pv 7) pa_nil))))) pss_nil))))))))
      (pss_one (ps_ret pe_non)))))), ?_⟩
    obtain ⟨vs, ha, pr⟩ := id hh
    have hn := plen pr
    -- vectors = {state: vector_of(history, state) for state in all_states(history)}
    refine ⟨_, rfl, a, R, rfl, hh, sz, fun H1 L ws Lx s1 nL hL pw mem lL => ?_⟩
    refine ⟨L, ws, rfl, sqL hL, fun D nD => ⟨fun i H' => Same H1 H' ∧ ∃ kvs, H' D = some (.dT kvs) ∧ kvs.length ≤ i ∧ i ≤ ws.length ∧ (∀ kv ∈ kvs, VE R H' kv) ∧ ∀ j p n, j < i → Lx[j]? = some (p, n) → (valV kvs (sk p n)).isSome = true,
      ⟨sm_new nD, [], upd_same, Nat.le_refl _, Nat.zero_le _, fun kv hkv => (by simp at hkv), fun j p n hj => (by omega)⟩, fun j H' z => sqL (z.1 _ _ hL), ?_, ?_⟩⟩
    · rintro j x H2 hx ⟨s2, kvs, hD, lk, lj, ve, cmp⟩
      obtain ⟨⟨p, n⟩, hm, t, rfl, ht⟩ := pgetL pw hx
      have hst : IsState R p n := (mem p n).mp (List.mem_of_getElem? hm)
      have s12 := s1.trans s2
      refine ⟨rfl, _, rfl, _, rfl, _, rfl, a, R, .ref t, p, n, rfl, hh.im (im s12), g, sz, ⟨t, rfl, s2 _ _ ht⟩, hst.1, fun H3 t3 vf s3 nt3 ht3 past => ?_⟩
      have hD3 := s3 _ _ hD
      have lj' := lt_of hx
      have lws := plen pw
      refine ⟨kvs, sk p n, t, rfl, s3 _ _ (s2 _ _ ht), hD3, small1000 (by omega), sm_own (s2.trans s3) nD, _, upd_same, Nat.le_trans (length_putK ..) (by omega), by omega, fun kv hkv => ?_, fun j' p' n' hj' hm' => ?_⟩
      · rcases mem_putK hkv with rfl | hkv
        · exact ⟨p, n, vf, t3, rfl, hst, rfl, (im_dT hD3).t ht3, past⟩
        · exact (ve kv hkv).im ((im s3).trans (im_dT hD3))
      · by_cases c : j' < j
        · exact some_putK (cmp j' p' n' c hm')
        · have : j' = j := by omega
          subst this
          rw [hm] at hm'
          cases hm'
          exact some_put
    rintro H2 ⟨s2, kvs, hD, lk, lj, ve, cmp⟩
    have cmp' : ∀ p n, IsState R p n → ∃ i v, kvs[i]? = some (sk p n, v) := fun p n hs => by
      obtain ⟨j, hj⟩ := List.mem_iff_getElem?.mp ((mem p n).mpr hs)
      obtain ⟨v, hv⟩ := Option.isSome_iff_exists.mp (cmp j p n (by have := lt_of hj; have := plen pw; omega) hj)
      obtain ⟨i, hi⟩ := List.mem_iff_getElem?.mp (valV_mem hv)
      exact ⟨i, v, hi⟩
    -- vectors is changed no more
    refine ⟨D, _, hD, trivial, fun od => ?_⟩
    have s13 : Same H (upd H2 D (.frz od (.dT kvs))) := sm_own (s1.trans s2) (s1.free nD)
    have i3 : ISame H2 (upd H2 D (.frz od (.dT kvs))) := im_dT hD
    have ve3 : ∀ kv ∈ kvs, VE R (upd H2 D (.frz od (.dT kvs))) kv := fun kv hkv => (ve kv hkv).im i3
    -- rows = message_intervals(history)
    refine ⟨_, rfl, a, R, rfl, hh.im (im s13), g, sz, fun H4 M us Ls s4 nM hM pm memM lM => ?_⟩
    have s14 := s13.trans s4
    have hD4 := s4 _ _ (upd_same : (upd H2 D (.frz od (.dT kvs))) D = some (.frz od (.dT kvs)))
    have ve4 : ∀ kv ∈ kvs, VE R H4 kv := fun kv hkv => (ve3 kv hkv).im (im s4)
    refine ⟨_, rfl, D, od, rfl, .inr ⟨kvs, hD4, for_it (walk_keysT (kvs := kvs)) (fun i σ H' => Same H4 H' ∧ (∃ y3 y4 y5 y6 y7 y8 y9, σ = [some (.ref a), some (.ref D), some (.ref M), y3, y4, y5, y6, y7, y8, y9, none]) ∧ ∀ i' v p n, i' < i → kvs[i']? = some (sk p n, v) → ∀ (j : Nat) (kv : List Key × V), kvs[j]? = some kv → Chk R p n kv.1)
      ⟨Same.refl _, ⟨none, none, none, none, none, none, none, rfl⟩, fun i' v p n hi => (by omega)⟩ (fun i σ H' _ z => z.1 _ _ hD4) ?_ ?_⟩⟩
    · rintro i x σ H5 H6 hi ⟨s5, ⟨y3, y4, y5, y6, y7, y8, y9, rfl⟩, done⟩ ⟨rfl, k1, v1, q, hk, rfl, hq⟩
      obtain ⟨p, n, vf, t1, rfl, hst, rfl, ht1, past⟩ := ve4 _ (List.mem_of_getElem? hk)
      have s15 := s14.trans s5
      -- process, number = one; ends = zigzag_ends(rows, len(history), one)
      refine ⟨_, rfl, q, _, rfl, sqT hq, rfl, _, _, rfl, _, _, rfl, rfl, ?_⟩
      refine ⟨_, rfl, .ref a, rfl, a, vs, rfl, .inr (sqT (s15 _ _ ha)), _, rfl, M, us, Ls, R, .ref q, p, n, ?_, s5 _ _ hM, pimp pm fun _ _ y => TupI.im y (im s5), memM, sz, ⟨q, rfl, hq⟩, hst.1, fun H7 F E s7 nF hF lE ends => ?_⟩
      · show [V.ref M, V.int (vs.length : Nat), V.ref q] = _
        rw [hn]
      have s17 := s15.trans s7
      have s57 := s5.trans s7
      refine ⟨_, rfl, D, od, kvs, rfl, s57 _ _ hD4, for_it (walk_itemsT (kvs := kvs)) (fun j σ H' => Same H7 H' ∧ (∃ y7 y8 y9, σ = [some (.ref a), some (.ref D), some (.ref M), some (.ref q), some (.int (p : Int)), some (.int (n : Int)), some (.ref F), y7, y8, y9, none]) ∧ ∀ (j' : Nat) (kv : List Key × V), j' < j → kvs[j']? = some kv → Chk R p n kv.1)
        ⟨Same.refl _, ⟨_, _, _, rfl⟩, fun j' kv hj => (by omega)⟩ (fun j σ H' _ z => z.1 _ _ (s57 _ _ hD4)) ?_ ?_⟩
      · rintro j x σ H8 H9 hj ⟨s8, ⟨y7, y8, y9, rfl⟩, chk⟩ ⟨t0, o1, k2, v2, hk2, rfl, nt0, ho1, rfl⟩
        obtain ⟨qq, m, vf2, t2, rfl, hst2, rfl, ht2, past2⟩ := ve4 _ (List.mem_of_getElem? hk2)
        have s9 : Same H8 (upd H8 t0 (.tup [.ref o1, .ref t2])) := sm_new nt0
        have s79 := s8.trans s9
        have s19 := s17.trans s79
        obtain ⟨o, ho⟩ : ∃ o, E[qq]? = some o := ⟨_, List.getElem?_eq_getElem (by rw [lE]; exact hst2.1)⟩
        -- what is known of the next turn
        have next : Chk R p n (sk qq m) → ∀ (j' : Nat) (kv : List Key × V), j' < j + 1 → kvs[j']? = some kv → Chk R p n kv.1 := fun y j' kv hj' hkv => by
          by_cases c : j' < j
          · exact chk j' kv c hkv
          · have : j' = j := by omega
            subst this
            rw [hk2] at hkv
            cases hkv
            exact y
        have ho1' := s9 _ _ ho1
        refine ⟨t0, _, rfl, sqT upd_same, rfl, _, _, rfl, _, _, rfl, rfl, ?_⟩
        refine ⟨_, rfl, _, rfl, o1, _, 0, _, rfl, rfl, sqT ho1', at0, F, _, qq, _, rfl, rfl, sqL (s79 _ _ hF), ov_at ho, ?_⟩
        refine ⟨_, rfl, rfl, _, rfl, ?_⟩
        -- a zigzag's end
        have zz : ∀ b, Zg R p n qq b → ∃ e, o = some e ∧ e ≤ b + 1 := fun b hz => by
          obtain ⟨e, he, hb⟩ := ends qq b hz
          exact ⟨e, Option.some.inj (ho.symm.trans he), hb⟩
        cases o with
        | none =>
          refine iteNS rfl ?_
          refine ⟨s79, ⟨_, _, _, rfl⟩, next fun q' m' vf' hq' _ b hz _ => ?_⟩
          obtain ⟨rfl, rfl⟩ := sk_inj hq'
          obtain ⟨e, he, _⟩ := zz b hz
          cases he
        | some e =>
          refine ⟨_, rfl, o1, _, 1, _, rfl, rfl, sqT ho1', at1, _, rfl, _, _, rfl, rfl, _, rfl, ite2 (fun c => ?_) (fun c => ?_)⟩
          · have c1 : (e : Int) ≤ (m : Int) := of_decide_eq_true c
            have ht2' : (upd H8 t0 (.tup [.ref o1, .ref t2])) t2 = some (.tup (nats (vec R vf2 qq m))) := s9 _ _ (s8 _ _ (s57 _ _ ht2))
            refine ⟨_, rfl, _, rfl, _, rfl, t2, _, p, _, rfl, rfl, sqT ht2', at_nats (vec_at hst.1), _, _, rfl, rfl, _, rfl, ite2 (fun d => ?_) (fun d => ?_)⟩
            · exact ⟨_, rfl, _, rfl, (by show 2 ≤ sizeLine; decide), fun t nt => q1 _ t (sm_fresh s19 nt)⟩
            · have d1 : ¬ (((vec R vf2 qq m).getD p 0 : Nat) : Int) ≤ (n : Int) := fun y => d (decide_eq_true y)
              refine ⟨s79, ⟨_, _, _, rfl⟩, next fun q' m' vf' hq' hp' b hz _ => ?_⟩
              obtain ⟨rfl, rfl⟩ := sk_inj hq'
              rw [← past2.one hp']
              omega
          · have c1 : ¬ (e : Int) ≤ (m : Int) := fun y => c (decide_eq_true y)
            refine ⟨s79, ⟨_, _, _, rfl⟩, next fun q' m' vf' hq' hp' b hz hb => ?_⟩
            obtain ⟨rfl, rfl⟩ := sk_inj hq'
            obtain ⟨e', he', hle⟩ := zz b hz
            cases he'
            omega
      · rintro σ H8 ⟨s8, ⟨y7, y8, y9, rfl⟩, chk⟩
        refine ⟨s57.trans s8, ⟨_, _, _, _, _, _, _, rfl⟩, fun i' v p' n' hi' hk' j kv hj => ?_⟩
        by_cases c : i' < i
        · exact done i' v p' n' c hk' j kv hj
        · have : i' = i := by omega
          subst this
          rw [hk] at hk'
          have e := congrArg Prod.fst (Option.some.inj hk')
          obtain ⟨rfl, rfl⟩ := sk_inj e
          exact chk j kv (lt_of hj) hj
    · rintro σ H5 ⟨s5, ⟨y3, y4, y5, y6, y7, y8, y9, rfl⟩, done⟩
      refine q0 _ (s14.trans s5) fun p n q k b v h1 h2 hz hb hv => ?_
      obtain ⟨i, u, hi⟩ := cmp' p n h1
      obtain ⟨j, u2, hj⟩ := cmp' q k h2
      exact done i u p n (lt_of hi) hi j _ hj q k v rfl hv b hz hb
abbrev s_is_tracked : Stmt := topS 33
theorem sc_is_tracked : FnScope ["history"] ["history"] (defScope s_is_tracked) := ⟨rfl, rfl, rfl, by decide +kernel, rfl, by decide +kernel, by decide +kernel⟩
def spTracked : Sp := fun vs H Q _ => ∃ a R, vs = [.ref a] ∧ HistAt H a R ∧ Good R ∧ Sz R ∧ ∀ H' b, Same H H' → (b = true → Tracked R) → Q (.bl b) H'
theorem c_is_tracked (T : Txt mg) (D : Dn K mg "is_tracked" s_is_tracked ["history"]) (c_find_untracked : Cal P w K mg base 6 "find_untracked" ["history"] spUntr) : Cal P w K mg base 7 "is_tracked" ["history"] spTracked := by
  refine D.cal sc_is_tracked (fun vs H Q E h => ?_) (fun f cdv A outer s H vs Q E hr h => ?_)
  · obtain ⟨a, R, rfl, _⟩ := h
    rfl
  · obtain ⟨a, R, rfl, hh, g, sz, q⟩ := h
    refine ⟨_, (pss_one (ps_ret (pe_cmpR op_isN (pe_cal c_find_untracked (hr.mono (by decide)) (pa_cons (pv 0) pa_nil)) pe_non (nomark _)))), ?_⟩
    exact ⟨_, rfl, a, R, rfl, hh, g, sz, fun H1 s1 ht => ⟨rfl, q H1 _ s1 fun _ => ht⟩, fun H1 t s1 => ⟨rfl, q H1 _ s1 fun z => by
      have := of_decide_eq_true z
      cases this⟩⟩
end
end K57

/-! ## KD11 -/
namespace K57
open PySem PySem.Spec PyProof.Rows L2
section
variable {P : Program} {w : World} {K : PySem.W.Frag} {mg : Str → Option Value} {base : Heap}
/-! ### longer_paths -/
abbrev s_longer_paths : Stmt := topS 23
theorem sc_longer_paths : FnScope ["moves", "paths", "known", "found", "message", "sender", "begin", "receiver", "finish", "before", "best", "own"] ["moves", "paths", "known"] (defScope s_longer_paths) := ⟨rfl, rfl, rfl, by decide +kernel, rfl, by decide +kernel, by decide +kernel⟩
/-- a path: its last message's move ends where a zigzag leads to -/
def PthE (R : Rows) (p n : Nat) (km : List (Key × V)) (N : Nat) (H : Hp) (kv : Key × V) : Prop := ∃ (m : Int) (s a q b : Nat) (mv : V) (ns : List Int), kv.1 = Sum.inl m ∧ valV km (.inl m) = some mv ∧ TupI H mv [(s : Int), (a : Int), (q : Int), (b : Int)] ∧ Zg R p n q b ∧ TupI H kv.2 ns ∧ ns.length ≤ N
theorem PthE.im {R : Rows} {p n : Nat} {km : List (Key × V)} {N : Nat} {H H' : Hp} {kv : Key × V} (h : PthE R p n km N H kv) (i : ISame H H') : PthE R p n km N H' kv := let ⟨m, s, a, q, b, mv, ns, h1, h2, h3, h4, h5, h6⟩ := h; ⟨m, s, a, q, b, mv, ns, h1, h2, h3.im i, h4, h5.im i, h6⟩
def spLonger : Sp := fun vs H Q _ => ∃ (M Pt Kn : Addr) (om op : Obj) (R : Rows) (p n N : Nat) (km kp kn : List (Key × V)), vs = [.ref M, .ref Pt, .ref Kn] ∧ H M = some (.frz om (.dK km)) ∧ H Pt = some (.frz op (.dK kp)) ∧ H Kn = some (.dK kn) ∧
  (∀ kv ∈ km, MvE R H kv) ∧ km.length ≤ 60 ∧ (km.map (·.1)).Nodup ∧ (∀ kv ∈ kp, PthE R p n km N H kv) ∧ kp.length ≤ 60 ∧ N ≤ 900 ∧
  ∀ H' F kf, Same H H' → H F = none → H' F = some (.dK kf) → kf.length ≤ 60 → (∀ kv ∈ kf, PthE R p n km (N + 1) H' kv ∧ valV kn kv.1 = none ∧ ∃ v, (kv.1, v) ∈ km) → Q (.ref F) H'
theorem c_longer_paths (T : Txt mg) (D : Dn K mg "longer_paths" s_longer_paths ["moves", "paths", "known"]) : Cal P w K mg base 1 "longer_paths" ["moves", "paths", "known"] spLonger := by
  refine D.cal sc_longer_paths (fun vs H Q E h => ?_) (fun f cdv A outer s H vs Q E hr h => ?_)
  · obtain ⟨M, Pt, Kn, om, op, R, p, n, N, km, kp, kn, rfl, _⟩ := h
    rfl
  · obtain ⟨M, Pt, Kn, om, op, R, p, n, N, km, kp, kn, rfl, hM, hP, hK, mv, lm, ndm, pth, lp, hN, q⟩ := h
    have hu := hu_of hr
    have hu0 := Nat.lt_of_succ_lt hu
    refine ⟨_, (pss_cons (ps_set (i := 3) sc_longer_paths.nd rfl (Or.inl rfl) pe_dnewK)
      (pss_cons (ps_for PassesOwn.never rfl (pi_items (pv 0)) (pg_tup rfl (pgs_cons (pg_name (i := 4) sc_longer_paths.nd rfl (Or.inl rfl)) (pgs_cons (pg_tup rfl (pgs_cons (pg_name (i := 5) sc_longer_paths.nd rfl (Or.inr rfl)) (pgs_cons (pg_name (i := 6) sc_longer_paths.nd rfl (Or.inr rfl)) (pgs_cons (pg_name (i := 7) sc_longer_paths.nd rfl (Or.inl rfl)) (pgs_cons (pg_name (i := 8) sc_longer_paths.nd rfl (Or.inl rfl)) pgs_nil))))) pgs_nil))) (pss_cons (ps_setLc (i := 9) (own := [("own", 11)]) (g := (gName 11)) rfl sc_longer_paths.nd rfl rfl (sw_true rfl rfl rfl (by decide +kernel)) (pi_keys (pv 1)) (blkOk_by (N := ["moves", "paths", "known", "found", "message", "sender", "begin", "receiver", "finish", "before", "best", "own"]) (sc := defScope s_longer_paths) (by decide +kernel)) (fun _ _ _ _ _ => (pg_name (i := 11) sc_longer_paths.nd rfl (Or.inl rfl))) (fun _ _ _ _ _ => (pts_one (PW.pt (pw_and (pt_cmpR op_eq (pe_ix (ix_tupK (K := K)) (pe_dget hu (pv 0) (pv 11) (fun _ _ => rfl)) pe_int (fun _ _ => rfl)) (pv 5) (nomark _)) (pw_and1 (pt_cmpR op_le (pe_ix (ix_tupK (K := K)) (pe_dget hu (pv 0) (pv 11) (fun _ _ => rfl)) pe_int (fun _ _ => rfl)) (pv 6) (nomark _))))))) (fun _ _ _ _ _ => (pe_dget hu (pv 1) (pv 11) (fun _ _ => rfl))))
      (pss_one (ps_if (PW.pt (pw_and (pt_cmpR (op_neNil hu0) (pv 9) (pe_lst pa_nil) (nomark _)) (pw_and1 (pt_cmp (pc_dnotin hu (pv 4) (pv 2)))))) (pss_cons (ps_set (i := 10) sc_longer_paths.nd rfl (Or.inl rfl) (pe_callB (cr_minT rfl hu) (by rfl) T.min (by decide +kernel) (pa_cons (pv 9) pa_nil)))
      (pss_one (ps_dput hu (pv 3) (pv 4) (pe_tup (StX.pa_star (pv 10) (pa_cons (pv 4) pa_nil))) rfl))) pss_nil))))
      (pss_one (ps_ret (pv 3))))), ?_⟩
    intro F nF
    have s0 := sm_new (o := .dK []) nF
    refine ⟨_, rfl, M, om, km, rfl, s0 _ _ hM, ?_⟩
    refine for_it (walk_itemsP (kvs := km)) (fun i σ H' => Same H H' ∧ (∃ y4 y5 y6 y7 y8 y9 y10 y11, σ = [some (.ref M), some (.ref Pt), some (.ref Kn), some (.ref F), y4, y5, y6, y7, y8, y9, y10, y11]) ∧ ∃ kf, H' F = some (.dK kf) ∧ kf.length ≤ i ∧ ∀ kv ∈ kf, PthE R p n km (N + 1) H' kv ∧ valV kn kv.1 = none ∧ ∃ v, (kv.1, v) ∈ km)
      ⟨s0, ⟨none, none, none, none, none, none, none, none, rfl⟩, [], upd_same, Nat.le_refl _, fun kv hkv => (by simp at hkv)⟩ (fun i σ H' _ z => z.1 _ _ hM) ?_ ?_
    · rintro i x σ H2 H3 hi ⟨s2, ⟨y4, y5, y6, y7, y8, y9, y10, y11, rfl⟩, kf, hF, lf, pf⟩ ⟨t0, kk, vv, rfl, nt0, rfl, hkv⟩
      obtain ⟨m, sp, sa, rq, rb, k1, ⟨t, k2, ht⟩, hmv⟩ := mv _ (List.mem_of_getElem? hkv)
      cases (k1 : kk = Sum.inl m)
      cases (k2 : vv = .ref t)
      have s3 : Same H (upd H2 t0 (.tup [kV (Sum.inl m), .ref t])) := sm_fresh s2 nt0
      refine ⟨t0, _, rfl, sqT upd_same, rfl, _, _, rfl, _, _, rfl, t, _, rfl, sqT (s3 _ _ ht), rfl, _, _, rfl, _, _, rfl, _, _, rfl, _, _, rfl, rfl, rfl, ?_⟩
      have hF3 := keep_new (o := .tup [kV (Sum.inl m), .ref t]) hF nt0
      have pf3 : ∀ kv ∈ kf, PthE R p n km (N + 1) (upd H2 t0 (.tup [kV (Sum.inl m), .ref t])) kv ∧ valV kn kv.1 = none ∧ ∃ v, (kv.1, v) ∈ km := fun kv hk => ⟨(pf kv hk).1.im (im_new nt0), (pf kv hk).2⟩
      generalize upd H2 t0 (.tup [kV (Sum.inl m), .ref t]) = H3 at s3 hF3 pf3 ⊢
      -- before = [.. for own in paths if ..]
      refine ⟨_, rfl, Pt, op, rfl, .inl ⟨kp, s3 _ _ hP, fun L nL => any_it (walk_keys (kvs := kp)) (fun j H' => ∃ acc, Acc H3 L H' acc ∧ acc.length ≤ j ∧ (∀ x ∈ acc, ∃ ns, TupI H x ns ∧ ns.length ≤ N) ∧ (acc ≠ [] → ∃ b, Zg R p n sp b ∧ b ≤ sa)) ⟨[], Acc.start nL, Nat.le_refl _, fun x hx => (by simp at hx), fun z => absurd rfl z⟩ (fun j H' _ z => let ⟨_, z, _⟩ := z; z.1 _ _ (s3 _ _ hP)) ?_ ?_⟩⟩
      · rintro j x H4 H5 hj ⟨acc, z, la, ac, zg⟩ ⟨rfl, k3, v3, hk3, rfl⟩
        obtain ⟨m2, s2', a2, q2, b2, mv2, ns2, e1, e2, ⟨tm, rfl, htm⟩, hz, _, _⟩ := pth _ (List.mem_of_getElem? hk3)
        cases (e1 : k3 = Sum.inl m2)
        have s34 := s3.trans z.1
        have hM4 := s34 _ _ hM
        have hP4 := s34 _ _ hP
        have htm4 := s34 _ _ htm
        refine ⟨rfl, _, rfl, _, rfl, M, _, rfl, by rw [← e2]; exact DGet.f (k := Sum.inl m2) hM4, tm, _, 2, _, rfl, rfl, sqT htm4, at2, _, rfl, rfl, _, rfl, ite2 (fun c => ?_) (fun c => ?_)⟩
        · have c1 : (q2 : Int) = (sp : Int) := V.int.inj (of_decide_eq_true c)
          have c2 : q2 = sp := by omega
          subst c2
          refine ⟨_, rfl, _, rfl, M, _, rfl, by rw [← e2]; exact DGet.f (k := Sum.inl m2) hM4, tm, _, 3, _, rfl, rfl, sqT htm4, at3, _, rfl, _, _, rfl, rfl, _, rfl, ite2 (fun d => ?_) (fun d => ?_)⟩
          · have d1 : (b2 : Int) ≤ (sa : Int) := of_decide_eq_true d
            have hin : (valV kp (Sum.inl m2 : Key)).isSome = true := by
              cases hv : valV kp (Sum.inl m2 : Key) with
              | some v => rfl
              | none => exact absurd (List.mem_map.mpr ⟨_, List.mem_of_getElem? hk3, rfl⟩) (valV_not hv)
            obtain ⟨v4, hv4⟩ := Option.isSome_iff_exists.mp hin
            obtain ⟨_, _, _, _, _, _, ns4, _, _, _, _, ht4, ln4⟩ := pth _ (valV_mem hv4)
            refine ⟨_, rfl, _, rfl, Pt, v4, rfl, by rw [← hv4]; exact DGet.f (k := Sum.inl m2) hP4, acc, z.2, small1000 (by omega), _, z.more nL _, by rw [List.length_append, List.length_singleton]; omega, fun x hx => ?_, fun _ => ⟨b2, hz, by omega⟩⟩
            rcases List.mem_append.mp hx with hx | hx
            · exact ac x hx
            · rw [List.mem_singleton] at hx
              subst hx
              exact ⟨ns4, ht4, ln4⟩
          · exact ⟨acc, z, by omega, ac, zg⟩
        · exact ⟨acc, z, by omega, ac, zg⟩
      rintro H4 ⟨acc, z, la, ac, zg⟩
      have s14 := s3.trans z.1
      have hF4 := z.1 _ _ hF3
      have pf4 : ∀ kv ∈ kf, PthE R p n km (N + 1) H4 kv ∧ valV kn kv.1 = none ∧ ∃ v, (kv.1, v) ∈ km := fun kv hk => ⟨(pf3 kv hk).1.im (im z.1), (pf3 kv hk).2⟩
      -- if before != [] and message not in known
      refine ⟨_, rfl, Nat.zero_le _, fun e ne => ?_⟩
      have s5 := sm_fresh (o := .lst []) s14 ne
      have hL5 := keep_new (o := .lst []) z.2 ne
      have hF5 := keep_new (o := .lst []) hF4 ne
      have pf5 : ∀ kv ∈ kf, PthE R p n km (N + 1) (upd H4 e (.lst [])) kv ∧ valV kn kv.1 = none ∧ ∃ v, (kv.1, v) ∈ km := fun kv hk => ⟨(pf4 kv hk).1.im (im_new ne), (pf4 kv hk).2⟩
      refine ⟨L, e, acc, rfl, rfl, sqL hL5, sqL upd_same, _, rfl, ?_⟩
      cases acc with
      | nil => exact ⟨s5, ⟨_, _, _, _, _, _, _, _, rfl⟩, kf, hF5, by omega, pf5⟩
      | cons x0 xr =>
        refine ⟨_, rfl, _, rfl, Kn, _, rfl, DGet.k (k := Sum.inl m) (s5 _ _ hK), _, rfl, ?_⟩
        cases hv : valV kn (Sum.inl m : Key) with
        | some v => exact ⟨s5, ⟨_, _, _, _, _, _, _, _, rfl⟩, kf, hF5, by omega, pf5⟩
        | none =>
          refine ⟨_, rfl, L, _, rfl, sqL hL5, List.cons_ne_nil _ _, fun x hx => ?_, fun x hx => ?_⟩
          · obtain ⟨ns, ⟨tx, rfl, htx⟩, _⟩ := ac x hx
            exact ⟨tx, ns, rfl, sqT (s5 _ _ htx)⟩
          · obtain ⟨ns, ⟨tx, rfl, htx⟩, lns⟩ := ac x hx
            obtain ⟨b, hz, hb⟩ := zg (List.cons_ne_nil _ _)
            refine ⟨_, rfl, tx, _, rfl, .inl (sqT (s5 _ _ htx)), _, rfl, small63 (by simp; omega), fun t5 nt5 => ?_⟩
            have e5 : ns.map V.int ++ [V.int m] = (ns ++ [m]).map V.int := by rw [List.map_append]; rfl
            have hF6 := keep_new (o := .tup (ns.map V.int ++ [V.int m])) hF5 nt5
            refine ⟨_, rfl, _, rfl, F, _, rfl, DPut.k (k := Sum.inl m) hF6 (small1000 (by omega)), ?_⟩
            have i6 := (im_new (o := .tup (ns.map V.int ++ [V.int m])) nt5).trans (im_dK (o := .dK (putK kf (Sum.inl m) (.ref t5))) hF6)
            refine ⟨sm_own (sm_fresh s5 nt5) nF, ⟨_, _, _, _, _, _, _, _, rfl⟩, _, upd_same, Nat.le_trans (length_putK ..) (by omega), fun kv hk => ?_⟩
            rcases mem_putK hk with rfl | hk
            · have hmm := List.mem_of_getElem? hkv
              refine ⟨⟨m, sp, sa, rq, rb, .ref t, ns ++ [m], rfl, val_nodup ndm _ hmm, ⟨t, rfl, i6.t (s5 _ _ ht)⟩, .more hz hmv hb, ⟨t5, rfl, (im_dK hF6).t ?_⟩, by rw [List.length_append, List.length_singleton]; omega⟩, hv, _, hmm⟩
              rw [upd_same, e5]
            · exact ⟨(pf5 kv hk).1.im i6, (pf5 kv hk).2⟩
    · rintro σ H2 ⟨s2, ⟨y4, y5, y6, y7, y8, y9, y10, y11, rfl⟩, kf, hF, lf, pf⟩
      exact ⟨_, rfl, q _ F kf s2 nF hF (by omega) pf⟩
end
end K57

/-! ## KD12 -/
namespace K57
open PySem PySem.Spec PyProof.Rows L2
section
variable {P : Program} {w : World} {K : PySem.W.Frag} {mg : Str → Option Value} {base : Heap}
/-! ### find_zigzag -/
abbrev s_find_zigzag : Stmt := topS 24
theorem sc_find_zigzag : FnScope ["history", "one", "other", "moves", "paths", "known", "ended", "message", "own"] ["history", "one", "other"] (defScope s_find_zigzag) := ⟨rfl, rfl, rfl, by decide +kernel, rfl, by decide +kernel, by decide +kernel⟩
/-- the messages that are not known yet -/
def cnt (km kn : List (Key × V)) : Nat := (km.filter fun kv => (valV kn kv.1).isNone).length
def spZig : Sp := fun vs H Q _ => ∃ (a : Addr) (R : Rows) (u v : V) (p n q k : Nat), vs = [.ref a, u, v] ∧ HistAt H a R ∧ Good R ∧ Sz R ∧ StI H u (p, n) ∧ StI H v (q, k) ∧ (∀ H', Same H H' → Q .non H') ∧ ∀ H' t, Same H H' → (∃ b, Zg R p n q b ∧ b < k) → Q (.ref t) H'
theorem c_find_zigzag (T : Txt mg) (D : Dn K mg "find_zigzag" s_find_zigzag ["history", "one", "other"]) (c_moves_of : Cal P w K mg base 3 "moves_of" ["history"] spMoves) (c_longer_paths : Cal P w K mg base 1 "longer_paths" ["moves", "paths", "known"] spLonger) : Cal P w K mg base 4 "find_zigzag" ["history", "one", "other"] spZig := by
  refine D.cal sc_find_zigzag (fun vs H Q E h => ?_) (fun f cdv A outer s H vs Q E hr h => ?_)
  · obtain ⟨a, R, u, v, p, n, q, k, rfl, _⟩ := h
    rfl
  · obtain ⟨a, R, u, v, p, n, qq, k, rfl, hh, g, sz, ⟨tu, rfl, htu⟩, ⟨tv, rfl, htv⟩, q0, q1⟩ := h
    have hu := hu_of hr
    have hu0 := Nat.lt_of_succ_lt hu
    refine ⟨_, (pss_cons (ps_set (i := 3) sc_find_zigzag.nd rfl (Or.inr rfl) (pe_cal c_moves_of (hr.mono (by decide)) (pa_cons (pv 0) pa_nil)))
      (pss_frz (pss_cons (ps_set (i := 4) sc_find_zigzag.nd rfl (Or.inr rfl) (pe_dc (own := [("message", 7)]) (g := (gName 7)) rfl sc_find_zigzag.nd (pi_keys (pv 3)) (blkOk_by (N := ["history", "one", "other", "moves", "paths", "known", "ended", "message", "own"]) (sc := defScope s_find_zigzag) (by decide +kernel)) (fun _ _ _ _ _ => (pg_name (i := 7) sc_find_zigzag.nd rfl (Or.inl rfl))) (fun _ _ _ _ _ => (pts_one (PW.pt (pw_and (pt_cmpR op_eq (pe_ix (ix_tupK (K := K)) (pe_dget hu (pv 3) (pv 7) (fun _ _ => rfl)) pe_int (fun _ _ => rfl)) (pe_ix (ix_tupK (K := K)) (pv 1) pe_int (fun _ _ => rfl)) (nomark _)) (pw_and1 (pt_cmpR op_ge (pe_ix (ix_tupK (K := K)) (pe_dget hu (pv 3) (pv 7) (fun _ _ => rfl)) pe_int (fun _ _ => rfl)) (pe_ix (ix_tupK (K := K)) (pv 1) pe_int (fun _ _ => rfl)) (nomark _))))))) (fun _ _ _ _ _ => (pv 7)) (fun _ _ _ _ _ => (pe_tup (pa_cons (pv 7) pa_nil)))))
      (pss_frz (pss_cons (ps_set (i := 5) sc_find_zigzag.nd rfl (Or.inl rfl) (pe_callTy call_dictD (by rfl) T.dict (by decide +kernel) (pa_cons (pv 4) pa_nil)))
      (pss_cons (ps_while PassesOwn.never (pt_cmpR (op_neNilD hu0) (pv 4) pe_dnewK (nomark _)) (pss_cons (ps_setLc (i := 6) (own := [("own", 8)]) (g := (gName 8)) rfl sc_find_zigzag.nd rfl rfl (sw_true rfl rfl rfl (by decide +kernel)) (pi_keys (pv 4)) (blkOk_by (N := ["history", "one", "other", "moves", "paths", "known", "ended", "message", "own"]) (sc := defScope s_find_zigzag) (by decide +kernel)) (fun _ _ _ _ _ => (pg_name (i := 8) sc_find_zigzag.nd rfl (Or.inl rfl))) (fun _ _ _ _ _ => (pts_one (PW.pt (pw_and (pt_cmpR op_eq (pe_ix (ix_tupK (K := K)) (pe_dget hu (pv 3) (pv 8) (fun _ _ => rfl)) pe_int (fun _ _ => rfl)) (pe_ix (ix_tupK (K := K)) (pv 2) pe_int (fun _ _ => rfl)) (nomark _)) (pw_and1 (pt_cmpR op_lt (pe_ix (ix_tupK (K := K)) (pe_dget hu (pv 3) (pv 8) (fun _ _ => rfl)) pe_int (fun _ _ => rfl)) (pe_ix (ix_tupK (K := K)) (pv 2) pe_int (fun _ _ => rfl)) (nomark _))))))) (fun _ _ _ _ _ => (pe_dget hu (pv 4) (pv 8) (fun _ _ => rfl))))
      (pss_cons (ps_if (pt_cmpR (op_neNil hu0) (pv 6) (pe_lst pa_nil) (nomark _)) (pss_one (ps_ret (pe_callB (cr_minT rfl hu) (by rfl) T.min (by decide +kernel) (pa_cons (pv 6) pa_nil)))) pss_nil)
      (pss_cons (ps_set (i := 4) sc_find_zigzag.nd rfl (Or.inr rfl) (pe_cal c_longer_paths (hr.mono (by decide)) (pa_cons (pv 3) (pa_cons (pv 4) (pa_cons (pv 5) pa_nil)))))
      (pss_frz (pss_one (ps_expr (pe_bm PySem.F.plainAttrs_dict PySem.F.slot_dict_update PySem.F.type_dict_update mt_update (pv 5) (pa_cons (pv 4) pa_nil)))))))))
      (pss_one (ps_ret pe_non)))))))), ?_⟩
    -- moves = moves_of(history)
    refine ⟨_, rfl, a, R, rfl, hh, g, sz, fun H1 M km s1 nM hM mv lm ndm => ?_⟩
    refine ⟨M, _, hM, trivial, fun om => ?_⟩
    have s2 : Same H (upd H1 M (.frz om (.dK km))) := sm_own s1 nM
    have mv2 : ∀ kv ∈ km, MvE R (upd H1 M (.frz om (.dK km))) kv := fun kv hk => (mv kv hk).im (im_dK hM)
    have hM2 : (upd H1 M (.frz om (.dK km))) M = some (.frz om (.dK km)) := upd_same
    generalize upd H1 M (.frz om (.dK km)) = H2 at s2 mv2 hM2 ⊢
    -- paths = {message: (message,) ..}
    refine ⟨_, rfl, M, om, rfl, .inl ⟨km, hM2, fun Pd nPd => any_it (walk_keys (kvs := km)) (fun j H' => Same H2 H' ∧ ∃ kp, H' Pd = some (.dK kp) ∧ kp.length ≤ j ∧ ∀ kv ∈ kp, PthE R p n km 1 H' kv) ⟨sm_new nPd, [], upd_same, Nat.le_refl _, fun kv hk => (by simp at hk)⟩ (fun j H' _ z => z.1 _ _ hM2) ?_ ?_⟩⟩
    · rintro j x H4 H5 hj ⟨s4, kp, hP, lp, pp⟩ ⟨rfl, k3, v3, hk3, rfl⟩
      have hmm := List.mem_of_getElem? hk3
      obtain ⟨m, sp, sa, rq, rb, e1, ⟨tm, e2, htm⟩, hmv⟩ := mv2 _ hmm
      cases (e1 : k3 = Sum.inl m)
      cases (e2 : v3 = .ref tm)
      have hval := val_nodup ndm _ hmm
      have hM4 := s4 _ _ hM2
      have htm4 := s4 _ _ htm
      have htu4 := s4 _ _ (s2 _ _ htu)
      refine ⟨rfl, _, rfl, _, rfl, M, _, rfl, by rw [← hval]; exact DGet.f (k := Sum.inl m) hM4, tm, _, 0, _, rfl, rfl, sqT htm4, at0, _, rfl, tu, _, 0, _, rfl, rfl, sqT htu4, at0, rfl, _, rfl, ite2 (fun c => ?_) (fun c => ?_)⟩
      · have c1 : (sp : Int) = (p : Int) := V.int.inj (of_decide_eq_true c)
        have c2 : sp = p := by omega
        subst c2
        refine ⟨_, rfl, _, rfl, M, _, rfl, by rw [← hval]; exact DGet.f (k := Sum.inl m) hM4, tm, _, 1, _, rfl, rfl, sqT htm4, at1, _, rfl, tu, _, 1, _, rfl, rfl, sqT htu4, at1, _, _, rfl, rfl, _, rfl, ite2 (fun d => ?_) (fun d => ?_)⟩
        · have d1 : (n : Int) ≤ (sa : Int) := of_decide_eq_true d
          refine ⟨_, rfl, _, rfl, (by show 1 ≤ sizeLine; decide), fun t5 nt5 => ?_⟩
          have hP5 := keep_new (o := .tup [V.int m]) hP nt5
          have i5 := (im_new (o := .tup [V.int m]) nt5).trans (im_dK (o := .dK (putK kp (Sum.inl m) (.ref t5))) hP5)
          refine ⟨kp, Sum.inl m, rfl, hP5, small1000 (by omega), sm_own (sm_fresh s4 nt5) nPd, _, upd_same, Nat.le_trans (length_putK ..) (by omega), fun kv hk => ?_⟩
          rcases mem_putK hk with rfl | hk
          · exact ⟨m, sp, sa, rq, rb, .ref tm, [m], rfl, hval, ⟨tm, rfl, i5.t htm4⟩, .one hmv (by omega), ⟨t5, rfl, (im_dK hP5).t upd_same⟩, Nat.le_refl _⟩
          · exact (pp kv hk).im i5
        · exact ⟨s4, kp, hP, by omega, pp⟩
      · exact ⟨s4, kp, hP, by omega, pp⟩
    rintro H3 ⟨s3, kp, hP, lp, pp⟩
    refine ⟨Pd, _, hP, trivial, fun op => ?_⟩
    have nP0 := s2.free nPd
    have s13 : Same H (upd H3 Pd (.frz op (.dK kp))) := sm_own (s2.trans s3) nP0
    have s23 : Same H2 (upd H3 Pd (.frz op (.dK kp))) := sm_own s3 nPd
    have pp3 : ∀ kv ∈ kp, PthE R p n km 1 (upd H3 Pd (.frz op (.dK kp))) kv := fun kv hk => (pp kv hk).im (im_dK hP)
    -- known = dict(paths)
    refine ⟨_, rfl, Pd, kp, rfl, .inr ⟨op, upd_same⟩, fun Kn nK => ?_⟩
    have nK0 := s13.free nK
    have s4 : Same H (upd (upd H3 Pd (.frz op (.dK kp))) Kn (.dK kp)) := sm_fresh s13 nK
    have s24 : Same H2 (upd (upd H3 Pd (.frz op (.dK kp))) Kn (.dK kp)) := sm_fresh s23 nK
    have hP4 : (upd (upd H3 Pd (.frz op (.dK kp))) Kn (.dK kp)) Pd = some (.frz op (.dK kp)) := keep_new upd_same nK
    have cle : ∀ kn, cnt km kn ≤ 60 := fun kn => Nat.le_trans (List.length_filter_le ..) lm
    -- while paths != {}
    refine ⟨fun m σ H' => ∃ (Pt : Addr) (op : Obj) (kp kn : List (Key × V)) (N : Nat) (y6 y7 y8 : Option V), m = (if kp = [] then 0 else cnt km kn + 1) ∧ σ = [some (.ref a), some (.ref tu), some (.ref tv), some (.ref M), some (.ref Pt), some (.ref Kn), y6, y7, y8] ∧ Same H H' ∧ ISame H2 H' ∧
      H' Pt = some (.frz op (.dK kp)) ∧ H' Kn = some (.dK kn) ∧ (∀ kv ∈ kp, PthE R p n km N H' kv) ∧ kp.length ≤ 60 ∧ N + cnt km kn ≤ 61 ∧ kn.length + 60 * cnt km kn ≤ 3660,
      ⟨_, Pd, op, kp, kp, 1, none, none, none, rfl, rfl, s4, im s24, hP4, upd_same, fun kv hk => (pp3 kv hk).im (im_new nK), by omega, by have := cle kp; omega, by have := cle kp; omega⟩, ?_⟩
    rintro m σ H5 ⟨Pt, opt, kpt, kn, N, y6, y7, y8, rfl, rfl, s5, i5, hPt, hKn, pt, lpt, bN, bK⟩
    refine ⟨_, rfl, fun e ne => ?_⟩
    have s6 := sm_fresh (o := .dK []) s5 ne
    have hPt6 := keep_new (o := .dK []) hPt ne
    have hKn6 := keep_new (o := .dK []) hKn ne
    have i6 : ISame H2 (upd H5 e (.dK [])) := i5.trans (im_new ne)
    refine ⟨Pt, e, kpt, rfl, rfl, .inr ⟨opt, hPt6⟩, upd_same, _, rfl, ?_⟩
    cases kpt with
    | nil => exact q0 _ s6
    | cons x0 xr =>
      have hne : (x0 :: xr) ≠ [] := List.cons_ne_nil _ _
      have pt6 : ∀ kv ∈ (x0 :: xr), PthE R p n km N (upd H5 e (.dK [])) kv := fun kv hk => (pt kv hk).im (im_new ne)
      generalize upd H5 e (.dK []) = H6 at s6 hPt6 hKn6 i6 pt6 ⊢
      refine ⟨fun σ' H' => ∃ (Pt : Addr) (op : Obj) (kp kn' : List (Key × V)) (N : Nat) (y6 y7 y8 : Option V), (if kp = [] then 0 else cnt km kn' + 1) < cnt km kn + 1 ∧ σ' = [some (.ref a), some (.ref tu), some (.ref tv), some (.ref M), some (.ref Pt), some (.ref Kn), y6, y7, y8] ∧ Same H H' ∧ ISame H2 H' ∧
        H' Pt = some (.frz op (.dK kp)) ∧ H' Kn = some (.dK kn') ∧ (∀ kv ∈ kp, PthE R p n km N H' kv) ∧ kp.length ≤ 60 ∧ N + cnt km kn' ≤ 61 ∧ kn'.length + 60 * cnt km kn' ≤ 3660,
        fun σ' H' ⟨Pt, op, kp, kn', N, y6, y7, y8, hm, r⟩ => ⟨_, by rw [if_neg hne]; exact hm, Pt, op, kp, kn', N, y6, y7, y8, rfl, r⟩, ?_⟩
      -- ended = [..]
      refine ⟨_, rfl, Pt, opt, rfl, .inl ⟨(x0 :: xr), hPt6, fun L nL => any_it (walk_keys (kvs := (x0 :: xr))) (fun j H' => ∃ acc, Acc H6 L H' acc ∧ acc.length ≤ j ∧ (∀ x ∈ acc, ∃ ns, TupI H x ns ∨ TupI H6 x ns) ∧ (acc ≠ [] → ∃ b, Zg R p n qq b ∧ b < k)) ⟨[], Acc.start nL, Nat.le_refl _, fun x hx => (by simp at hx), fun z => absurd rfl z⟩ (fun j H' _ z => let ⟨_, z, _⟩ := z; z.1 _ _ hPt6) ?_ ?_⟩⟩
      · rintro j x H7 H8 hj ⟨acc, z, la, ac, zg⟩ ⟨rfl, k3, v3, hk3, rfl⟩
        obtain ⟨m2, s2', a2, q2, b2, mv2', ns2, e1, e2, ⟨tm, rfl, htm⟩, hz, _, _⟩ := pt6 _ (List.mem_of_getElem? hk3)
        cases (e1 : k3 = Sum.inl m2)
        have hM7 := z.1 _ _ (i6.f hM2)
        have hPt7 := z.1 _ _ hPt6
        have htm7 := z.1 _ _ htm
        have htv7 := z.1 _ _ (s6 _ _ htv)
        refine ⟨rfl, _, rfl, _, rfl, M, _, rfl, by rw [← e2]; exact DGet.f (k := Sum.inl m2) hM7, tm, _, 2, _, rfl, rfl, sqT htm7, at2, _, rfl, tv, _, 0, _, rfl, rfl, sqT htv7, at0, rfl, _, rfl, ite2 (fun c => ?_) (fun c => ?_)⟩
        · have c1 : (q2 : Int) = (qq : Int) := V.int.inj (of_decide_eq_true c)
          have c2 : q2 = qq := by omega
          subst c2
          refine ⟨_, rfl, _, rfl, M, _, rfl, by rw [← e2]; exact DGet.f (k := Sum.inl m2) hM7, tm, _, 3, _, rfl, rfl, sqT htm7, at3, _, rfl, tv, _, 1, _, rfl, rfl, sqT htv7, at1, _, _, rfl, rfl, _, rfl, ite2 (fun d => ?_) (fun d => ?_)⟩
          · have d1 : (b2 : Int) < (k : Int) := of_decide_eq_true d
            have hin : (valV (x0 :: xr) (Sum.inl m2 : Key)).isSome = true := by
              cases hv : valV (x0 :: xr) (Sum.inl m2 : Key) with
              | some v => rfl
              | none => exact absurd (List.mem_map.mpr ⟨_, List.mem_of_getElem? hk3, rfl⟩) (valV_not hv)
            obtain ⟨v4, hv4⟩ := Option.isSome_iff_exists.mp hin
            obtain ⟨_, _, _, _, _, _, ns4, _, _, _, _, ht4, ln4⟩ := pt6 _ (valV_mem hv4)
            refine ⟨_, rfl, _, rfl, Pt, v4, rfl, by rw [← hv4]; exact DGet.f (k := Sum.inl m2) hPt7, acc, z.2, small1000 (by omega), _, z.more nL _, by rw [List.length_append, List.length_singleton]; omega, fun x hx => ?_, fun _ => ⟨b2, hz, by omega⟩⟩
            rcases List.mem_append.mp hx with hx | hx
            · exact ac x hx
            · rw [List.mem_singleton] at hx
              subst hx
              exact ⟨ns4, .inr ht4⟩
          · exact ⟨acc, z, by omega, ac, zg⟩
        · exact ⟨acc, z, by omega, ac, zg⟩
      rintro H7 ⟨acc, z, la, ac, zg⟩
      have s7 := s6.trans z.1
      -- if ended != []
      refine ⟨_, rfl, Nat.zero_le _, fun e2 ne2 => ?_⟩
      have s8 := sm_fresh (o := .lst []) s7 ne2
      have s68 : Same H6 (upd H7 e2 (.lst [])) := sm_fresh z.1 ne2
      have hL8 := keep_new (o := .lst []) z.2 ne2
      refine ⟨L, e2, acc, rfl, rfl, sqL hL8, sqL upd_same, _, rfl, ?_⟩
      cases acc with
      | cons y0 yr =>
        refine ⟨_, rfl, L, _, rfl, sqL hL8, List.cons_ne_nil _ _, fun x hx => ?_, fun x hx => ?_⟩
        · obtain ⟨ns, h | h⟩ := ac x hx
          · obtain ⟨tx, rfl, htx⟩ := h
            exact ⟨tx, ns, rfl, sqT (s8 _ _ htx)⟩
          · obtain ⟨tx, rfl, htx⟩ := h
            exact ⟨tx, ns, rfl, sqT (s68 _ _ htx)⟩
        · obtain ⟨ns, h | h⟩ := ac x hx
          · obtain ⟨tx, rfl, htx⟩ := h
            exact q1 _ tx s8 (zg (List.cons_ne_nil _ _))
          · obtain ⟨tx, rfl, htx⟩ := h
            exact q1 _ tx s8 (zg (List.cons_ne_nil _ _))
      | nil =>
        have i8 := i6.trans (im s68)
        have pt8 : ∀ kv ∈ (x0 :: xr), PthE R p n km N (upd H7 e2 (.lst [])) kv := fun kv hk => (pt6 kv hk).im (im s68)
        have mv8 : ∀ kv ∈ km, MvE R (upd H7 e2 (.lst [])) kv := fun kv hk => (mv2 kv hk).im i8
        have hKn8 := s68 _ _ hKn6
        -- paths = longer_paths(moves, paths, known)
        refine ⟨_, rfl, _, rfl, _, rfl, M, Pt, Kn, om, opt, R, p, n, N, km, (x0 :: xr), kn, rfl, i8.f hM2, s68 _ _ hPt6, hKn8, mv8, lm, ndm, pt8, lpt, by omega, fun H9 F kf s9 nF hF lf pf => ?_⟩
        refine ⟨F, _, hF, trivial, fun oF => ?_⟩
        have hKn9 := s9 _ _ hKn8
        have hFK : Kn ≠ F := fun y => by subst y; rw [hKn8] at nF; cases nF
        have hKn10 : (upd H9 F (.frz oF (.dK kf))) Kn = some (.dK kn) := by rw [upd_ne hFK]; exact hKn9
        have i9 : ISame H9 (upd H9 F (.frz oF (.dK kf))) := im_dK hF
        have s10 : Same H (upd H9 F (.frz oF (.dK kf))) := sm_own (s8.trans s9) (s8.free nF)
        -- known.update(paths)
        refine ⟨_, rfl, .inr (.inr (.inl ⟨rfl, .inl ⟨_, hKn10⟩⟩)), _, rfl, Kn, F, kn, kf, rfl, rfl, hFK, hKn10, .inr ⟨oF, upd_same⟩, Nat.le_of_lt (small9 (by omega)), ?_⟩
        have i11 := i9.trans (im_dK (o := .dK (mergeK kn kf)) hKn10)
        have sub : ∀ kv : Key × V, (valV (mergeK kn kf) kv.1).isNone = true → (valV kn kv.1).isNone = true := fun kv h => by
          cases hv : valV kn kv.1 with
          | none => rfl
          | some v =>
            have := some_merge (ls := kf) (ks := kn) (k := kv.1) (.inl (by rw [hv]; rfl))
            rw [Option.isSome_iff_ne_none] at this
            rw [Option.isNone_iff_eq_none] at h
            exact absurd h this
        have lmg := length_mergeK kf kn
        have hF12 : (upd (upd H9 F (.frz oF (.dK kf))) Kn (.dK (mergeK kn kf))) F = some (.frz oF (.dK kf)) := by rw [upd_ne hFK.symm, upd_same]
        have pf12 : ∀ kv ∈ kf, PthE R p n km (N + 1) (upd (upd H9 F (.frz oF (.dK kf))) Kn (.dK (mergeK kn kf))) kv := fun kv hk => (pf kv hk).1.im i11
        cases kf with
        | nil => exact ⟨F, oF, [], kn, N, _, _, _, by rw [if_pos rfl]; exact Nat.succ_pos _, rfl, sm_own s10 nK0, i8.trans ((im s9).trans i11), hF12, upd_same, fun kv hk => (by simp at hk), Nat.zero_le _, bN, bK⟩
        | cons z0 zr =>
          have less : cnt km (mergeK kn (z0 :: zr)) < cnt km kn := by
            obtain ⟨_, hno, v, hmem⟩ := pf z0 List.mem_cons_self
            refine filter_lt sub ⟨_, hmem, by rw [hno]; rfl, ?_⟩
            have := some_merge (ls := z0 :: zr) (ks := kn) (k := z0.1) (.inr ⟨z0.2, List.mem_cons_self⟩)
            obtain ⟨u, hu'⟩ := Option.isSome_iff_exists.mp this
            show (valV (mergeK kn (z0 :: zr)) z0.1).isNone = false
            rw [hu']
            rfl
          exact ⟨F, oF, z0 :: zr, _, N + 1, _, _, _, by rw [if_neg (List.cons_ne_nil _ _)]; omega, rfl, sm_own s10 nK0, i8.trans ((im s9).trans i11), hF12, upd_same, pf12, lf, by omega, by omega⟩
end
end K57

/-! ## KD13 -/
namespace K57
open PySem PySem.Spec PyProof.Rows L2
/-! ### the deck: a list of cells, three numbers; b tells how often it was asked -/
def DkL (C : Addr) (a : Int) (b : Nat) (c : Int) : List V := [.ref C, .int a, .int (b : Int), .int c]
structure Deck (H : Hp) (D C : Addr) (b : Nat) : Prop where
  ex : ∃ (cells : List Int) (a c : Int), H D = some (.lst (DkL C a b c)) ∧ H C = some (.lst (cells.map V.int)) ∧ 0 ≤ a ∧ ∀ x ∈ cells, 0 ≤ x
theorem Deck.ne {H : Hp} {D C : Addr} {b : Nat} (h : Deck H D C b) : D ≠ C := by
  obtain ⟨cells, a, c, h1, h2, _⟩ := h.ex
  rintro rfl
  rw [h1] at h2
  have e := HO.lst.inj (Option.some.inj h2)
  cases cells with
  | nil => cases e
  | cons x r =>
    have e1 := (List.cons.inj e).1
    cases e1
theorem Deck.same {H H' : Hp} {D C : Addr} {b : Nat} (h : Deck H D C b) (s : Same H H') : Deck H' D C b := let ⟨cells, a, c, h1, h2, h3⟩ := h.ex; ⟨cells, a, c, s _ _ h1, s _ _ h2, h3⟩
/-- nothing but the deck is changed -/
def Fr (D C : Addr) (H H' : Hp) : Prop := ∀ x o, H x = some o → x ≠ D → x ≠ C → H' x = some o
theorem Fr.refl {D C : Addr} (H : Hp) : Fr D C H H := fun _ _ h _ _ => h
theorem Fr.trans {D C : Addr} {H H1 H2 : Hp} (a : Fr D C H H1) (b : Fr D C H1 H2) : Fr D C H H2 := fun x o h h1 h2 => b x o (a x o h h1 h2) h1 h2
theorem Fr.of {D C : Addr} {H H' : Hp} (s : Same H H') : Fr D C H H' := fun x o h _ _ => s x o h
theorem Fr.setD {D C : Addr} {H H' : Hp} (f : Fr D C H H') (o : HO) : Fr D C H (upd H' D o) := fun x u h h1 h2 => by rw [upd_ne h1]; exact f x u h h1 h2
theorem Fr.setC {D C : Addr} {H H' : Hp} (f : Fr D C H H') (o : HO) : Fr D C H (upd H' C o) := fun x u h h1 h2 => by rw [upd_ne h2]; exact f x u h h1 h2
theorem Fr.new {D C : Addr} {H H' : Hp} (f : Fr D C H H') {p : Addr} {o : HO} (n : H' p = none) : Fr D C H (upd H' p o) := f.trans (.of (sm_new n))
theorem Fr.own {D C : Addr} {H H' : Hp} (f : Fr D C H H') {p : Addr} {o : HO} (n : H p = none) : Fr D C H (upd H' p o) := fun x u h h1 h2 => by rw [upd_ne (ne_of_none h n)]; exact f x u h h1 h2
/-- what is immutable stays -/
theorem Fr.im {D C : Addr} {H H' : Hp} {b : Nat} (f : Fr D C H H') (d : Deck H D C b) : ISame H H' := fun x o i h => by
  obtain ⟨cells, a, c, h1, h2, _⟩ := d.ex
  refine f x o h (fun e => ?_) (fun e => ?_)
  · subst e
    rw [h1] at h
    cases h
    exact i
  · subst e
    rw [h2] at h
    cases h
    exact i
theorem Fr.free {D C : Addr} {H H' : Hp} {b : Nat} (f : Fr D C H H') (d : Deck H D C b) {l : Addr} (n : H' l = none) (d' : ∃ b', Deck H' D C b') : H l = none := by
  cases e : H l with
  | none => rfl
  | some o =>
    obtain ⟨b', d'⟩ := d'
    obtain ⟨_, _, _, g1, g2, _⟩ := d'.ex
    have h1 : l ≠ D := fun z => by subst z; rw [n] at g1; cases g1
    have h2 : l ≠ C := fun z => by subst z; rw [n] at g2; cases g2
    rw [f l o e h1 h2] at n
    cases n
theorem Deck.neD {H : Hp} {D C : Addr} {b : Nat} (h : Deck H D C b) {l : Addr} (n : H l = none) : l ≠ D ∧ l ≠ C := by
  obtain ⟨_, _, _, g1, g2, _⟩ := h.ex
  exact ⟨fun z => (by subst z; rw [n] at g1; cases g1), fun z => (by subst z; rw [n] at g2; cases g2)⟩
/-- an own object is changed -/
theorem Deck.own {H : Hp} {D C : Addr} {b : Nat} (h : Deck H D C b) {p : Addr} {o : HO} (h1 : p ≠ D) (h2 : p ≠ C) : Deck (upd H p o) D C b := by
  obtain ⟨cells, a, c, g1, g2, g3⟩ := h.ex
  exact ⟨cells, a, c, by rw [upd_ne h1.symm]; exact g1, by rw [upd_ne h2.symm]; exact g2, g3⟩
section
variable {P : Program} {w : World} {K : PySem.W.Frag} {mg : Str → Option Value} {base : Heap}
/-! ### _law_deck -/
abbrev s__law_deck : Stmt := topS 35
theorem sc__law_deck : FnScope ["_law_script", "_law_cell"] ["_law_script"] (defScope s__law_deck) := ⟨rfl, rfl, rfl, by decide +kernel, rfl, by decide +kernel, by decide +kernel⟩
def spDeck (K : PySem.W.Frag) : Sp := fun vs H Q _ => ∃ (a : Addr) (ns : List Int), vs = [.ref a] ∧ SqL K H a (ns.map V.int) ∧ ns.length ≤ 63 ∧ ∀ H' D C, Same H H' → H D = none → Deck H' D C 0 → Q (.ref D) H'
theorem c_law_deck (T : Txt mg) (D : Dn K mg "_law_deck" s__law_deck ["_law_script"]) : Cal P w K mg base 1 "_law_deck" ["_law_script"] (spDeck K) := by
  refine D.cal sc__law_deck (fun vs H Q E h => ?_) (fun f cdv A outer s H vs Q E hr h => ?_)
  · obtain ⟨a, ns, rfl, _⟩ := h
    rfl
  · obtain ⟨a, ns, rfl, hS, hl, q⟩ := h
    have hu := hu_of hr
    refine ⟨_, (pss_one (ps_ret (pe_lst (pa_cons (pe_lc (own := [("_law_cell", 1)]) (g := (gName 1)) rfl sc__law_deck.nd (pi_list (pe_slice sl_list (pv 0) po_none (po_some pe_int))) (blkOk_by (N := ["_law_script", "_law_cell"]) (sc := defScope s__law_deck) (by decide +kernel)) (fun _ _ _ _ _ => (pg_name (i := 1) sc__law_deck.nd rfl (Or.inl rfl))) (fun _ _ _ _ _ => pts_nil) (fun _ _ _ _ _ => (pe_callB call_abs (by rfl) T.abs (by decide +kernel) (pa_cons (pv 1) pa_nil)))) (pa_cons pe_int (pa_cons pe_int (pa_cons (pe_op op_add pe_int (pe_op op_mul pe_int (pe_callB call_len_seq (by rfl) T.len PySem.boot_len (pa_cons (pv 0) pa_nil)))) pa_nil))))))), ?_⟩
    refine ⟨_, rfl, 63, rfl, a, ns.map V.int, rfl, hS, fun L nL => ?_⟩
    have eL : cutV (ns.map V.int) none (some 63) = (ns.take 63).map V.int := (cutV_take (ns.map V.int) 63).trans (List.map_take).symm
    rw [eL]
    have s1 := sm_new (o := .lst ((ns.take 63).map V.int)) nL
    refine ⟨L, rfl, ⟨_, sqL upd_same⟩, fun C nC => any_it (walk_list (xs := (ns.take 63).map V.int)) (fun i H' => ∃ cells : List Int, Acc (upd H L (.lst ((ns.take 63).map V.int))) C H' (cells.map V.int) ∧ cells.length ≤ i ∧ ∀ x ∈ cells, 0 ≤ x) ⟨[], Acc.start nC, Nat.le_refl _, fun x hx => by simp at hx⟩ (fun i H' _ z => let ⟨_, z, _⟩ := z; sqL (z.1 _ _ upd_same)) ?_ ?_⟩
    · rintro i x H1 H2 hi ⟨cells, z, lc, nn⟩ ⟨rfl, hx⟩
      obtain ⟨e, he, rfl⟩ := map_int hx
      rw [List.length_map, List.length_take] at hi
      refine ⟨rfl, _, rfl, e, rfl, _, z.2, small1000 (by rw [List.length_map]; omega), cells ++ [if e < 0 then -e else e], (z.more nC _).eq (by rw [List.map_append]; rfl), by rw [List.length_append, List.length_singleton]; omega, fun y hy => ?_⟩
      rcases List.mem_append.mp hy with hy | hy
      · exact nn y hy
      · rw [List.mem_singleton] at hy
        subst hy
        split <;> omega
    · rintro H1 ⟨cells, z, lc, nn⟩
      have hS1 : SqL K H1 a (ns.map V.int) := (s1.trans z.1).seq hS
      have ln : (ns.map V.int).length = ns.length := List.length_map ..
      refine ⟨_, rfl, a, _, rfl, .inl hS1, 31, _, rfl, rfl, .inl ⟨by decide, by decide⟩, 5, _, rfl, rfl, (by show 4 ≤ sizeLine; decide), fun D nD => ?_⟩
      exact q _ D C (sm_fresh (s1.trans z.1) nD) ((s1.trans z.1).free nD) ⟨cells, 0, _, upd_same, keep_new z.2 nD, Int.le_refl _, nn⟩
/-! ### _law_next -/
abbrev s__law_next : Stmt := topS 36
theorem sc__law_next : FnScope ["_law_deck_here", "_law_many", "_law_cell", "_law_digit", "_law_mixed"] ["_law_deck_here", "_law_many"] (defScope s__law_next) := ⟨rfl, rfl, rfl, by decide +kernel, rfl, by decide +kernel, by decide +kernel⟩
def spNext : Sp := fun vs H Q _ => ∃ (D C : Addr) (b m : Nat), vs = [.ref D, .int (m : Int)] ∧ Deck H D C b ∧ b ≤ 1000000 ∧ 0 < m ∧ m ≤ 1000 ∧ ∀ H' r b', Fr D C H H' → Deck H' D C b' → b' ≤ b + 1 → r < m → Q (.int ((r : Nat) : Int)) H'
theorem c_law_next (T : Txt mg) (D : Dn K mg "_law_next" s__law_next ["_law_deck_here", "_law_many"]) : Cal P w K mg base 1 "_law_next" ["_law_deck_here", "_law_many"] spNext := by
  refine D.cal sc__law_next (fun vs H Q E h => ?_) (fun f cdv A outer s H vs Q E hr h => ?_)
  · obtain ⟨D, C, b, m, rfl, _⟩ := h
    rfl
  · obtain ⟨D, C, b, m, rfl, dk, hb, m0, m1, q⟩ := h
    have hu := hu_of hr
    have hu0 := Nat.lt_of_succ_lt hu
    refine ⟨_, (pss_cons (ps_while PassesOwn.never (PW.pt (pw_and (pt_cmpR op_eq (pe_ix ix_list (pv 0) pe_int (fun _ _ => rfl)) pe_int (nomark _)) (pw_and1 (pt_cmpR (op_neNil hu0) (pe_ix ix_list (pv 0) pe_int (fun _ _ => rfl)) (pe_lst pa_nil) (nomark _))))) (pss_cons (ps_set (i := 2) sc__law_next.nd rfl (Or.inl rfl) (pe_bm PySem.F.plainAttrs_list PySem.F.slot_list_pop PySem.F.type_list_pop mt_popAt (pe_ix ix_list (pv 0) pe_int (fun _ _ => rfl)) (pa_cons pe_int pa_nil)))
      (pss_cons (ps_asg (pe_op op_modN (pe_op op_add (pe_op op_add (pe_op op_mul (pe_ix ix_list (pv 0) pe_int (fun _ _ => rfl)) pe_int) (pe_op op_modN (pv 2) pe_int)) pe_int) pe_int) (pg_sub (pv 0) pe_int set_list))
      (pss_one (ps_asg (pe_op op_mul (pv 2) (pe_callTy call_int1 (by rfl) T.int (by decide +kernel) (pa_cons (pe_cmpR op_ge (pv 2) (pe_op op_pow pe_int pe_int) (nomark _)) pa_nil))) (pg_sub (pv 0) pe_int set_list))))))
      (pss_cons (ps_if (pt_cmpR op_gt (pe_ix ix_list (pv 0) pe_int (fun _ _ => rfl)) pe_int (nomark _)) (pss_cons (ps_set (i := 3) sc__law_next.nd rfl (Or.inl rfl) (pe_op op_modN (pe_ix ix_list (pv 0) pe_int (fun _ _ => rfl)) (pv 1)))
      (pss_cons (ps_asg (pe_op op_fdivN (pe_ix ix_list (pv 0) pe_int (fun _ _ => rfl)) (pv 1)) (pg_sub (pv 0) pe_int set_list))
      (pss_one (ps_ret (pv 3))))) pss_nil)
      (pss_cons (ps_asg (pe_op op_add (pe_ix ix_list (pv 0) pe_int (fun _ _ => rfl)) pe_int) (pg_sub (pv 0) pe_int set_list))
      (pss_cons (ps_set (i := 4) sc__law_next.nd rfl (Or.inl rfl) (pe_op op_modN (pe_op op_add (pe_op op_add (pe_op op_mul (pe_ix ix_list (pv 0) pe_int (fun _ _ => rfl)) pe_int) (pe_op op_mul (pe_op op_mul (pe_ix ix_list (pv 0) pe_int (fun _ _ => rfl)) (pe_ix ix_list (pv 0) pe_int (fun _ _ => rfl))) pe_int)) pe_int) pe_int))
      (pss_one (ps_ret (pe_op op_modN (pe_op op_fdivN (pe_op op_modN (pe_op op_mul (pv 4) (pv 4)) pe_int) pe_int) (pv 1)))))))), ?_⟩
    have dne := dk.ne
    obtain ⟨cells0, a0, c0, hD0, hC0, ha0, hn0⟩ := dk.ex
    refine ⟨fun k σ H' => ∃ (cells : List Int) (a c : Int) (y2 : Option V), k = cells.length ∧ σ = [some (.ref D), some (.int (m : Int)), y2, none, none] ∧ Fr D C H H' ∧ H' D = some (.lst (DkL C a b c)) ∧ H' C = some (.lst (cells.map V.int)) ∧ 0 ≤ a ∧ ∀ x ∈ cells, 0 ≤ x,
      ⟨_, cells0, a0, c0, none, rfl, rfl, Fr.refl H, hD0, hC0, ha0, hn0⟩, ?_⟩
    rintro k σ H1 ⟨cells, a, c, y2, rfl, rfl, f1, hD, hC, ha, hn⟩
    -- while deck[1] == 0 and deck[0] != []
    have key : ∀ Q' : Bool → Hp → Prop, (∀ H2, Fr D C H H2 → H2 D = some (.lst (DkL C a b c)) → H2 C = some (.lst (cells.map V.int)) → cells ≠ [] → Q' true H2) → (∀ H2, Fr D C H H2 → H2 D = some (.lst (DkL C a b c)) → H2 C = some (.lst (cells.map V.int)) → Q' false H2) →
        tAnd (tTest (tOp rEq (tOp (rIxL K) (tVar 0) (tC (.int 1))) (tC (.int 0)))) (tTest (tOp (rNeNil K) (tOp (rIxL K) (tVar 0) (tC (.int 0))) (tLst tNil))) [some (.ref D), some (.int (m : Int)), y2, none, none] H1 Q' := by
      intro Q' yes no
      refine ⟨_, rfl, D, _, 1, _, rfl, rfl, sqL hD, at1, rfl, _, rfl, ite2 (fun z => ?_) (fun z => no H1 f1 hD hC)⟩
      refine ⟨_, rfl, D, _, 0, _, rfl, rfl, sqL hD, at0, Nat.zero_le _, fun e ne => ?_⟩
      have hD2 := keep_new (o := .lst []) hD ne
      have hC2 := keep_new (o := .lst []) hC ne
      refine ⟨C, e, _, rfl, rfl, sqL hC2, sqL upd_same, _, rfl, ?_⟩
      cases cells with
      | nil => exact no _ (f1.new ne) hD2 hC2
      | cons x r => exact yes _ (f1.new ne) hD2 hC2 (List.cons_ne_nil _ _)
    refine key _ (fun H2 f2 hD2 hC2 hne => ?_) (fun H2 f2 hD2 hC2 => ?_)
    · cases cells with
      | nil => exact absurd rfl hne
      | cons x r =>
        refine ⟨fun σ' H' => ∃ (cells : List Int) (a c : Int) (y2 : Option V), cells.length < (x :: r).length ∧ σ' = [some (.ref D), some (.int (m : Int)), y2, none, none] ∧ Fr D C H H' ∧ H' D = some (.lst (DkL C a b c)) ∧ H' C = some (.lst (cells.map V.int)) ∧ 0 ≤ a ∧ ∀ x ∈ cells, 0 ≤ x,
          fun σ' H' ⟨cells, a, c, y2, hm, r⟩ => ⟨_, hm, cells, a, c, y2, rfl, r⟩, ?_⟩
        -- cell = deck[0].pop(0)
        refine ⟨_, rfl, D, _, 0, _, rfl, rfl, sqL hD2, at0, .inl ⟨rfl, _, sqL hC2⟩, C, _, 0, 0, .int x, rfl, rfl, hC2, by decide, by decide, (ixN_seq (ix_at (j := 0) (by simp))).1, rfl, ?_⟩
        have hD3 : ∀ o, (upd H2 C o) D = some (.lst (DkL C a b c)) := fun o => by rw [upd_ne dne]; exact hD2
        -- deck[3] = ..
        refine ⟨_, rfl, D, _, 3, _, rfl, rfl, sqL (hD3 _), at3, _, _, rfl, rfl, .inr ⟨by decide, by decide⟩, _, rfl, _, 2147483629, rfl, rfl, (show (2147483629 : Int) ≠ 0 by decide), _, _, rfl, rfl, _, 1, rfl, rfl, _, 2147483629, rfl, rfl, (show (2147483629 : Int) ≠ 0 by decide), ?_⟩
        refine ⟨_, rfl, D, _, 3, 3, rfl, rfl, hD3 _, rfl, ?_⟩
        -- deck[1] = cell * int(cell >= 10 ** 18)
        refine ⟨_, rfl, _, rfl, 10, 18, rfl, rfl, ⟨by decide, by decide, by decide⟩, _, _, rfl, rfl, .inr ⟨_, rfl, _, _, rfl, rfl, .inr ?_, ?_⟩⟩
        · split <;> decide
        · refine ⟨_, rfl, D, _, 1, 1, rfl, rfl, upd_same, rfl, ?_⟩
          have hx := hn x List.mem_cons_self
          refine ⟨r, _, _, _, Nat.lt_succ_self _, rfl, ((f2.setC _).setD _).setD _, upd_same, by rw [upd_ne dne.symm, upd_ne dne.symm, upd_same]; rfl, ?_, fun y hy => hn y (List.mem_cons_of_mem _ hy)⟩
          split
          · rw [Int.mul_one]; exact hx
          · rw [Int.mul_zero]; exact Int.le_refl _
    · -- behind the loop
      have mi : (m : Int) ≠ 0 := by omega
      have mp : (0 : Int) < (m : Int) := by omega
      refine ⟨_, rfl, D, _, 1, _, rfl, rfl, sqL hD2, at1, _, _, rfl, rfl, _, rfl, ite2 (fun z => ?_) (fun z => ?_)⟩
      · -- digit = deck[1] % many; deck[1] = deck[1] // many; return digit
        refine ⟨_, rfl, D, _, 1, _, rfl, rfl, sqL hD2, at1, _, rfl, _, _, rfl, rfl, mi, ?_⟩
        refine ⟨_, rfl, D, _, 1, _, rfl, rfl, sqL hD2, at1, _, rfl, _, _, rfl, rfl, ⟨mi, by omega⟩, ?_⟩
        refine ⟨_, rfl, D, _, 1, 1, rfl, rfl, hD2, rfl, ?_⟩
        have e0 := Int.fmod_nonneg_of_pos a mp
        have e1 := Int.fmod_lt_of_pos a mp
        obtain ⟨r, hr'⟩ := Int.eq_ofNat_of_zero_le e0
        have e2 : 0 ≤ a.fdiv (m : Int) := Int.fdiv_nonneg ha (by omega)
        have fin := q _ r b ((f2.setD (.lst (DkL C (a.fdiv (m : Int)) b c)))) ⟨cells, a.fdiv (m : Int), c, upd_same, by rw [upd_ne dne.symm]; exact hC2, e2, hn⟩ (Nat.le_succ _) (by omega)
        refine ⟨_, rfl, ?_⟩
        rw [← hr'] at fin
        exact fin
      · -- deck[2] = deck[2] + 1
        refine ⟨_, rfl, D, _, 2, _, rfl, rfl, sqL hD2, at2, _, 1, rfl, rfl, ?_⟩
        refine ⟨_, rfl, D, _, 2, 2, rfl, rfl, hD2, rfl, ?_⟩
        have hD3 : (upd H2 D (.lst ((DkL C a b c).set 2 (.int ((b : Int) + 1))))) D = some (.lst (DkL C a (b + 1) c)) := by
          rw [upd_same]
          have : (b : Int) + 1 = ((b + 1 : Nat) : Int) := by omega
          rw [this]
          rfl
        have dk3 : Deck (upd H2 D (.lst ((DkL C a b c).set 2 (.int ((b : Int) + 1))))) D C (b + 1) := ⟨cells, a, c, hD3, by rw [upd_ne dne.symm]; exact hC2, ha, hn⟩
        have f3 := f2.setD (.lst ((DkL C a b c).set 2 (.int ((b : Int) + 1))))
        refine ⟨_, rfl, D, _, 3, _, rfl, rfl, sqL hD3, at3, _, 48271, rfl, rfl, .inr ⟨by decide, by decide⟩, _, rfl, D, _, 2, _, rfl, rfl, sqL hD3, at2, _, rfl, D, _, 2, _, rfl, rfl, sqL hD3, at2, _, _, rfl, rfl, .inl ⟨by omega, by omega⟩, _, 40692, rfl, rfl, .inr ⟨by decide, by decide⟩, _, _, rfl, rfl, _, 7, rfl, rfl, _, 2147483587, rfl, rfl, (show (2147483587 : Int) ≠ 0 by decide), ?_⟩
        generalize hx : (c * 48271 + ((b + 1 : Nat) : Int) * ((b + 1 : Nat) : Int) * 40692 + 7).fmod 2147483587 = x
        have x0 : 0 ≤ x := hx ▸ Int.fmod_nonneg_of_pos _ (by decide)
        have x1 : x < 2147483587 := hx ▸ Int.fmod_lt_of_pos _ (by decide)
        refine ⟨_, rfl, _, rfl, x, x, ?_, ?_, .inl ⟨by omega, by omega⟩, _, 2147483563, rfl, rfl, (show (2147483563 : Int) ≠ 0 by decide), _, 16, rfl, rfl, ⟨by decide, by decide⟩, _, rfl, _, _, rfl, rfl, mi, ?_⟩
        · exact congrArg V.int hx
        · exact congrArg V.int hx
        generalize (Int.fdiv (Int.fmod (x * x) 2147483563) 16) = y
        obtain ⟨r, hr'⟩ := Int.eq_ofNat_of_zero_le (Int.fmod_nonneg_of_pos y mp)
        have e1 := Int.fmod_lt_of_pos y mp
        have fin := q _ r (b + 1) f3 dk3 (Nat.le_refl _) (by omega)
        rw [← hr'] at fin
        exact fin
end
end K57

/-! ## KD14 -/
namespace K57
open PySem PySem.Spec PyProof.Rows L2
section
variable {P : Program} {w : World} {K : PySem.W.Frag} {mg : Str → Option Value} {base : Heap}
/-! ### _law_one -/
abbrev s__law_one : Stmt := topS 37
theorem sc__law_one : FnScope ["_law_deck_here", "_law_some"] ["_law_deck_here", "_law_some"] (defScope s__law_one) := ⟨rfl, rfl, rfl, by decide +kernel, rfl, by decide +kernel, by decide +kernel⟩
def spOne : Sp := fun vs H Q _ => ∃ (D C : Addr) (b : Nat) (S : Addr) (xs : List V), vs = [.ref D, .ref S] ∧ Deck H D C b ∧ b ≤ 1000000 ∧ H S = some (.lst xs) ∧ S ≠ D ∧ S ≠ C ∧ xs ≠ [] ∧ xs.length ≤ 1000 ∧ ∀ H' x b', Fr D C H H' → Deck H' D C b' → b' ≤ b + 1 → x ∈ xs → Q x H'
theorem c_law_one (T : Txt mg) (D : Dn K mg "_law_one" s__law_one ["_law_deck_here", "_law_some"]) (c_law_next : Cal P w K mg base 1 "_law_next" ["_law_deck_here", "_law_many"] spNext) : Cal P w K mg base 2 "_law_one" ["_law_deck_here", "_law_some"] spOne := by
  refine D.cal sc__law_one (fun vs H Q E h => ?_) (fun f cdv A outer s H vs Q E hr h => ?_)
  · obtain ⟨D, C, b, S, xs, rfl, _⟩ := h
    rfl
  · obtain ⟨D, C, b, S, xs, rfl, dk, hb, hS, n1, n2, hne, hl, q⟩ := h
    refine ⟨_, (pss_one (ps_ret (pe_ix ix_list (pv 1) (pe_cal c_law_next (hr.mono (by decide)) (pa_cons (pv 0) (pa_cons (pe_callB call_len_seq (by rfl) T.len PySem.boot_len (pa_cons (pv 1) pa_nil)) pa_nil))) (fun _ _ => rfl)))), ?_⟩
    have h0 : 0 < xs.length := List.length_pos_iff.mpr hne
    refine ⟨_, rfl, _, rfl, _, rfl, S, xs, rfl, .inl (sqL hS), D, C, b, xs.length, rfl, dk, hb, h0, hl, fun H1 r b1 f1 dk1 hb1 hr1 => ?_⟩
    have hg : xs[r]? = some (xs[r]'hr1) := List.getElem?_eq_getElem hr1
    exact ⟨S, xs, r, _, rfl, rfl, sqL (f1 _ _ hS n1 n2), atI_nat hg, q H1 _ b1 f1 dk1 hb1 (List.mem_of_getElem? hg)⟩
/-! ### _law_shuffled -/
abbrev s__law_shuffled : Stmt := topS 38
theorem sc__law_shuffled : FnScope ["_law_deck_here", "_law_items", "_law_left", "_law_k"] ["_law_deck_here", "_law_items"] (defScope s__law_shuffled) := ⟨rfl, rfl, rfl, by decide +kernel, rfl, by decide +kernel, by decide +kernel⟩
def spShuf : Sp := fun vs H Q _ => ∃ (D C : Addr) (b : Nat) (S : Addr) (ns : List Int), vs = [.ref D, .ref S] ∧ Deck H D C b ∧ b + 100 ≤ 1000000 ∧ H S = some (.lst (ns.map V.int)) ∧ S ≠ D ∧ S ≠ C ∧ ns.length ≤ 100 ∧
  ∀ H' L (ms : List Int) b', Fr D C H H' → Deck H' D C b' → b' ≤ b + ns.length → H L = none → H' L = some (.lst (ms.map V.int)) → ms.Perm ns → Q (.ref L) H'
theorem c_law_shuffled (T : Txt mg) (D : Dn K mg "_law_shuffled" s__law_shuffled ["_law_deck_here", "_law_items"]) (c_law_next : Cal P w K mg base 1 "_law_next" ["_law_deck_here", "_law_many"] spNext) : Cal P w K mg base 2 "_law_shuffled" ["_law_deck_here", "_law_items"] spShuf := by
  refine D.cal sc__law_shuffled (fun vs H Q E h => ?_) (fun f cdv A outer s H vs Q E hr h => ?_)
  · obtain ⟨D, C, b, S, ns, rfl, _⟩ := h
    rfl
  · obtain ⟨D, C, b, S, ns, rfl, dk, hb, hS, n1, n2, hl, q⟩ := h
    have hu := hu_of hr
    refine ⟨_, (pss_cons (ps_set (i := 2) sc__law_shuffled.nd rfl (Or.inr rfl) (pe_callTy call_list_of (by rfl) T.list (by decide +kernel) (pa_cons (pv 1) pa_nil)))
      (pss_one (ps_ret (pe_lc (own := [("_law_k", 3)]) (g := (gName 3)) rfl sc__law_shuffled.nd (pi_range1 rfl T.range (pa_cons (pe_callB call_len_seq (by rfl) T.len PySem.boot_len (pa_cons (pv 2) pa_nil)) pa_nil)) (blkOk_by (N := ["_law_deck_here", "_law_items", "_law_left", "_law_k"]) (sc := defScope s__law_shuffled) (by decide +kernel)) (fun _ _ _ _ _ => (pg_name (i := 3) sc__law_shuffled.nd rfl (Or.inl rfl))) (fun _ _ _ _ _ => pts_nil) (fun _ _ _ _ _ => (pe_popAtK (K := K) (pv 2) (pe_cal c_law_next (hr.mono (by decide)) (pa_cons (pv 0) (pa_cons (pe_callB (len_seqK (K := K)) (by rfl) T.len PySem.boot_len (pa_cons (pv 2) pa_nil)) pa_nil))))))))), ?_⟩
    refine ⟨_, rfl, S, _, rfl, .inl (sqL hS), fun F nF => ?_⟩
    have s1 := sm_new (o := .lst (ns.map V.int)) nF
    have dk1 := dk.same s1
    have nFD := dk.neD nF
    have ln : (ns.map V.int).length = ns.length := List.length_map ..
    refine ⟨_, rfl, F, _, rfl, .inl (sqL upd_same), _, rfl, by omega, by omega, fun L nL => ?_⟩
    have nLD := dk1.neD nL
    have nL0 := s1.free nL
    have nLF : L ≠ F := fun z => by subst z; rw [upd_same] at nL; cases nL
    have en : ((ns.map V.int).length : Int).toNat = ns.length := by rw [Int.toNat_natCast, ln]
    rw [en]
    refine any_it walk_range0 (fun i H' => ∃ (out rest : List Int) (b' : Nat), Fr D C H H' ∧ Deck H' D C b' ∧ H' F = some (.lst (rest.map V.int)) ∧ H' L = some (.lst (out.map V.int)) ∧ (out ++ rest).Perm ns ∧ rest.length + i = ns.length ∧ b' ≤ b + i)
      ⟨[], ns, b, (Fr.of s1).new nL, dk1.same (sm_new nL), by rw [upd_ne nLF.symm, upd_same], upd_same, List.Perm.refl _, rfl, Nat.le_refl _⟩ (fun _ _ _ _ => trivial) ?_ ?_
    · rintro i x H1 H2 hi ⟨out, rest, b1, f1, d1, hF, hL, perm, hlen, hb1⟩ ⟨rfl, rfl⟩
      have lr : (rest.map V.int).length = rest.length := List.length_map ..
      have lo : out.length ≤ ns.length := by have := perm.length_eq; rw [List.length_append] at this; omega
      refine ⟨rfl, _, rfl, .inl ⟨rfl, _, sqL hF⟩, _, rfl, _, rfl, F, _, rfl, .inl (sqL hF), D, C, b1, rest.length, by rw [← lr]; rfl, d1, by omega, by omega, by omega, fun H3 r b2 f2 d2 hb2 hr2 => ?_⟩
      have hF3 := f2 _ _ hF nFD.1 nFD.2
      have hL3 := f2 _ _ hL nLD.1 nLD.2
      have hg : rest[r]? = some (rest[r]'hr2) := List.getElem?_eq_getElem hr2
      refine ⟨F, _, r, r, .int (rest[r]'hr2), rfl, rfl, hF3, by omega, by omega, (ixN_seq (ix_at (by rw [lr]; exact hr2))).1, by rw [List.getElem?_map, hg]; rfl, ?_⟩
      have hL4 : (upd H3 F (.lst ((rest.map V.int).eraseIdx r))) L = some (.lst (out.map V.int)) := by rw [upd_ne nLF]; exact hL3
      have d4 : Deck (upd H3 F (.lst ((rest.map V.int).eraseIdx r))) D C b2 := d2.own nFD.1 nFD.2
      refine ⟨_, hL4, small1000 (by rw [List.length_map]; omega), out ++ [rest[r]'hr2], rest.eraseIdx r, b2, ((f1.trans f2).own nF).own nL0, d4.own nLD.1 nLD.2, ?_, ?_, ?_, ?_, by omega⟩
      · rw [upd_ne nLF.symm, upd_same, map_erase]
      · rw [upd_same, List.map_append]
        rfl
      · rw [List.append_assoc]
        refine List.Perm.trans (List.Perm.append_left out ?_) perm
        exact perm_erase rest r hr2
      · rw [List.length_eraseIdx_of_lt hr2]
        omega
    · rintro H1 ⟨out, rest, b1, f1, d1, hF, hL, perm, hlen, hb1⟩
      have r0 : rest = [] := List.length_eq_zero_iff.mp (by omega)
      subst r0
      rw [List.append_nil] at perm
      exact q H1 L out b1 f1 d1 hb1 nL0 hL perm
/-! ### _law_states, _law_kept -/
abbrev s__law_states : Stmt := topS 40
theorem sc__law_states : FnScope ["_law_rows", "_law_found", "_law_process", "_law_row", "_law_number"] ["_law_rows"] (defScope s__law_states) := ⟨rfl, rfl, rfl, by decide +kernel, rfl, by decide +kernel, by decide +kernel⟩
theorem c_law_states (T : Txt mg) (D : Dn K mg "_law_states" s__law_states ["_law_rows"]) : Cal P w K mg base 1 "_law_states" ["_law_rows"] spStates := by
  refine D.cal sc__law_states (fun vs H Q E h => ?_) (fun f cdv A outer s H vs Q E hr h => ?_)
  · obtain ⟨a, R, rfl, _⟩ := h
    rfl
  · obtain ⟨a, R, rfl, hh, sz, q⟩ := h
    have hu := hu_of hr
    refine ⟨_, (pss_cons (ps_set (i := 1) sc__law_states.nd rfl (Or.inl rfl) (pe_lst pa_nil))
      (pss_cons (ps_for PassesOwn.never rfl (pi_enumT (by rfl) T.enumerate (pa_cons (pv 0) pa_nil)) (pg_tup rfl (pgs_cons (pg_name (i := 2) sc__law_states.nd rfl (Or.inr rfl)) (pgs_cons (pg_name (i := 3) sc__law_states.nd rfl (Or.inl rfl)) pgs_nil))) (pss_one (ps_set (i := 1) sc__law_states.nd rfl (Or.inl rfl) (pe_op op_cat (pv 1) (pe_lc (own := [("_law_number", 4)]) (g := (gName 4)) rfl sc__law_states.nd (pi_range1 rfl T.range (pa_cons (pe_op op_add (pe_tcount (pv 3) pe_int) pe_int) pa_nil)) (blkOk_by (N := ["_law_rows", "_law_found", "_law_process", "_law_row", "_law_number"]) (sc := defScope s__law_states) (by decide +kernel)) (fun _ _ _ _ _ => (pg_name (i := 4) sc__law_states.nd rfl (Or.inl rfl))) (fun _ _ _ _ _ => pts_nil) (fun _ _ _ _ _ => (pe_tup (pa_cons (pv 2) (pa_cons (pv 4) pa_nil)))))))))
      (pss_one (ps_ret (pv 1))))), ?_⟩
    obtain ⟨vs, ha, pr⟩ := id hh
    have hn := plen pr
    have h6 := sz.len
    refine ⟨Nat.zero_le _, fun F nF => ?_⟩
    have s0 := sm_new (o := .lst []) nF
    refine ⟨_, rfl, a, vs, rfl, sqT (s0 _ _ ha), for_it (walk_enumT (xs := vs)) (fun i σ H' => Same H H' ∧ ∃ (G : Addr) (ws : List V) (L : List (Nat × Nat)) (y2 y3 : Option V), σ = [some (.ref a), some (.ref G), y2, y3, none] ∧ H G = none ∧ H' G = some (.lst ws) ∧ Paired (StI H') ws L ∧ StUp R i 0 L)
      ⟨s0, F, [], [], none, none, rfl, nF, upd_same, .nil, .start R⟩ (fun i σ H' _ z => sqT (z.1 _ _ ha)) ?_ ?_⟩
    · rintro i x σ H1 H2 hi ⟨s1, G, ws, L, y2, y3, rfl, nG, hG, pw, up⟩ ⟨t, x1, x2, rfl, nt, rfl, e1, e2⟩
      cases Option.some.inj e1
      obtain ⟨l, hlx, r, rfl, hr'⟩ := pgetL pr e2
      have el := row_of hlx
      have h60 := sz.row i
      rw [el] at h60
      have hc : cz l ≤ l.length := List.count_le_length
      have hc2 : l.count 0 = cz l := rfl
      refine ⟨t, _, rfl, sqT upd_same, rfl, _, _, rfl, _, _, rfl, rfl, ?_⟩
      have s2 : Same H1 (upd H1 t (.tup [.int (i : Int), .ref r])) := sm_new nt
      have hG2 := s2 _ _ hG
      have pw2 := pimp pw fun _ _ y => StI.im y (im s2)
      have s02 := s1.trans s2
      generalize upd H1 t (.tup [.int (i : Int), .ref r]) = H2 at s2 hG2 pw2 s02 ⊢
      have rv := hr'.same s02
      have lw : ws.length ≤ 700 := by rw [plen pw]; have := up.len; omega
      refine ⟨_, rfl, _, rfl, r, l, rfl, rv, 0, rfl, rv, _, 2, rfl, rfl, _, rfl, by omega, by omega, fun B nB => any_it walk_range0 (fun j H' => ∃ us M, Acc H2 B H' us ∧ Paired (StI H') us M ∧ StUp R i j (L ++ M) ∧ us.length ≤ j) ⟨[], [], Acc.start nB, .nil, by rw [List.append_nil]; exact up, Nat.le_refl _⟩ (fun _ _ _ _ => trivial) ?_ ?_⟩
      · rintro j x H3 H4 hj ⟨us, M, z, pu, up2, lu⟩ ⟨rfl, rfl⟩
        refine ⟨rfl, _, rfl, _, rfl, (by show 2 ≤ sizeLine; decide), fun t3 nt3 => ?_⟩
        have z3 := z.new (o := .tup [.int (i : Int), .int (j : Int)]) nt3
        refine ⟨us, z3.2, small1000 (by omega), _, M ++ [(i, j)], z3.more nB _, psnoc (pimp pu fun _ _ y => StI.im (StI.im y (im_new nt3)) z3.im) ?_, by rw [← List.append_assoc]; exact up2.step, by rw [List.length_append, List.length_singleton]; omega⟩
        exact TupI.im (ns := [(i : Int), (j : Int)]) ⟨t3, rfl, upd_same⟩ z3.im
      · rintro H3 ⟨us, M, z, pu, up2, lu⟩
        have hj : (((l.count 0 : Nat) : Int) + 2).toNat = cz (row R i) + 2 := by rw [el]; omega
        rw [hj] at up2 lu
        refine ⟨G, B, ws, us, rfl, rfl, z.1 _ _ hG2, z.2, small63 (by rw [el] at lu; omega), fun G2 nG2 => ?_⟩
        have pw3 := pimp pw2 fun _ _ y => StI.im y (im z.1)
        refine ⟨sm_fresh (s02.trans z.1) nG2, G2, ws ++ us, L ++ M, _, _, rfl, (s02.trans z.1).free nG2, upd_same, ?_, StUp.row up2 rfl (sz.row i)⟩
        have := pappend pw3 pu
        exact pimp this fun _ _ y => StI.im y (im_new nG2)
    · rintro σ H1 ⟨s1, G, ws, L, y2, y3, rfl, nG, hG, pw, up⟩
      have en : vs.length = R.length := hn
      rw [en] at up
      refine ⟨_, rfl, q H1 G ws L s1 nG hG pw up.all ?_⟩
      have := up.len
      omega
abbrev s__law_kept : Stmt := topS 42
theorem sc__law_kept : FnScope ["_law_rows", "_law_state"] ["_law_rows"] (defScope s__law_kept) := ⟨rfl, rfl, rfl, by decide +kernel, rfl, by decide +kernel, by decide +kernel⟩
def spKept : Sp := fun vs H Q _ => ∃ a R, vs = [.ref a] ∧ HistAt H a R ∧ Sz R ∧ ∀ H' D vs L, Same H H' → H D = none → H' D = some (.lst vs) → Paired (StI H') vs L → (∀ p n, (p, n) ∈ L → Kept R p n) → L ≠ [] → L.length ≤ 700 → Q (.ref D) H'
theorem c_law_kept (T : Txt mg) (D : Dn K mg "_law_kept" s__law_kept ["_law_rows"]) (c_law_states : Cal P w K mg base 1 "_law_states" ["_law_rows"] spStates) : Cal P w K mg base 2 "_law_kept" ["_law_rows"] spKept := by
  refine D.cal sc__law_kept (fun vs H Q E h => ?_) (fun f cdv A outer s H vs Q E hr h => ?_)
  · obtain ⟨a, R, rfl, _⟩ := h
    rfl
  · obtain ⟨a, R, rfl, hh, sz, q⟩ := h
    have hu := hu_of hr
    refine ⟨_, (pss_one (ps_ret (pe_lc (own := [("_law_state", 1)]) (g := (gName 1)) rfl sc__law_kept.nd (pi_list (pe_cal c_law_states (hr.mono (by decide)) (pa_cons (pv 0) pa_nil))) (blkOk_by (N := ["_law_rows", "_law_state"]) (sc := defScope s__law_kept) (by decide +kernel)) (fun _ _ _ _ _ => (pg_name (i := 1) sc__law_kept.nd rfl (Or.inl rfl))) (fun _ _ _ _ _ => (pts_one (pt_cmpR op_le (pe_ix (ix_tupK (K := K)) (pv 1) pe_int (fun _ _ => rfl)) (pe_tcount (pe_ix (ix_tupK (K := K)) (pv 0) (pe_ix (ix_tupK (K := K)) (pv 1) pe_int (fun _ _ => rfl)) (fun _ _ => rfl)) pe_int) (nomark _)))) (fun _ _ _ _ _ => (pv 1))))), ?_⟩
    refine ⟨_, rfl, a, R, rfl, hh, sz, fun H1 S ws L s1 nS hS pw mem lL => ?_⟩
    have lws := plen pw
    refine ⟨S, rfl, ⟨_, sqL hS⟩, fun F nF => any_it (walk_list (xs := ws)) (fun i H' => ∃ us M, Acc H1 F H' us ∧ Paired (StI H') us M ∧ us.length ≤ i ∧ (∀ p n, (p, n) ∈ M → Kept R p n) ∧ ∀ j p n, j < i → L[j]? = some (p, n) → Kept R p n → (p, n) ∈ M)
      ⟨[], [], Acc.start nF, .nil, Nat.le_refl _, fun p n h => (by simp at h), fun j p n hj => (by omega)⟩ (fun i H' _ z => let ⟨_, _, z, _⟩ := z; sqL (z.1 _ _ hS)) ?_ ?_⟩
    · rintro i x H2 H3 hi ⟨us, M, z, pu, lu, kp, cp⟩ ⟨rfl, hx⟩
      obtain ⟨⟨p, n⟩, hm, t, rfl, ht⟩ := pgetL pw hx
      have hst : IsState R p n := (mem p n).mp (List.mem_of_getElem? hm)
      have s12 := s1.trans z.1
      obtain ⟨vs, r, ha, hl, hv, hrow⟩ := hh.row hst.1
      have ht2 := z.1 _ _ ht
      have rv := hrow.same s12
      have nextc : ∀ M' : List (Nat × Nat), (∀ y, y ∈ M → y ∈ M') → (Kept R p n → (p, n) ∈ M') → ∀ j p n, j < i + 1 → L[j]? = some (p, n) → Kept R p n → (p, n) ∈ M' := fun M' h1 h2 j p' n' hj hm' hk => by
        by_cases c : j < i
        · exact h1 _ (cp j p' n' c hm' hk)
        · have : j = i := by omega
          subst this
          rw [hm] at hm'
          cases hm'
          exact h2 hk
      refine ⟨rfl, _, rfl, t, _, 1, _, rfl, rfl, sqT ht2, at1, _, rfl, _, rfl, t, _, 0, _, rfl, rfl, sqT ht2, at0, a, vs, p, _, rfl, rfl, sqT (s12 _ _ ha), atI_nat hv, r, row R p, rfl, rv, 0, rfl, rv, _, _, rfl, rfl, _, rfl, ite2 (fun c => ?_) (fun c => ?_)⟩
      · have c1 : (n : Int) ≤ ((row R p).count 0 : Nat) := of_decide_eq_true c
        have hk : Kept R p n := ⟨hst.1, by unfold cz; omega⟩
        refine ⟨_, rfl, us, z.2, small1000 (by omega), _, M ++ [(p, n)], z.more nF _, psnoc (pimp pu fun _ _ y => StI.im y z.im) (StI.im ⟨t, rfl, ht2⟩ z.im), by rw [List.length_append, List.length_singleton]; omega, fun p' n' h => ?_, nextc _ (fun y hy => List.mem_append_left _ hy) (fun _ => by simp)⟩
        rcases List.mem_append.mp h with h | h
        · exact kp p' n' h
        · rw [List.mem_singleton] at h
          cases h
          exact hk
      · have c1 : ¬ (n : Int) ≤ ((row R p).count 0 : Nat) := fun y => c (decide_eq_true y)
        refine ⟨us, M, z, pu, by omega, kp, nextc _ (fun y hy => hy) (fun hk => ?_)⟩
        have := hk.2
        unfold cz at this
        omega
    · rintro H2 ⟨us, M, z, pu, lu, kp, cp⟩
      have k00 : Kept R 0 0 := ⟨sz.pos, Nat.zero_le _⟩
      obtain ⟨j, hj⟩ := List.mem_iff_getElem?.mp ((mem 0 0).mpr k00.state)
      have h00 := cp j 0 0 (by have := lt_of hj; omega) hj k00
      exact q H2 F us M (s1.trans z.1) (s1.free nF) z.2 pu kp (List.ne_nil_of_mem h00) (by rw [← plen pu]; omega)
end
end K57

/-! ## KD15 -/
namespace K57
open PySem PySem.Spec PyProof.Rows L2
/-! ### tuples of ints as data -/
theorem dp_ints {K : PySem.W.Frag} {H : Hp} : ∀ ns : List Int, DpAll K H (ns.map V.int) (ns.map PyData.int)
  | [] => .nil
  | n :: r => .cons (.int n) (dp_ints r)
theorem dp_tup {K : PySem.W.Frag} {H : Hp} {t : Addr} {ns : List Int} (h : H t = some (.tup (ns.map V.int))) : Dp K H (.ref t) (.tuple (ns.map PyData.int)) := .tup (sqT h) (dp_ints ns)
theorem shaped_ints (ns : List Int) : SeqAt.shaped (.tuple (ns.map PyData.int)) = true := by
  simp [SeqAt.shaped, PyData.canLay0, PyData.depth, PySem.W.ke_canLayAll0, PySem.W.ke_depthAll]
theorem eqvAll_int : ∀ ns ms : List Int, PyData.eqvAll (ns.map PyData.int) (ms.map PyData.int) = decide (ns = ms)
  | [], [] => by simp [PyData.eqvAll]
  | [], _ :: _ => by simp [PyData.eqvAll]
  | _ :: _, [] => by simp [PyData.eqvAll]
  | a :: r, b :: t => by
    simp only [List.map_cons, PyData.eqvAll, PyData.eqv, eqvAll_int r t]
    by_cases h : a = b <;> by_cases h' : r = t <;> simp [h, h']
theorem eqv_ints (ns ms : List Int) : PyData.eqv (.tuple (ns.map PyData.int)) (.tuple (ms.map PyData.int)) = decide (ns = ms) := by
  rw [PyData.eqv]
  exact eqvAll_int ns ms
/-- row + (event,) -/
theorem cat_row {K : PySem.W.Frag} {H : Hp} {r t2 : Addr} {l : List Int} {e : Int} (rv : RowV H r (l.map V.int)) (re : RowV H t2 ([e].map V.int)) (hl : l.length ≤ 100) {Q : VK} (q : ∀ H' u, Same H H' → RowI H' u (l ++ [e]) → Q u H') : rCatF K (.ref r) (.ref t2) H Q := by
  refine ⟨r, t2, l.map V.int, [e].map V.int, rfl, rfl, rv.sq, re.sq, by rw [List.length_map]; exact small63 (by simp; omega), by simp, fun l0 => ?_, fun l0 t3 o3 nt3 d3 => ?_⟩
  · have l1 : l = [] := List.map_eq_nil_iff.mp l0
    subst l1
    exact q H _ (Same.refl H) ⟨t2, rfl, re⟩
  · have e4 : l.map V.int ++ [e].map V.int = (l ++ [e]).map V.int := by rw [List.map_append]
    exact q _ _ (sm_new nt3) ⟨t3, rfl, o3, by rw [upd_same, e4], d3⟩
theorem reps_eq (n : Nat) (v : V) : (List.replicate ((n : Nat) : Int).toNat [v]).flatten = List.replicate n v := by
  rw [Int.toNat_natCast]
  induction n with
  | zero => rfl
  | succ m ih => rw [List.replicate_succ, List.replicate_succ, List.flatten_cons, ih]; rfl
theorem prep {α β : Type} {F : α → β → Prop} {a : α} {b : β} (h : F a b) : ∀ n, Paired F (List.replicate n a) (List.replicate n b)
  | 0 => .nil
  | n + 1 => .cons h (prep h n)
section
variable {P : Program} {w : World} {K : PySem.W.Frag} {mg : Str → Option Value} {base : Heap}
/-! ### _law_begun -/
abbrev s__law_begun : Stmt := topS 41
theorem sc__law_begun : FnScope ["_law_rows", "_law_many", "_law_found", "_law_process", "_law_event"] ["_law_rows", "_law_many"] (defScope s__law_begun) := ⟨rfl, rfl, rfl, by decide +kernel, rfl, by decide +kernel, by decide +kernel⟩
def spBegun : Sp := fun vs H Q _ => ∃ (a : Addr) (R : Rows) (m : Nat), vs = [.ref a, .int (m : Int)] ∧ HistAt H a R ∧ Good R ∧ Sz R ∧ ∀ H' t S, Same H H' → HistAt H' t S → Pre S R → Sz S → Q (.ref t) H'
theorem c_law_begun (T : Txt mg) (D : Dn K mg "_law_begun" s__law_begun ["_law_rows", "_law_many"]) (c_some_order : CalG P w K mg base 2 "some_order" ["history"] spOrder) : Cal P w K mg base 6 "_law_begun" ["_law_rows", "_law_many"] spBegun := by
  refine D.cal sc__law_begun (fun vs H Q E h => ?_) (fun f cdv A outer s H vs Q E hr h => ?_)
  · obtain ⟨a, R, m, rfl, _⟩ := h
    rfl
  · obtain ⟨a, R, m, rfl, hh, g, sz, q⟩ := h
    have hu := hu_of hr
    refine ⟨_, (pss_cons (ps_set (i := 2) sc__law_begun.nd rfl (Or.inl rfl) (pe_op op_rep (pe_lst (pa_cons (pe_tupF pa_nil) pa_nil)) (pe_callB call_len_seq (by rfl) T.len PySem.boot_len (pa_cons (pv 0) pa_nil))))
      (pss_cons (ps_for PassesOwn.never rfl (pi_list (pe_slice sl_list (pe_lsome c_some_order (hr.mono (by decide)) T.list (pa_cons (pv 0) pa_nil)) po_none (po_some (pv 1)))) (pg_tup rfl (pgs_cons (pg_name (i := 3) sc__law_begun.nd rfl (Or.inl rfl)) (pgs_cons (pg_name (i := 4) sc__law_begun.nd rfl (Or.inl rfl)) pgs_nil))) (pss_one (ps_asg (pe_op op_catF (pe_ix ix_list (pv 2) (pv 3) (fun _ _ => rfl)) (pe_tupF (pa_cons (pv 4) pa_nil))) (pg_sub (pv 2) (pv 3) set_list))))
      (pss_one (ps_ret (pe_callTy call_tuple_of (by rfl) T.tuple (by decide +kernel) (pa_cons (pv 2) pa_nil)))))), ?_⟩
    obtain ⟨vs, ha, pr⟩ := id hh
    have hn := plen pr
    have h6 := sz.len
    -- found = [()] * len(rows)
    refine ⟨Nat.zero_le _, fun t0 o0 nt0 d0 => ⟨Nat.succ_le_of_lt (by decide), fun l0 n0 => ?_⟩⟩
    have s0 := sm_fresh (o := .lst [.ref t0]) (sm_new (o := .frz o0 (.tup [])) nt0) n0
    have r0 : RowI (upd (upd H t0 (.frz o0 (.tup []))) l0 (.lst [.ref t0])) (.ref t0) [] := ⟨t0, rfl, o0, keep_new upd_same n0, d0⟩
    refine ⟨.ref a, rfl, a, vs, rfl, .inr (sqT (s0 _ _ ha)), l0, _, _, rfl, rfl, upd_same, by omega, by omega, by simp; exact small63 (by omega), fun F nF => ?_⟩
    rw [reps_eq]
    have s1 := sm_fresh (o := .lst (List.replicate vs.length (.ref t0))) s0 nF
    have nF0 := s0.free nF
    have rows0 : Paired (RowI (upd (upd (upd H t0 (.frz o0 (.tup []))) l0 (.lst [.ref t0])) F (.lst (List.replicate vs.length (.ref t0))))) (List.replicate vs.length (.ref t0)) (begun R.length []) := by
      rw [begun_nil, hn]
      exact prep (r0.im (im_new nF)) _
    have hF1 : (upd (upd (upd H t0 (.frz o0 (.tup []))) l0 (.lst [.ref t0])) F (.lst (List.replicate vs.length (.ref t0)))) F = some (.lst (List.replicate vs.length (.ref t0))) := upd_same
    generalize upd (upd (upd H t0 (.frz o0 (.tup []))) l0 (.lst [.ref t0])) F (.lst (List.replicate vs.length (.ref t0))) = H1 at s1 rows0 hF1 ⊢
    -- list(some_order(rows))[:many]
    refine ⟨_, rfl, a, R, rfl, hh.im (im s1), g, sz, fun out ws H2 s2 ord full po => fun p np => ?_⟩
    refine ⟨_, rfl, m, rfl, p, ws, rfl, sqL upd_same, fun S nS => ?_⟩
    rw [cutV_take]
    have s12 := sm_fresh (o := .lst (ws.take m)) (sm_fresh (o := .lst ws) s2 np) nS
    have s02 := s1.trans s12
    have po2 := pimp po fun _ _ y => TupI.im y ((im_new (o := .lst ws) np).trans (im_new (o := .lst (ws.take m)) nS))
    have nSH := s1.free (s2.free ((sm_new (o := .lst ws) np).free nS))
    have hS2 : (upd (upd H2 p (.lst ws)) S (.lst (ws.take m))) S = some (.lst (ws.take m)) := upd_same
    have hF2 := s12 _ _ hF1
    have rows2 := pimp rows0 fun _ _ y => RowI.im y (im s12)
    have nFS : F ≠ S := fun z => by
      subst z
      have := (sm_new (o := .lst ws) np).free nS
      rw [s2 _ _ hF1] at this
      cases this
    generalize upd (upd H2 p (.lst ws)) S (.lst (ws.take m)) = H3 at s12 s02 po2 hS2 hF2 rows2 ⊢
    have h60 : ∀ q, (row R q).length ≤ 60 := sz.row
    refine ⟨S, rfl, ⟨_, sqL hS2⟩, for_it (walk_list (xs := ws.take m)) (fun i σ H' => Same H H' ∧ H' S = some (.lst (ws.take m)) ∧ Paired (OI H') ws out ∧ ∃ (us : List V) (y3 y4 : Option V), σ = [some (.ref a), some (.int (m : Int)), some (.ref F), y3, y4] ∧ H' F = some (.lst us) ∧ Paired (RowI H') us (begun R.length (out.take i)))
      ⟨s02, hS2, po2, _, none, none, rfl, hF2, rows2⟩ (fun i σ H' _ z => sqL z.2.1) ?_ ?_⟩
    · rintro i x σ H4 H5 hi ⟨s4, hS4, po4, us, y3, y4, rfl, hF4, rows4⟩ ⟨rfl, hx⟩
      rw [List.length_take] at hi
      rw [List.getElem?_take_of_lt (by omega)] at hx
      obtain ⟨⟨p, e⟩, hm, t, rfl, ht⟩ := pgetL po4 hx
      have hp : p < R.length := ord.lt _ (List.mem_of_getElem? hm)
      have hpb : p < (begun R.length (out.take i)).length := by rw [begun_len]; exact hp
      obtain ⟨u0, hu0', r, rfl, rv⟩ := pget rows4 (row_at hpb)
      have hrl : (row (begun R.length (out.take i)) p).length ≤ 60 := by
        rw [row_begun hp]
        exact Nat.le_trans ((ord.take i).le p) (h60 p)
      refine ⟨t, _, rfl, sqT ht, rfl, _, _, rfl, _, _, rfl, rfl, ?_⟩
      refine ⟨_, rfl, _, rfl, F, us, p, .ref r, rfl, rfl, sqL hF4, atI_nat hu0', _, rfl, Nat.succ_le_of_lt (by decide), fun t2 o2 nt2 d2 => ?_⟩
      have sA : Same H5 (upd H5 t2 (.frz o2 (.tup [.int e]))) := sm_new nt2
      refine cat_row (rv.same sA) ⟨o2, upd_same, d2⟩ (by omega) fun H6 u s6 ru => ?_
      have s56 := sA.trans s6
      have hF6 := s56 _ _ hF4
      refine ⟨_, rfl, _, rfl, F, us, p, p, rfl, rfl, hF6, by rw [plen rows4, begun_len]; exact ix_at hp, ?_⟩
      have i6 := (im s56).trans (im_lst (o := .lst (us.set p u)) hF6)
      refine ⟨sm_own (s4.trans s56) nF0, by rw [upd_ne nFS.symm]; exact s56 _ _ hS4, pimp po4 fun _ _ y => TupI.im y i6, _, _, _, rfl, upd_same, ?_⟩
      rw [take_one hm, begun_snoc hp]
      exact pset (pimp rows4 fun _ _ y => RowI.im y i6) (ru.im (im_lst hF6)) p
    · rintro σ H4 ⟨s4, hS4, po4, us, y3, y4, rfl, hF4, rows4⟩
      refine ⟨_, rfl, F, us, rfl, .inl ⟨sqL hF4, fun t nt => ?_⟩⟩
      have ord' := ord.take (ws.take m).length
      have pre := ord'.begun
      refine q _ t _ (sm_fresh s4 nt) ⟨us, upd_same, pimp rows4 fun _ _ y => RowI.im y (im_new nt)⟩ pre ⟨by rw [begun_len]; exact sz.pos, by rw [begun_len]; exact sz.len, Nat.le_trans (total_le (begun_len _ _) pre.le) sz.tot⟩
/-! ### _law_same_right -/
abbrev s__law_same_right : Stmt := topS 43
theorem sc__law_same_right : FnScope ["_law_deck_here", "_law_rows", "_law_longer", "_law_states_here", "_law_state", "_law_other", "_law_comes"] ["_law_deck_here", "_law_rows", "_law_longer"] (defScope s__law_same_right) := ⟨rfl, rfl, rfl, by decide +kernel, rfl, by decide +kernel, by decide +kernel⟩
def spSame : Sp := fun vs H Q _ => ∃ (D C : Addr) (b : Nat) (a c : Addr) (S L : Rows), vs = [.ref D, .ref a, .ref c] ∧ Deck H D C b ∧ b + 1000 ≤ 1000000 ∧ HistAt H a S ∧ HistAt H c L ∧ Pre S L ∧ Good L ∧ Sz S ∧ Sz L ∧ ∀ H' b', Fr D C H H' → Deck H' D C b' → b' ≤ b + 700 → Q (.bl true) H'
theorem c_law_same_right (T : Txt mg) (D : Dn K mg "_law_same_right" s__law_same_right ["_law_deck_here", "_law_rows", "_law_longer"]) (c_law_kept : Cal P w K mg base 2 "_law_kept" ["_law_rows"] spKept) (c_vector_of : Cal P w K mg base 5 "vector_of" ["history", "state"] spVec)
    (c_law_one : Cal P w K mg base 2 "_law_one" ["_law_deck_here", "_law_some"] spOne) (c_comes_before : Cal P w K mg base 6 "comes_before" ["history", "one", "other"] spComes) (c_find_zigzag : Cal P w K mg base 4 "find_zigzag" ["history", "one", "other"] spZig)
    (c_is_tracked : Cal P w K mg base 7 "is_tracked" ["history"] spTracked) : Cal P w K mg base 8 "_law_same_right" ["_law_deck_here", "_law_rows", "_law_longer"] spSame := by
  refine D.cal sc__law_same_right (fun vs H Q E h => ?_) (fun f cdv A outer s H vs Q E hr h => ?_)
  · obtain ⟨D, C, b, a, c, S, L, rfl, _⟩ := h
    rfl
  · obtain ⟨D, C, b, a, c, S, L, rfl, dk, hb, hhS, hhL, pre, gL, szS, szL, q⟩ := h
    have hu := hu_of hr
    have gS := pre.good gL
    refine ⟨_, (pss_cons (ps_set (i := 3) sc__law_same_right.nd rfl (Or.inl rfl) (pe_cal c_law_kept (hr.mono (by decide)) (pa_cons (pv 1) pa_nil)))
      (pss_cons (ps_for PassesOwn.never rfl (pi_list (pv 3)) (pg_name (i := 4) sc__law_same_right.nd rfl (Or.inl rfl)) (pss_cons (ps_if (pt_cmpR (op_neD hr.units) (pe_cal c_vector_of (hr.mono (by decide)) (pa_cons (pv 1) (pa_cons (pv 4) pa_nil))) (pe_cal c_vector_of (hr.mono (by decide)) (pa_cons (pv 2) (pa_cons (pv 4) pa_nil))) (nomark _)) (pss_one (ps_ret pe_bl)) pss_nil)
      (pss_cons (ps_set (i := 5) sc__law_same_right.nd rfl (Or.inl rfl) (pe_cal c_law_one (hr.mono (by decide)) (pa_cons (pv 0) (pa_cons (pv 3) pa_nil))))
      (pss_cons (ps_set (i := 6) sc__law_same_right.nd rfl (Or.inl rfl) (pe_cal c_comes_before (hr.mono (by decide)) (pa_cons (pv 1) (pa_cons (pv 4) (pa_cons (pv 5) pa_nil)))))
      (pss_cons (ps_if (pt_cmpR op_ne (pv 6) (pe_cal c_comes_before (hr.mono (by decide)) (pa_cons (pv 2) (pa_cons (pv 4) (pa_cons (pv 5) pa_nil)))) (nomark _)) (pss_one (ps_ret pe_bl)) pss_nil)
      (pss_one (ps_if (PW.pt (pw_and (pt_cmpR op_notN (pe_cal c_find_zigzag (hr.mono (by decide)) (pa_cons (pv 1) (pa_cons (pv 4) (pa_cons (pv 5) pa_nil)))) pe_non (nomark _)) (pw_and (pt_not (pt_val (pv 6))) (pw_and1 (pt_val (pe_cal c_is_tracked (hr.mono (by decide)) (pa_cons (pv 2) pa_nil))))))) (pss_one (ps_ret pe_bl)) pss_nil)))))))
      (pss_one (ps_ret pe_bl)))), ?_⟩
    refine ⟨_, rfl, a, S, rfl, hhS, szS, fun H1 F ws Ls s1 nF hF pw kept ne lL => ?_⟩
    have dk1 := dk.same s1
    have nFD := dk.neD nF
    have lws := plen pw
    have wne : ws ≠ [] := fun z => by
      subst z
      rw [List.length_nil] at lws
      exact ne (List.length_eq_zero_iff.mp lws.symm)
    have i1 := im s1
    refine ⟨_, rfl, F, rfl, ⟨ws, sqL hF⟩, for_it (walk_list (xs := ws)) (fun i σ H' => Fr D C H1 H' ∧ (∃ b', Deck H' D C b' ∧ b' ≤ b + i) ∧ ∃ y4 y5 y6, σ = [some (.ref D), some (.ref a), some (.ref c), some (.ref F), y4, y5, y6])
      ⟨Fr.refl _, ⟨b, dk1, Nat.le_refl _⟩, none, none, none, rfl⟩ (fun i σ H' _ z => sqL (z.1 _ _ hF nFD.1 nFD.2)) ?_ ?_⟩
    · rintro i x σ H2 H3 hi ⟨f2, ⟨b2, d2, hb2⟩, y4, y5, y6, rfl⟩ ⟨rfl, hx⟩
      obtain ⟨⟨p, n⟩, hm, hst⟩ := pgetL pw hx
      have kp := kept p n (List.mem_of_getElem? hm)
      have hpL : p < L.length := by rw [← pre.len]; exact kp.1
      have i2 := f2.im dk1
      have hF2 := f2 _ _ hF nFD.1 nFD.2
      have st2 := hst.im i2
      have a2 := (hhS.im i1).im i2
      have c2 := (hhL.im i1).im i2
      refine ⟨_, rfl, _, rfl, a, S, x, p, n, rfl, a2, gS, szS, st2, kp.1, fun H3 t3 v3 s3 nt3 ht3 past3 => ?_⟩
      refine ⟨_, rfl, _, rfl, c, L, x, p, n, rfl, c2.im (im s3), gL, szL, st2.im (im s3), hpL, fun H4 t4 v4 s4 nt4 ht4 past4 => ?_⟩
      -- the vectors are the same
      have vv : v3 = v4 := (past3.pre gL pre kp.2).one past4
      have ev : vec S v3 p n = vec L v4 p n := by rw [← vv]; exact vec_pre pre past3.bound p n
      refine ⟨_, _, dp_tup (s4 _ _ ht3), dp_tup ht4, shaped_ints _, shaped_ints _, _, rfl, ?_⟩
      rw [ev, eqv_ints, decide_eq_true rfl]
      have s24 := s3.trans s4
      have d4 := d2.same s24
      -- another state
      refine ⟨_, rfl, _, rfl, D, C, b2, F, ws, rfl, d4, by omega, s24 _ _ hF2, nFD.1, nFD.2, wne, by omega, fun H5 y b5 f5 d5 hb5 hy => ?_⟩
      obtain ⟨⟨qq, k⟩, hm2, hst2⟩ := pmem pw hy
      have kq := kept qq k hm2
      have hqL : qq < L.length := by rw [← pre.len]; exact kq.1
      have i5 := (i2.trans (im s24)).trans (f5.im d4)
      have st5 := hst.im i5
      have sy5 := hst2.im i5
      have a5 := (hhS.im i1).im i5
      have c5 := (hhL.im i1).im i5
      refine ⟨_, rfl, _, rfl, _, rfl, a, S, x, y, p, n, qq, k, rfl, a5, gS, szS, st5, sy5, kp.1, kq.1, fun H6 v6 s6 past6 => ?_⟩
      have i6 := im s6
      refine ⟨_, rfl, _, rfl, _, rfl, _, rfl, c, L, x, y, p, n, qq, k, rfl, c5.im i6, gL, szL, st5.im i6, sy5.im i6, hpL, hqL, fun H7 v7 s7 past7 => ?_⟩
      have vv2 : v6 = v7 := (past6.pre gL pre kq.2).one past7
      have ev2 : vec S v6 qq k = vec L v7 qq k := by rw [← vv2]; exact vec_pre pre past6.bound qq k
      refine ⟨rfl, _, rfl, ?_⟩
      refine iteNS (by rw [ev2]) ?_
      -- a zigzag, not before, tracked: not all three
      have s67 := s6.trans s7
      have i67 := im s67
      have f7 : ∀ {H8}, Same H7 H8 → Fr D C H1 H8 := fun {H8} s8 => ((f2.trans (Fr.of s24)).trans f5).trans (Fr.of (s67.trans s8))
      have d7 : ∀ {H8}, Same H7 H8 → Deck H8 D C b5 := fun {H8} s8 => d5.same (s67.trans s8)
      refine ⟨_, rfl, _, rfl, _, rfl, a, S, x, y, p, n, qq, k, rfl, a5.im i67, gS, szS, st5.im i67, sy5.im i67, fun H8 s8 => ⟨rfl, _, rfl, ?_⟩, fun H8 t8 s8 ⟨bz, hz, hbz⟩ => ⟨rfl, _, rfl, ?_⟩⟩
      · refine iteNS rfl ?_
        exact ⟨f7 s8, ⟨b5, d7 s8, by omega⟩, _, _, _, rfl⟩
      · refine ⟨_, rfl, _, rfl, ?_⟩
        by_cases hc : n < (vec S v6 qq k).getD p 0
        · rw [decide_eq_true hc]
          exact ⟨f7 s8, ⟨b5, d7 s8, by omega⟩, _, _, _, rfl⟩
        · rw [decide_eq_false hc]
          refine ⟨_, rfl, c, L, rfl, (c5.im i67).im (im s8), gL, szL, fun H9 bt s9 ht => ⟨bt, rfl, ?_⟩⟩
          cases bt with
          | true => exact absurd (ht rfl) (not_tracked gL pre kp kq hz hbz past6 hc)
          | false => exact ⟨f7 (s8.trans s9), ⟨b5, d7 (s8.trans s9), by omega⟩, _, _, _, rfl⟩
    · rintro σ H2 ⟨f2, ⟨b2, d2, hb2⟩, y4, y5, y6, rfl⟩
      exact q H2 b2 ((Fr.of s1).trans f2) d2 (by omega)
end
end K57

/-! ## KD16 -/
namespace K57
open PySem PySem.Spec PyProof.Rows L2
/-! ### the list of the open messages, as data -/
def enc (z : Int × Nat) : PyData := .tuple [.int z.1, .int (z.2 : Int)]
def OpI (H : Hp) (v : V) (z : Int × Nat) : Prop := TupI H v [z.1, (z.2 : Int)]
theorem eqv_enc (y z : Int × Nat) : PyData.eqv (enc y) (enc z) = decide (y = z) := by
  obtain ⟨a, b⟩ := y
  obtain ⟨c, d⟩ := z
  unfold enc
  simp only [PyData.eqv, PyData.eqvAll]
  by_cases h1 : a = c
  · by_cases h2 : b = d
    · simp [h1, h2]
    · have : ¬ ((b : Int) = (d : Int)) := by omega
      simp [h1, h2, this]
  · simp [h1]
theorem place_enc : ∀ {l : List (Int × Nat)}, l.Nodup → ∀ {j : Nat} {z : Int × Nat}, l[j]? = some z → (l.map enc).findIdx? (fun y => PyData.eqv y (enc z)) = some j
  | [], _, j, z, h => by simp at h
  | x :: r, nd, 0, z, h => by
    cases Option.some.inj h
    rw [List.map_cons, List.findIdx?_cons, eqv_enc]
    simp
  | x :: r, nd, j + 1, z, h => by
    have hz : r[j]? = some z := by simpa using h
    have hne : x ≠ z := fun e => by
      subst e
      exact (List.nodup_cons.mp nd).1 (List.mem_of_getElem? hz)
    rw [List.map_cons, List.findIdx?_cons, eqv_enc, place_enc (List.nodup_cons.mp nd).2 hz]
    simp [hne]
theorem plain_enc : ∀ l : List (Int × Nat), PyData.plainAll (l.map enc) = true
  | [] => rfl
  | x :: r => by
    rw [List.map_cons, PyData.plainAll, plain_enc r]
    rfl
theorem dp_enc {K : PySem.W.Frag} {H : Hp} {v : V} {z : Int × Nat} (h : OpI H v z) : Dp K H v (enc z) := by
  obtain ⟨t, rfl, ht⟩ := h
  exact .tup (sqT ht) (.cons (.int _) (.cons (.int _) .nil))
theorem dp_encs {K : PySem.W.Frag} {H : Hp} : ∀ {vs : List V} {l : List (Int × Nat)}, Paired (OpI H) vs l → DpAll K H vs (l.map enc)
  | _, _, .nil => .nil
  | _, _, .cons h r => .cons (dp_enc h) (dp_encs r)
/-- rows[process] = rows[process] + (event,) -/
theorem cat_stmt {K : PySem.W.Frag} {D : Ends} {σ : L2.St} {H : Hp} {F : Addr} {us : List V} {R : Rows} {p : Nat} {e : Int} (h5 : σ[5]? = some (some (.ref F))) (h9 : σ[9]? = some (some (.int (p : Int)))) (h13 : σ[13]? = some (some (.int e))) (hF : H F = some (.lst us))
    (pr : Paired (RowI H) us R) (hp : p < R.length) (hl : (row R p).length ≤ 100) (next : ∀ H1 u, Same H H1 → RowI H1 u (row R p ++ [e]) → D.nx σ (upd H1 F (.lst (us.set p u)))) :
    tAsg (tOp (rCatF K) (tOp (rIxL K) (tVar 5) (tVar 9)) (tTupF (tCons (tVar 13) tNil))) (gSub (tVar 5) (tVar 9) rSetL) D σ H := by
  obtain ⟨u0, hu0, r, rfl, rv⟩ := pget pr (row_at hp)
  refine ⟨_, h5, _, h9, F, us, p, .ref r, rfl, rfl, sqL hF, atI_nat hu0, _, h13, Nat.succ_le_of_lt (by decide), fun t2 o2 nt2 d2 => ?_⟩
  have sA : Same H (upd H t2 (.frz o2 (.tup [.int e]))) := sm_new nt2
  refine cat_row (rv.same sA) ⟨o2, upd_same, d2⟩ hl fun H6 u s6 ru => ?_
  have s56 := sA.trans s6
  exact ⟨_, h5, _, h9, F, us, p, p, rfl, rfl, s56 _ _ hF, by rw [plen pr]; exact ix_at hp, next _ u s56 ru⟩
/-- the state of the drawing between two turns -/
def HPv (D C : Addr) (b0 : Nat) (H : Hp) (n w : Nat) (Rw Lb O : Addr) (i : Nat) (σ : L2.St) (H' : Hp) : Prop :=
  ∃ (R : Rows) (ls : List Int) (op : List (Int × Nat)) (us os : List V) (b' : Nat) (y8 y9 y10 y11 y12 y13 : Option V),
    σ = [some (.ref D), some (.int 5), some (.int 30), some (.int (n : Int)), some (.int (w : Int)), some (.ref Rw), some (.ref Lb), some (.ref O), y8, y9, y10, y11, y12, y13] ∧
    Fr D C H H' ∧ Deck H' D C b' ∧ b' ≤ b0 + 4 * i ∧ H' Rw = some (.lst us) ∧ Paired (RowI H') us R ∧ H' Lb = some (.lst (ls.map V.int)) ∧ H' O = some (.lst os) ∧ Paired (OpI H') os op ∧
    HI R ls op ∧ R.length = n ∧ total R ≤ i ∧ ls.length ≤ 24 ∧ op.length ≤ i
section
variable {P : Program} {w : World} {K : PySem.W.Frag} {mg : Str → Option Value} {base : Heap}
/-! ### _law_history -/
abbrev s__law_history : Stmt := topS 39
theorem sc__law_history : FnScope ["_law_deck_here", "_law_people", "_law_most", "_law_count", "_law_way", "_law_rows", "_law_labels", "_law_open_ones", "_law_k", "_law_process", "_law_pair", "_law_ready", "_law_turn", "_law_event"] ["_law_deck_here", "_law_people", "_law_most"] (defScope s__law_history) := ⟨rfl, rfl, rfl, by decide +kernel, rfl, by decide +kernel, by decide +kernel⟩
def spHistory : Sp := fun vs H Q _ => ∃ (D C : Addr) (b : Nat), vs = [.ref D, .int 5, .int 30] ∧ Deck H D C b ∧ b + 2000 ≤ 1000000 ∧ ∀ H' t R b', Fr D C H H' → Deck H' D C b' → b' ≤ b + 500 → HistAt H' t R → Good R → 1 ≤ R.length → R.length ≤ 5 → total R ≤ 30 → Q (.ref t) H'
theorem c_law_history (T : Txt mg) (D : Dn K mg "_law_history" s__law_history ["_law_deck_here", "_law_people", "_law_most"]) (c_law_next : Cal P w K mg base 1 "_law_next" ["_law_deck_here", "_law_many"] spNext) (c_law_shuffled : Cal P w K mg base 2 "_law_shuffled" ["_law_deck_here", "_law_items"] spShuf) :
    Cal P w K mg base 3 "_law_history" ["_law_deck_here", "_law_people", "_law_most"] spHistory := by
  refine D.cal sc__law_history (fun vs H Q E h => ?_) (fun f cdv A outer s H vs Q E hr h => ?_)
  · obtain ⟨D, C, b, rfl, _⟩ := h
    rfl
  · obtain ⟨D, C, b, rfl, dk, hb, q⟩ := h
    have hu := hu_of hr
    have hu0 := Nat.lt_of_succ_lt hu
    have hu65 : (A.deeper (envOfC (Str.ofString "_law_history") (defScope s__law_history) s.heap.objs.size f cdv)).units + 65 < cLine := by have := hr.un; omega
    refine ⟨_, (pss_cons (ps_par (i := 3) (j := 4) rfl sc__law_history.nd rfl rfl (by decide) rfl rfl (pa_cons (pe_op op_add pe_int (pe_cal c_law_next (hr.mono (by decide)) (pa_cons (pv 0) (pa_cons (pv 1) pa_nil)))) (pa_cons (pe_cal c_law_next (hr.mono (by decide)) (pa_cons (pv 0) (pa_cons pe_int pa_nil))) pa_nil)) (by rfl))
      (pss_cons (ps_par3 (i := 5) (j := 6) (l := 7) rfl sc__law_history.nd rfl rfl rfl (by decide) (by decide) (by decide) rfl rfl rfl (pa_cons (pe_op op_rep (pe_lst (pa_cons (pe_tupF pa_nil) pa_nil)) (pv 3)) (pa_cons (pe_cal c_law_shuffled (hr.mono (by decide)) (pa_cons (pv 0) (pa_cons (pe_listRg rfl (by rfl) T.list (prg_2 (by rfl) T.range pe_int pe_int)) pa_nil))) (pa_cons (pe_lst pa_nil) pa_nil))) (by rfl))
      (pss_cons (ps_for PassesOwn.never rfl (pi_range1 rfl T.range (pa_cons (pe_cal c_law_next (hr.mono (by decide)) (pa_cons (pv 0) (pa_cons (pe_op op_add (pv 2) pe_int) pa_nil))) pa_nil)) (pg_name (i := 8) sc__law_history.nd rfl (Or.inl rfl)) (pss_cons (ps_set (i := 9) sc__law_history.nd rfl (Or.inr rfl) (pe_cal c_law_next (hr.mono (by decide)) (pa_cons (pv 0) (pa_cons (pv 3) pa_nil))))
      (pss_cons (ps_setLc (i := 11) (own := [("_law_pair", 10)]) (g := (gName 10)) rfl sc__law_history.nd rfl rfl (sw_true rfl rfl rfl (by decide +kernel)) (pi_list (pv 7)) (blkOk_by (N := ["_law_deck_here", "_law_people", "_law_most", "_law_count", "_law_way", "_law_rows", "_law_labels", "_law_open_ones", "_law_k", "_law_process", "_law_pair", "_law_ready", "_law_turn", "_law_event"]) (sc := defScope s__law_history) (by decide +kernel)) (fun _ _ _ _ _ => (pg_name (i := 10) sc__law_history.nd rfl (Or.inl rfl))) (fun _ _ _ _ _ => (pts_one (pt_cmpR op_ne (pe_ix (ix_tupK (K := K)) (pv 10) pe_int (fun _ _ => rfl)) (pv 9) (nomark _)))) (fun _ _ _ _ _ => (pv 10)))
      (pss_cons (ps_set (i := 12) sc__law_history.nd rfl (Or.inl rfl) (pe_cal c_law_next (hr.mono (by decide)) (pa_cons (pv 0) (pa_cons (pe_ix ix_list (pe_lst (pa_cons pe_int (pa_cons pe_int (pa_cons pe_int (pa_cons pe_int pa_nil))))) (pv 4) (fun _ _ => rfl)) pa_nil))))
      (pss_cons (ps_set (i := 13) sc__law_history.nd rfl (Or.inl rfl) pe_int)
      (pss_cons (ps_if (PW.pt (pw_and (pt_cmpR op_gt (pv 12) pe_int (nomark _)) (pw_and (pt_cmpR (op_neNil hu0) (pv 11) (pe_lst pa_nil) (nomark _)) (pw_and1 (PW.pt (pw_or (pt_cmpR (op_eqNil hu0) (pv 6) (pe_lst pa_nil) (nomark _)) (pw_or1 (pt_cmpR op_eq (pe_cal c_law_next (hr.mono (by decide)) (pa_cons (pv 0) (pa_cons pe_int pa_nil))) pe_int (nomark _))))))))) (pss_cons (ps_set (i := 10) sc__law_history.nd rfl (Or.inl rfl) (pe_ix ix_list (pv 11) (pe_cal c_law_next (hr.mono (by decide)) (pa_cons (pv 0) (pa_cons (pe_callB call_len_seq (by rfl) T.len PySem.boot_len (pa_cons (pv 11) pa_nil)) pa_nil))) (fun _ _ => rfl)))
      (pss_cons (ps_expr (pe_bm PySem.F.plainAttrs_list PySem.F.slot_list_remove PySem.F.type_list_remove (mt_removeD hu65) (pv 7) (pa_cons (pv 10) pa_nil)))
      (pss_one (ps_set (i := 13) sc__law_history.nd rfl (Or.inl rfl) (pe_op op_sub pe_int (pe_ix ix_tup (pv 10) pe_int (fun _ _ => rfl))))))) (pss_one (ps_if (PW.pt (pw_and (pt_cmpR op_gt (pv 12) pe_int (nomark _)) (pw_and1 (pt_cmpR (op_neNil hu0) (pv 6) (pe_lst pa_nil) (nomark _))))) (pss_cons (ps_set (i := 13) sc__law_history.nd rfl (Or.inl rfl) (pe_bm0 PySem.F.plainAttrs_list PySem.F.slot_list_pop PySem.F.type_list_pop mt_pop (pv 6)))
      (pss_one (ps_expr (pe_bm PySem.F.plainAttrs_list PySem.F.slot_list_append PySem.F.type_list_append mt_append (pv 7) (pa_cons (pe_tup (pa_cons (pv 13) (pa_cons (pv 9) pa_nil))) pa_nil))))) pss_nil)))
      (pss_one (ps_asg (pe_op op_catF (pe_ix ix_list (pv 5) (pv 9) (fun _ _ => rfl)) (pe_tupF (pa_cons (pv 13) pa_nil))) (pg_sub (pv 5) (pv 9) set_list)))))))))
      (pss_one (ps_ret (pe_callTy call_tuple_of (by rfl) T.tuple (by decide +kernel) (pa_cons (pv 5) pa_nil))))))), ?_⟩
    -- count, way = (1 + next(people), next(4))
    refine ⟨_, rfl, _, rfl, D, C, b, 5, rfl, dk, by omega, by decide, by decide, fun H1 r1 b1 f1 d1 hb1 hr1 => ⟨1, _, rfl, rfl, ?_⟩⟩
    refine ⟨_, rfl, D, C, b1, 4, rfl, d1, by omega, by decide, by decide, fun H2 wy b2 f2 d2 hb2 hw => ?_⟩
    have en : (1 : Int) + (r1 : Int) = ((r1 + 1 : Nat) : Int) := by omega
    refine ⟨.int ((r1 + 1 : Nat) : Int), .int (wy : Int), congrArg (fun z => [V.int z, V.int (wy : Int)]) en, ?_⟩
    have f02 := f1.trans f2
    -- rows = [()] * count
    refine ⟨Nat.zero_le _, fun t0 o0 nt0 d0 => ⟨Nat.succ_le_of_lt (by decide), fun l0 n0 => ?_⟩⟩
    have sa := (sm_new (o := .frz o0 (.tup [])) nt0).trans (sm_new (o := .lst [.ref t0]) n0)
    have r0 : RowI (upd (upd H2 t0 (.frz o0 (.tup []))) l0 (.lst [.ref t0])) (.ref t0) [] := ⟨t0, rfl, o0, keep_new upd_same n0, d0⟩
    refine ⟨_, rfl, l0, _, _, rfl, rfl, upd_same, by omega, by omega, by simp; exact small63 (by omega), fun Rw nRw => ?_⟩
    rw [reps_eq]
    have s3 := sa.trans (sm_new (o := .lst (List.replicate (r1 + 1) (.ref t0))) nRw)
    have rows0 : Paired (RowI (upd (upd (upd H2 t0 (.frz o0 (.tup []))) l0 (.lst [.ref t0])) Rw (.lst (List.replicate (r1 + 1) (.ref t0))))) (List.replicate (r1 + 1) (.ref t0)) (List.replicate (r1 + 1) []) := prep (r0.im (im_new nRw)) _
    have hRw3 : (upd (upd (upd H2 t0 (.frz o0 (.tup []))) l0 (.lst [.ref t0])) Rw (.lst (List.replicate (r1 + 1) (.ref t0)))) Rw = some (.lst (List.replicate (r1 + 1) (.ref t0))) := upd_same
    have nRw2 := sa.free nRw
    generalize upd (upd (upd H2 t0 (.frz o0 (.tup []))) l0 (.lst [.ref t0])) Rw (.lst (List.replicate (r1 + 1) (.ref t0))) = H3 at s3 rows0 hRw3 ⊢
    have d3 := d2.same s3
    -- labels = shuffled(deck, list(range(1, 25)))
    refine ⟨_, rfl, 1, 25, rfl, rfl, RgOk.of_le (by decide) (by decide) (by decide) (by decide), fun S nS => ?_⟩
    have s4 := sm_new (o := .lst (rgV 1 25)) nS
    have nSD := d3.neD nS
    have d4 := d3.same s4
    refine ⟨D, C, b2, S, (List.range 24).map (fun i => 1 + (i : Nat)), rfl, d4, by omega, by rw [upd_same]; rfl, nSD.1, nSD.2, by decide, fun H5 Lb ls b5 f5 d5 hb5 nLb hLb perm => ?_⟩
    have hb5' : b5 ≤ b2 + 24 := hb5
    have nRwD := d2.neD nRw2
    have hRw4 := s4 _ _ hRw3
    have hRw5 := f5 _ _ hRw4 nRwD.1 nRwD.2
    have i5 := f5.im d4
    have rows5 := pimp rows0 fun _ _ y => (RowI.im y (im s4)).im i5
    -- opens = []
    refine ⟨Nat.zero_le _, fun O nO => ⟨_, _, _, rfl, ?_⟩⟩
    have s6 := sm_new (o := .lst []) nO
    have d6 := d5.same s6
    have f26 : Fr D C H2 (upd H5 O (.lst [])) := ((Fr.of (s3.trans s4)).trans f5).trans (Fr.of s6)
    have f06 := f02.trans f26
    have hO6 : (upd H5 O (.lst [])) O = some (.lst []) := upd_same
    have hRw6 := s6 _ _ hRw5
    have hLb6 := s6 _ _ hLb
    have rows6 := pimp rows5 fun _ _ y => RowI.im y (im s6)
    -- the three lists stand apart, and all are new
    have nLbD := d4.neD nLb
    have nOD := d5.neD nO
    have RL : Rw ≠ Lb := fun z => by subst z; rw [hRw4] at nLb; cases nLb
    have RO : Rw ≠ O := fun z => by subst z; rw [hRw5] at nO; cases nO
    have LO : Lb ≠ O := fun z => by subst z; rw [hLb] at nO; cases nO
    have nRwH : H Rw = none := f02.free dk nRw2 ⟨_, d2⟩
    have nLbH : H Lb = none := f02.free dk ((s3.trans s4).free nLb) ⟨_, d2⟩
    have nOH : H O = none := f02.free dk ((s3.trans s4).free (f5.free d4 nO ⟨_, d5⟩)) ⟨_, d2⟩
    have hI0 : HI (List.replicate (r1 + 1) []) ls [] := HI.start (perm.nodup_iff.mpr (by decide)) fun l hl => by
      have := perm.mem_iff.mp hl
      obtain ⟨i, hi, rfl⟩ := List.mem_map.mp this
      have := List.mem_range.mp hi
      omega
    have tot0 : total (List.replicate (r1 + 1) ([] : List Int)) ≤ 0 := by
      unfold total
      rw [List.map_replicate]
      have : ∀ m, (List.replicate m ([] : List Int).length).sum = 0 := fun m => by
        induction m with
        | zero => rfl
        | succ m ih => rw [List.replicate_succ, List.sum_cons, ih]; rfl
      rw [this]
      exact Nat.le_refl _
    have lls : ls.length = 24 := perm.length_eq
    generalize upd H5 O (.lst []) = H6 at s6 d6 f26 f06 hO6 hRw6 hLb6 rows6 ⊢
    generalize hn : r1 + 1 = n at rows6 hI0 tot0 hRw6 ⊢
    have n0 : 0 < n := by omega
    have n5 : n ≤ 5 := by omega
    -- for k in range(next(deck, most + 1))
    refine ⟨_, rfl, _, rfl, _, 1, rfl, rfl, D, C, b5, 31, rfl, d6, by omega, by decide, by decide, fun H7 m b7 f7 d7 hb7 hm => ?_⟩
    have i7 := f7.im d6
    have em : ((m : Nat) : Int).toNat = m := Int.toNat_natCast m
    refine ⟨_, rfl, by omega, by omega, ?_⟩
    rw [em]
    refine for_it walk_range0 (HPv D C b7 H n wy Rw Lb O)
      ⟨_, ls, [], _, [], b7, none, none, none, none, none, none, rfl, f06.trans f7, d7, Nat.le_refl _, f7 _ _ hRw6 nRwD.1 nRwD.2, pimp rows6 fun _ _ y => RowI.im y i7, f7 _ _ hLb6 nLbD.1 nLbD.2, f7 _ _ hO6 nOD.1 nOD.2, .nil, hI0, by simp, tot0, by omega, Nat.le_refl _⟩ (fun _ _ _ _ _ => trivial) ?_ ?_
    · rintro i x σ H8 H9 hi ⟨R, ls, op, us, os, b8, y8, y9, y10, y11, y12, y13, rfl, f8, d8, hb8, hRw, rows, hLb8, hO, ops, hI, hRn, htot, hls, hop⟩ ⟨rfl, rfl⟩
      clear rows0 rows5 rows6 hRw3 hRw4 hRw5 hRw6 hLb hLb6 hI0 tot0 lls perm hO6
      -- process = next(deck, count)
      refine ⟨_, rfl, _, rfl, D, C, b8, n, rfl, d8, by omega, n0, by omega, fun Ha p ba fa da hba hp => ?_⟩
      have ia := fa.im d8
      have hpR : p < R.length := by omega
      have hrl : (row R p).length ≤ 100 := Nat.le_trans (len_le_total p) (by omega)
      have opsa := pimp ops fun _ _ y => TupI.im y ia
      have hOa := fa _ _ hO nOD.1 nOD.2
      -- ready = [..]
      refine ⟨_, rfl, O, rfl, ⟨os, sqL hOa⟩, fun L nL => any_it (walk_list (xs := os)) (fun j H' => ∃ acc, Acc Ha L H' acc ∧ acc.length ≤ j ∧ ∀ x ∈ acc, ∃ (j : Nat) (z : Int × Nat), os[j]? = some x ∧ op[j]? = some z ∧ z.2 ≠ p) ⟨[], Acc.start nL, Nat.le_refl _, fun x hx => by simp at hx⟩ (fun j H' _ z => let ⟨_, z, _⟩ := z; sqL (z.1 _ _ hOa)) ?_ ?_⟩
      · rintro j x Hb Hc hj ⟨acc, z, la, ac⟩ ⟨rfl, hx⟩
        obtain ⟨⟨e, pz⟩, hmz, t, rfl, ht⟩ := pgetL opsa hx
        have lop := plen opsa
        refine ⟨rfl, _, rfl, t, _, 1, _, rfl, rfl, sqT (z.1 _ _ ht), at1, _, rfl, rfl, _, rfl, ?_⟩
        by_cases c : pz = p
        · refine iteNS (by rw [c]) ?_
          exact ⟨acc, z, by omega, ac⟩
        · have cn : decide (V.int (pz : Int) = V.int (p : Int)) = false := decide_eq_false fun y => c (by have := V.int.inj y; omega)
          rw [cn]
          refine ⟨_, rfl, acc, z.2, small1000 (by omega), _, z.more nL _, by rw [List.length_append, List.length_singleton]; omega, fun x hx' => ?_⟩
          rcases List.mem_append.mp hx' with hx' | hx'
          · exact ac x hx'
          · rw [List.mem_singleton] at hx'
            subst hx'
            exact ⟨j, (e, pz), hx, hmz, c⟩
      rintro Hb ⟨acc, z, la, ac⟩
      have nLD := da.neD nL
      have db := da.same z.1
      have lop := plen opsa
      -- turn = next(deck, [4, 3, 8, 2][way])
      obtain ⟨mt, hmt, mt0, mt1⟩ : ∃ mt : Nat, [4, 3, 8, 2][wy]? = some mt ∧ 0 < mt ∧ mt ≤ 1000 := by
        match wy, hw with
        | 0, _ => exact ⟨4, rfl, by decide, by decide⟩
        | 1, _ => exact ⟨3, rfl, by decide, by decide⟩
        | 2, _ => exact ⟨8, rfl, by decide, by decide⟩
        | 3, _ => exact ⟨2, rfl, by decide, by decide⟩
      refine ⟨_, rfl, (by show 4 ≤ sizeLine; decide), fun l4 nl4 => ?_⟩
      have sb := sm_new (o := .lst (nats [4, 3, 8, 2])) nl4
      refine ⟨_, rfl, l4, nats [4, 3, 8, 2], wy, .int (mt : Int), rfl, rfl, sqL upd_same, at_nats hmt, ?_⟩
      refine ⟨D, C, ba, mt, rfl, db.same sb, by omega, mt0, mt1, fun Hd tn bd fd dd hbd htn => ?_⟩
      have fad : Fr D C Ha Hd := ((Fr.of z.1).trans (Fr.of sb)).trans fd
      have f8d : Fr D C H9 Hd := fa.trans fad
      have hLd : Hd L = some (.lst acc) := fd _ _ (sb _ _ z.2) nLD.1 nLD.2
      have i8d := f8d.im d8
      have hRwd := f8d _ _ hRw nRwD.1 nRwD.2
      have hLbd := f8d _ _ hLb8 nLbD.1 nLbD.2
      have hOd := f8d _ _ hO nOD.1 nOD.2
      have rowsd := pimp rows fun _ _ y => RowI.im y i8d
      have opsd := pimp ops fun _ _ y => TupI.im y i8d
      have fHd := f8.trans f8d
      -- the turn's end: rows[process] = rows[process] + (event,)
      have fin : ∀ (D' : Ends) (He : Hp) (y10 : Option V) (e : Int) (ls' : List Int) (op' : List (Int × Nat)) (os' : List V) (be : Nat), (∀ σ' H', HPv D C b7 H n wy Rw Lb O (i + 1) σ' H' → D'.nx σ' H') → Fr D C H He → Deck He D C be → be ≤ b8 + 4 →
          He Rw = some (.lst us) → Paired (RowI He) us R → He Lb = some (.lst (ls'.map V.int)) → He O = some (.lst os') → Paired (OpI He) os' op' → HI (app R p e) ls' op' → ls'.length ≤ 24 → op'.length ≤ i + 1 →
          tAsg (tOp (rCatF K) (tOp (rIxL K) (tVar 5) (tVar 9)) (tTupF (tCons (tVar 13) tNil))) (gSub (tVar 5) (tVar 9) rSetL) D' [some (.ref D), some (.int 5), some (.int 30), some (.int (n : Int)), some (.int (wy : Int)), some (.ref Rw), some (.ref Lb), some (.ref O), some (.int (i : Int)), some (.int (p : Int)), y10, some (.ref L), some (.int (tn : Int)), some (.int e)] He := by
        intro D' He y10 e ls' op' os' be nx fe de hbe hRw' rows' hLb' hO' ops' hI' hls' hop'
        refine cat_stmt rfl rfl rfl hRw' rows' hpR hrl fun Hf u sf ru => nx _ _ ?_
        have i1 := (im sf).trans (im_lst (o := .lst (us.set p u)) (sf _ _ hRw'))
        refine ⟨app R p e, ls', op', us.set p u, os', be, _, _, _, _, _, _, rfl, (fe.trans (Fr.of sf)).own nRwH, (de.same sf).own nRwD.1 nRwD.2, by omega, upd_same, ?_, by rw [upd_ne RL.symm]; exact sf _ _ hLb', by rw [upd_ne RO.symm]; exact sf _ _ hO', pimp ops' fun _ _ y => TupI.im y i1, hI', by rw [app_len]; exact hRn, by rw [total_app hpR]; omega, hls', hop'⟩
        exact pset (pimp rows' fun _ _ y => RowI.im y i1) (ru.im (im_lst (sf _ _ hRw'))) p
      have hacc : acc.length ≤ 31 := by omega
      -- the test
      have key : ∀ Q' : Bool → Hp → Prop, (∀ He be, Fr D C Hd He → Deck He D C be → be ≤ bd + 1 → acc ≠ [] → Q' true He) → (∀ He be, Fr D C Hd He → Deck He D C be → be ≤ bd + 1 → Q' false He) →
          tAnd (tTest (tOp (rI0 fun i j => .bl (decide (j < i))) (tVar 12) (tC (.int 0)))) (tAnd (tTest (tOp (rNeNil K) (tVar 11) (tLst tNil))) (tOr (tTest (tOp (rEqNil K) (tVar 6) (tLst tNil))) (tTest (tOp rEq (tCall spNext [] E0 (tCons (tVar 0) (tCons (tC (.int 2)) tNil))) (tC (.int 0))))))
            [some (.ref D), some (.int 5), some (.int 30), some (.int (n : Int)), some (.int (wy : Int)), some (.ref Rw), some (.ref Lb), some (.ref O), some (.int (i : Int)), some (.int (p : Int)), y10, some (.ref L), some (.int (tn : Int)), some (.int 0)] Hd Q' := by
        intro Q' yes no
        refine ⟨_, rfl, _, 0, rfl, rfl, _, rfl, ite2 (fun c => ?_) (fun c => no Hd bd (Fr.refl _) dd (Nat.le_succ _))⟩
        refine ⟨_, rfl, Nat.zero_le _, fun e1 ne1 => ?_⟩
        have s1 := sm_new (o := .lst []) ne1
        refine ⟨L, e1, acc, rfl, rfl, sqL (s1 _ _ hLd), sqL upd_same, _, rfl, ?_⟩
        cases acc with
        | nil => exact no _ bd (Fr.of s1) (dd.same s1) (Nat.le_succ _)
        | cons x xr =>
          refine ⟨_, rfl, Nat.zero_le _, fun e2 ne2 => ?_⟩
          have s2 := s1.trans (sm_new (o := .lst []) ne2)
          refine ⟨Lb, e2, ls.map V.int, rfl, rfl, sqL (s2 _ _ hLbd), sqL upd_same, _, rfl, ?_⟩
          cases ls with
          | nil => exact yes _ bd (Fr.of s2) (dd.same s2) (Nat.le_succ _) (List.cons_ne_nil _ _)
          | cons l lr =>
            refine ⟨_, rfl, D, C, bd, 2, rfl, dd.same s2, by omega, by decide, by decide, fun He g be fe de hbe hg => ?_⟩
            refine ⟨rfl, _, rfl, ?_⟩
            cases decide (V.int ((g : Nat) : Int) = V.int 0) with
            | true => exact yes _ be ((Fr.of s2).trans fe) de hbe (List.cons_ne_nil _ _)
            | false => exact no _ be ((Fr.of s2).trans fe) de hbe
      refine key _ (fun He be fe de hbe hne => ?_) (fun He be fe de hbe => ?_)
      · -- an open message is received
        have hLe := fe _ _ hLd nLD.1 nLD.2
        refine ⟨_, rfl, _, rfl, _, rfl, L, acc, rfl, .inl (sqL hLe), D, C, be, acc.length, rfl, de, by omega, List.length_pos_iff.mpr hne, by omega, fun Hf g bf ff df hbf hg => ?_⟩
        obtain ⟨x, hx⟩ : ∃ x, acc[g]? = some x := ⟨_, List.getElem?_eq_getElem hg⟩
        obtain ⟨j, zz, hoj, hzj, hzp⟩ := ac x (List.mem_of_getElem? hx)
        have fdf := fe.trans ff
        have idf := fdf.im dd
        have opsf := pimp opsd fun _ _ y => TupI.im y idf
        obtain ⟨x', hx', t, et, ht⟩ := pget opsf hzj
        rw [hoj] at hx'
        cases hx'
        subst et
        have hOf := fdf _ _ hOd nOD.1 nOD.2
        refine ⟨L, acc, g, .ref t, rfl, rfl, sqL (ff _ _ hLe nLD.1 nLD.2), atI_nat hx, ?_⟩
        refine ⟨_, rfl, .inl ⟨rfl, _, sqL hOf⟩, _, rfl, O, .ref t, os, enc zz, op.map enc, j, rfl, rfl, hOf, dp_encs opsf, dp_enc ⟨t, rfl, ht⟩, plain_enc _, rfl, (by simp [enc, PyData.depth, PyData.depthAll]), place_enc hI.ond hzj, ?_⟩
        have ig := im_lst (o := .lst (os.eraseIdx j)) hOf
        refine ⟨_, rfl, t, _, 0, .int zz.1, rfl, rfl, sqT (ig.t ht), at0, 0, zz.1, rfl, rfl, ?_⟩
        exact fin _ _ _ (0 - zz.1) ls (op.eraseIdx j) (os.eraseIdx j) bf (fun _ _ h => h) ((fHd.trans fdf).own nOH) (df.own nOD.1 nOD.2) (by omega) (by rw [upd_ne RO]; exact fdf _ _ hRwd nRwD.1 nRwD.2) (pimp rowsd fun _ _ y => RowI.im y (idf.trans ig)) (by rw [upd_ne LO]; exact fdf _ _ hLbd nLbD.1 nLbD.2) upd_same
          (perase (pimp opsf fun _ _ y => TupI.im y ig) j) (hI.recv hpR hzj hzp) hls (Nat.le_trans (List.eraseIdx_sublist ..).length_le (by omega))
      · have fHe := fHd.trans fe
        have ie := fe.im dd
        have hRwe := fe _ _ hRwd nRwD.1 nRwD.2
        have hLbe := fe _ _ hLbd nLbD.1 nLbD.2
        have hOe := fe _ _ hOd nOD.1 nOD.2
        have rowse := pimp rowsd fun _ _ y => RowI.im y ie
        have opse := pimp opsd fun _ _ y => TupI.im y ie
        refine ⟨_, rfl, _, 0, rfl, rfl, _, rfl, ite2 (fun c => ?_) (fun c => ?_)⟩
        · refine ⟨_, rfl, Nat.zero_le _, fun e1 ne1 => ?_⟩
          have s1 := sm_new (o := .lst []) ne1
          have hLb1 := s1 _ _ hLbe
          refine ⟨Lb, e1, ls.map V.int, rfl, rfl, sqL hLb1, sqL upd_same, _, rfl, ?_⟩
          have i1 := im s1
          have save : HI (app R p 0) ls op := hI.save hpR
          cases hlc : ls with
          | nil =>
            rw [hlc] at hLb1 save
            exact fin _ _ _ 0 [] op os be (fun _ _ h => h) (fHe.trans (Fr.of s1)) (de.same s1) (by omega) (s1 _ _ hRwe) (pimp rowse fun _ _ y => RowI.im y i1) hLb1 (s1 _ _ hOe) (pimp opse fun _ _ y => TupI.im y i1) save (Nat.zero_le _) (by omega)
          | cons l lr =>
            -- a message is sent
            obtain ⟨ini, mm, em2⟩ : ∃ ini mm, l :: lr = ini ++ [mm] := ⟨_, _, (List.dropLast_concat_getLast (List.cons_ne_nil l lr)).symm⟩
            have el : ls = ini ++ [mm] := hlc.trans em2
            have send := hI.send hpR el
            have hLb2 : (upd He e1 (.lst [])) Lb = some (.lst ((l :: lr).map V.int)) := by rw [hlc] at hLb1; exact hLb1
            have hlast : ((l :: lr).map V.int)[((l :: lr).map V.int).length - 1]? = some (.int mm) := by rw [em2]; simp
            have hdrop : ((l :: lr).map V.int).dropLast = ini.map V.int := by rw [em2]; simp
            have lini : ini.length ≤ 24 := by have := congrArg List.length el; rw [List.length_append, List.length_singleton] at this; omega
            refine ⟨_, rfl, .inl ⟨rfl, _, sqL hLb2⟩, Lb, _, .int mm, rfl, rfl, hLb2, hlast, ?_⟩
            have i2 := i1.trans (im_lst (o := .lst ((l :: lr).map V.int).dropLast) hLb2)
            have hO2 : (upd (upd He e1 (.lst [])) Lb (.lst ((l :: lr).map V.int).dropLast)) O = some (.lst os) := by rw [upd_ne LO.symm]; exact s1 _ _ hOe
            refine ⟨_, rfl, .inl ⟨rfl, _, sqL hO2⟩, _, rfl, _, rfl, (by show 2 ≤ sizeLine; decide), fun t nt => ?_⟩
            have hO3 := keep_new (o := .tup [.int mm, .int (p : Int)]) hO2 nt
            refine ⟨O, os, .ref t, rfl, rfl, hO3, small1000 (by rw [plen opse]; omega), ?_⟩
            have i3 := i2.trans (im_new (o := .tup [.int mm, .int (p : Int)]) nt)
            have i4 := im_lst (o := .lst (os ++ [.ref t])) hO3
            have i34 := i3.trans i4
            have d3' : Deck (upd (upd He e1 (.lst [])) Lb (.lst ((l :: lr).map V.int).dropLast)) D C be := (de.same s1).own nLbD.1 nLbD.2
            have f3' : Fr D C H (upd (upd He e1 (.lst [])) Lb (.lst ((l :: lr).map V.int).dropLast)) := (fHe.trans (Fr.of s1)).own nLbH
            exact fin _ _ _ mm ini (op ++ [(mm, p)]) (os ++ [.ref t]) be (fun _ _ h => h) ((f3'.new nt).own nOH) ((d3'.same (sm_new nt)).own nOD.1 nOD.2) (by omega)
              (by rw [upd_ne RO]; exact keep_new (by rw [upd_ne RL]; exact s1 _ _ hRwe) nt) (pimp rowse fun _ _ y => RowI.im y i34)
              (by rw [upd_ne LO]; exact keep_new (by rw [upd_same, hdrop]) nt) upd_same
              (psnoc (pimp opse fun _ _ y => TupI.im y i34) (TupI.im (ns := [mm, (p : Int)]) ⟨t, rfl, upd_same⟩ i4)) send lini (by rw [List.length_append, List.length_singleton]; omega)
        · exact fin _ _ _ 0 ls op os be (fun _ _ h => h) fHe de (by omega) hRwe rowse hLbe hOe opse (hI.save hpR) hls (by omega)
    · rintro σ H8 ⟨R, ls, op, us, os, b8, y8, y9, y10, y11, y12, y13, rfl, f8, d8, hb8, hRw, rows, hLb8, hO, ops, hI, hRn, htot, hls, hop⟩
      refine ⟨_, rfl, Rw, us, rfl, .inl ⟨sqL hRw, fun t nt => ?_⟩⟩
      exact q _ t R b8 (f8.new nt) (d8.same (sm_new nt)) (by omega) ⟨us, upd_same, pimp rows fun _ _ y => RowI.im y (im_new nt)⟩ hI.good (by omega) (by omega) (by omega)
end
end K57

/-! ## KD17 -/
namespace K57
open PySem PySem.Spec PyProof.Rows L2
theorem good_save {R : Rows} (g : Good R) {p : Nat} (hp : p < R.length) : Good (app R p 0) := g.app hp (by omega) (fun z => absurd rfl z) (fun z => by omega) (fun z => by omega)
theorem pre_save {R : Rows} (g : Good R) {p : Nat} (hp : p < R.length) (e : Int) : Pre R (app R p e) := by
  refine ⟨(app_len R p e).symm, fun q => ?_, fun q j x hx h => ?_⟩
  · rw [row_app hp]
    by_cases c : q = p
    · subst c
      rw [if_pos rfl, List.take_left]
    · rw [if_neg c, List.take_length]
  · obtain ⟨p', i, y, _⟩ := g.sent q j x hx h
    exact ⟨p', i, y⟩
section
variable {P : Program} {w : World} {K : PySem.W.Frag} {mg : Str → Option Value} {base : Heap}
abbrev s_law : Stmt := topS 44
theorem sc_law : FnScope ["_law_script", "_law_deck_here", "_law_turn", "_law_rows", "_law_many", "_law_longer", "_law_row"] ["_law_script"] (defScope s_law) := ⟨rfl, rfl, rfl, by decide +kernel, rfl, by decide +kernel, by decide +kernel⟩
def spLaw (K : PySem.W.Frag) : Sp := fun vs H Q _ => ∃ (a : Addr) (ns : List Int), vs = [.ref a] ∧ SqL K H a (ns.map V.int) ∧ ns.length ≤ 63 ∧ ∀ H', Q (.bl true) H'
theorem ok_law {f : Addr} {fd : FuncData} (T : Txt mg) (F : Fun K "law" "law" s_law f fd) (c_law_deck : Cal P w K mg base 1 "_law_deck" ["_law_script"] (spDeck K)) (c_law_history : Cal P w K mg base 3 "_law_history" ["_law_deck_here", "_law_people", "_law_most"] spHistory)
    (c_law_next : Cal P w K mg base 1 "_law_next" ["_law_deck_here", "_law_many"] spNext) (c_law_begun : Cal P w K mg base 6 "_law_begun" ["_law_rows", "_law_many"] spBegun) (c_law_same_right : Cal P w K mg base 8 "_law_same_right" ["_law_deck_here", "_law_rows", "_law_longer"] spSame)
    (c_with_event : Cal P w K mg base 8 "with_event" ["history", "process", "event"] spWith) : FnOk P w K mg base CX0 9 f fd ["_law_script"] (spLaw K) := by
  refine F.ok sc_law (fun vs H Q E h => ?_) (fun cdv A outer s H vs Q E hr h => ?_)
  · obtain ⟨a, ns, rfl, _⟩ := h
    rfl
  · obtain ⟨a, ns, rfl, hS, hl, q⟩ := h
    have hu := hu_of hr
    refine ⟨_, (pss_cons (ps_set (i := 1) sc_law.nd rfl (Or.inl rfl) (pe_cal c_law_deck (hr.mono (by decide)) (pa_cons (pv 0) pa_nil)))
      (pss_cons (ps_for PassesOwn.never rfl (pi_range1 rfl T.range (pa_cons pe_int pa_nil)) (pg_name (i := 2) sc_law.nd rfl (Or.inl rfl)) (pss_cons (ps_set (i := 3) sc_law.nd rfl (Or.inl rfl) (pe_cal c_law_history (hr.mono (by decide)) (pa_cons (pv 1) (pa_cons pe_int (pa_cons pe_int pa_nil)))))
      (pss_cons (ps_set (i := 4) sc_law.nd rfl (Or.inl rfl) (pe_callB (cr_sum rfl) (by rfl) T.sum (by decide +kernel) (pa_cons (pe_lc (own := [("_law_row", 6)]) (g := (gName 6)) rfl sc_law.nd (pi_tup (pv 3)) (blkOk_by (N := ["_law_script", "_law_deck_here", "_law_turn", "_law_rows", "_law_many", "_law_longer", "_law_row"]) (sc := defScope s_law) (by decide +kernel)) (fun _ _ _ _ _ => (pg_name (i := 6) sc_law.nd rfl (Or.inl rfl))) (fun _ _ _ _ _ => pts_nil) (fun _ _ _ _ _ => (pe_callB (len_seqK (K := K)) (by rfl) T.len PySem.boot_len (pa_cons (pv 6) pa_nil)))) pa_nil)))
      (pss_cons (ps_if (pt_not (pt_val (pe_cal c_law_same_right (hr.mono (by decide)) (pa_cons (pv 1) (pa_cons (pe_cal c_law_begun (hr.mono (by decide)) (pa_cons (pv 3) (pa_cons (pe_cal c_law_next (hr.mono (by decide)) (pa_cons (pv 1) (pa_cons (pe_op op_add (pv 4) pe_int) pa_nil))) pa_nil))) (pa_cons (pv 3) pa_nil)))))) (pss_one (ps_ret pe_bl)) pss_nil)
      (pss_cons (ps_set (i := 5) sc_law.nd rfl (Or.inl rfl) (pe_cal c_with_event (hr.mono (by decide)) (pa_cons (pv 3) (pa_cons (pe_cal c_law_next (hr.mono (by decide)) (pa_cons (pv 1) (pa_cons (pe_callB call_len_seq (by rfl) T.len PySem.boot_len (pa_cons (pv 3) pa_nil)) pa_nil))) (pa_cons pe_int pa_nil)))))
      (pss_one (ps_if (pt_not (pt_val (pe_cal c_law_same_right (hr.mono (by decide)) (pa_cons (pv 1) (pa_cons (pv 3) (pa_cons (pv 5) pa_nil)))))) (pss_one (ps_ret pe_bl)) pss_nil)))))))
      (pss_one (ps_ret pe_bl)))), ?_⟩
    refine ⟨_, rfl, a, ns, rfl, hS, hl, fun H1 D C s1 nD d1 => ?_⟩
    refine ⟨3, rfl, by decide, by decide, for_it (walk_range0 (n := 3)) (fun i σ H' => ∃ (b : Nat) (y2 y3 y4 y5 : Option V), σ = [some (.ref a), some (.ref D), y2, y3, y4, y5, none] ∧ Deck H' D C b ∧ b ≤ 5000 * i)
      ⟨0, none, none, none, none, rfl, d1, Nat.le_refl _⟩ (fun _ _ _ _ _ => trivial) ?_ ?_⟩
    · rintro i x σ H2 H3 hi ⟨b, y2, y3, y4, y5, rfl, dk, hb⟩ ⟨rfl, rfl⟩
      -- rows = _law_history(deck, 5, 30)
      refine ⟨_, rfl, D, C, b, rfl, dk, by omega, fun H4 t R b4 f4 d4 hb4 hist g l1 l5 l30 => ?_⟩
      have sz : Sz R := ⟨l1, by omega, by omega⟩
      obtain ⟨vs, ha, pr⟩ := id hist
      have hn := plen pr
      -- many = sum([len(row) for row in rows])
      refine ⟨_, rfl, t, rfl, ⟨vs, sqT ha⟩, fun L nL => any_it (walk_tup (xs := vs)) (fun i H' => Acc H4 L H' (nats ((R.take i).map List.length))) (Acc.start nL) (fun i H' _ z => sqT (z.1 _ _ ha)) ?_ ?_⟩
      · rintro i x H5 H6 hi z ⟨rfl, hx⟩
        obtain ⟨l, hlx, r, rfl, hr'⟩ := pgetL pr hx
        refine ⟨rfl, .ref r, rfl, r, _, rfl, .inr (hr'.same z.1).sq, _, z.2, small1000 (by rw [nats_len, List.length_map, List.length_take]; omega), (z.more nL _).eq ?_⟩
        rw [List.length_map, nats_snoc, take_one hlx, List.map_append]
        rfl
      intro H5 z
      rw [take_all (by omega)] at z
      refine ⟨L, _, rfl, sqL z.2, ?_⟩
      have d5 := d4.same z.1
      have hist5 := hist.im (im z.1)
      have et : (((R.map List.length).map fun (k : Nat) => (k : Int)).sum + 1 : Int) = ((total R + 1 : Nat) : Int) := by rw [lens_eq]; omega
      -- if not same_right(deck, begun(rows, next(deck, many + 1)), rows)
      refine ⟨_, rfl, _, rfl, _, rfl, _, rfl, _, 1, rfl, rfl, D, C, b4, total R + 1, congrArg (fun n => [V.ref D, V.int n]) et, d5, by omega, by omega, by omega, fun Ha r ba fa da hba hr1 => ?_⟩
      have hista := hist5.im (fa.im d5)
      refine ⟨t, R, r, rfl, hista, g, sz, fun Hb tb S sb hb' pre szS => ?_⟩
      have db := da.same sb
      have histb := hista.im (im sb)
      refine ⟨_, rfl, D, C, ba, tb, t, S, R, rfl, db, by omega, hb', histb, pre, g, szS, sz, fun Hc bc fc dc hbc => ⟨true, rfl, ?_⟩⟩
      have histc := histb.im (fc.im db)
      obtain ⟨vs2, ha2, pr2⟩ := id histc
      have hn2 := plen pr2
      -- longer = with_event(rows, next(deck, len(rows)), 0)
      refine ⟨_, rfl, _, rfl, _, rfl, t, vs2, rfl, .inr (sqT ha2), D, C, bc, R.length, ?_, dc, by omega, by omega, by omega, fun Hd p bd fd dd hbd hp => ?_⟩
      · show [V.ref D, V.int (vs2.length : Nat)] = _
        rw [hn2]
      have histd := histc.im (fd.im dc)
      have szl : Sz (app R p 0) := ⟨by rw [app_len]; omega, by rw [app_len]; omega, by rw [total_app hp]; omega⟩
      refine ⟨t, R, p, 0, rfl, histd, hp, good_save g hp, szl, fun He b3 se he3 => ?_⟩
      have de := dd.same se
      refine ⟨_, rfl, _, rfl, _, rfl, D, C, bd, t, b3, R, app R p 0, rfl, de, by omega, histd.im (im se), he3, pre_save g hp 0, good_save g hp, sz, szl, fun Hf bf ff df hbf => ⟨true, rfl, ?_⟩⟩
      exact ⟨bf, _, _, _, _, rfl, df, by omega⟩
    · rintro σ H2 ⟨b, y2, y3, y4, y5, rfl, dk, hb⟩
      exact q H2
end
end K57

/-! ## KEnd -/
namespace K57
open PySem PySem.Spec PyProof.Rows L2
/-! ### what the top has written; the law's own head -/
theorem dn_mk {K : PySem.W.Frag} {h : Heap} {mg : Str → Option Value} {x : Str} {st : Stmt} {ps : List Str} {f : Addr} {oc : Value} {od an : Option Addr} {osl : Array (Option Value)} {kV doc pm cdv ct : Value} (X : K.In h) (G : h.Ns mainGlobals mg) (a : PySem.W.nsIn K mainGlobals x = some (some (.ref f)))
    (l : K.lookup f = some ⟨oc, od, .func (PySem.W.fnOf x x (defArgs st) (defBody st) (defScope st) .none kV doc pm an cdv ct), osl⟩) (c : PySem.W.codeIn K cdv x = true) (k : PySem.W.keepIn K (.ref f) = true)
    (b : ∀ (kV doc pm : Value) (an : Option Addr) (cdv ct : Value) (us : List Value), us.length = ps.length → bindArgs (PySem.W.fnOf x x (defArgs st) (defBody st) (defScope st) .none kV doc pm an cdv ct) ⟨us, []⟩ = pure (ps.zip us)) : Dn K mg x st ps :=
  have F := fun_mk (st := st) l c k
  ⟨f, _, F, PySem.W.mg_of X G a, F.binds b⟩
theorem all_mk {l : PySem.W.OpenLaw} {w : World} {K : PySem.W.Frag} {h : Heap} {mg : Str → Option Value} {fa : Addr} (X : K.In h) (G : h.Ns mainGlobals mg) (hfa : mg "law" = some (.ref fa))
    {f1 : Addr} {od1 an1 : Option Addr} {sl1 : Array (Option Value)} {oc1 kV1 dc1 pm1 cd1 ct1 : Value}
    {f2 : Addr} {od2 an2 : Option Addr} {sl2 : Array (Option Value)} {oc2 kV2 dc2 pm2 cd2 ct2 : Value}
    {f3 : Addr} {od3 an3 : Option Addr} {sl3 : Array (Option Value)} {oc3 kV3 dc3 pm3 cd3 ct3 : Value}
    {f4 : Addr} {od4 an4 : Option Addr} {sl4 : Array (Option Value)} {oc4 kV4 dc4 pm4 cd4 ct4 : Value}
    {f5 : Addr} {od5 an5 : Option Addr} {sl5 : Array (Option Value)} {oc5 kV5 dc5 pm5 cd5 ct5 : Value}
    {f6 : Addr} {od6 an6 : Option Addr} {sl6 : Array (Option Value)} {oc6 kV6 dc6 pm6 cd6 ct6 : Value}
    {f7 : Addr} {od7 an7 : Option Addr} {sl7 : Array (Option Value)} {oc7 kV7 dc7 pm7 cd7 ct7 : Value}
    {f8 : Addr} {od8 an8 : Option Addr} {sl8 : Array (Option Value)} {oc8 kV8 dc8 pm8 cd8 ct8 : Value}
    {f9 : Addr} {od9 an9 : Option Addr} {sl9 : Array (Option Value)} {oc9 kV9 dc9 pm9 cd9 ct9 : Value}
    {f10 : Addr} {od10 an10 : Option Addr} {sl10 : Array (Option Value)} {oc10 kV10 dc10 pm10 cd10 ct10 : Value}
    {f11 : Addr} {od11 an11 : Option Addr} {sl11 : Array (Option Value)} {oc11 kV11 dc11 pm11 cd11 ct11 : Value}
    {f12 : Addr} {od12 an12 : Option Addr} {sl12 : Array (Option Value)} {oc12 kV12 dc12 pm12 cd12 ct12 : Value}
    {f13 : Addr} {od13 an13 : Option Addr} {sl13 : Array (Option Value)} {oc13 kV13 dc13 pm13 cd13 ct13 : Value}
    {f14 : Addr} {od14 an14 : Option Addr} {sl14 : Array (Option Value)} {oc14 kV14 dc14 pm14 cd14 ct14 : Value}
    {f15 : Addr} {od15 an15 : Option Addr} {sl15 : Array (Option Value)} {oc15 kV15 dc15 pm15 cd15 ct15 : Value}
    {f16 : Addr} {od16 an16 : Option Addr} {sl16 : Array (Option Value)} {oc16 kV16 dc16 pm16 cd16 ct16 : Value}
    {f17 : Addr} {od17 an17 : Option Addr} {sl17 : Array (Option Value)} {oc17 kV17 dc17 pm17 cd17 ct17 : Value}
    {f18 : Addr} {od18 an18 : Option Addr} {sl18 : Array (Option Value)} {oc18 kV18 dc18 pm18 cd18 ct18 : Value}
    {f19 : Addr} {od19 an19 : Option Addr} {sl19 : Array (Option Value)} {oc19 kV19 dc19 pm19 cd19 ct19 : Value}
    {f20 : Addr} {od20 an20 : Option Addr} {sl20 : Array (Option Value)} {oc20 kV20 dc20 pm20 cd20 ct20 : Value}
    {f21 : Addr} {od21 an21 : Option Addr} {sl21 : Array (Option Value)} {oc21 kV21 dc21 pm21 cd21 ct21 : Value}
    {f22 : Addr} {od22 an22 : Option Addr} {sl22 : Array (Option Value)} {oc22 kV22 dc22 pm22 cd22 ct22 : Value}
    {f23 : Addr} {od23 an23 : Option Addr} {sl23 : Array (Option Value)} {oc23 kV23 dc23 pm23 cd23 ct23 : Value}
    {f24 : Addr} {od24 an24 : Option Addr} {sl24 : Array (Option Value)} {oc24 kV24 dc24 pm24 cd24 ct24 : Value}
    {f25 : Addr} {od25 an25 : Option Addr} {sl25 : Array (Option Value)} {oc25 kV25 dc25 pm25 cd25 ct25 : Value}
    {f26 : Addr} {od26 an26 : Option Addr} {sl26 : Array (Option Value)} {oc26 kV26 dc26 pm26 cd26 ct26 : Value}
    {f27 : Addr} {od27 an27 : Option Addr} {sl27 : Array (Option Value)} {oc27 kV27 dc27 pm27 cd27 ct27 : Value}
    {f28 : Addr} {od28 an28 : Option Addr} {sl28 : Array (Option Value)} {oc28 kV28 dc28 pm28 cd28 ct28 : Value}
    {f29 : Addr} {od29 an29 : Option Addr} {sl29 : Array (Option Value)} {oc29 kV29 dc29 pm29 cd29 ct29 : Value}
    {f30 : Addr} {od30 an30 : Option Addr} {sl30 : Array (Option Value)} {oc30 kV30 dc30 pm30 cd30 ct30 : Value}
    {f31 : Addr} {od31 an31 : Option Addr} {sl31 : Array (Option Value)} {oc31 kV31 dc31 pm31 cd31 ct31 : Value}
    {f32 : Addr} {od32 an32 : Option Addr} {sl32 : Array (Option Value)} {oc32 kV32 dc32 pm32 cd32 ct32 : Value}
    {f33 : Addr} {od33 an33 : Option Addr} {sl33 : Array (Option Value)} {oc33 kV33 dc33 pm33 cd33 ct33 : Value}
    {f34 : Addr} {od34 an34 : Option Addr} {sl34 : Array (Option Value)} {oc34 kV34 dc34 pm34 cd34 ct34 : Value}
    {f35 : Addr} {od35 an35 : Option Addr} {sl35 : Array (Option Value)} {oc35 kV35 dc35 pm35 cd35 ct35 : Value}
    {tk1 : Tok}
    {tk2 : Tok}
    {tk3 : Tok}
    (a1 : PySem.W.nsIn K mainGlobals "is_number" = some (some (.ref f1))) (l1 : K.lookup f1 = some ⟨oc1, od1, .func (PySem.W.fnOf "is_number" "is_number" (defArgs s_is_number) (defBody s_is_number) (defScope s_is_number) .none kV1 dc1 pm1 an1 cd1 ct1), sl1⟩) (c1 : PySem.W.codeIn K cd1 "is_number" = true) (k1 : PySem.W.keepIn K (.ref f1) = true)
    (a2 : PySem.W.nsIn K mainGlobals "all_places" = some (some (.ref f2))) (l2 : K.lookup f2 = some ⟨oc2, od2, .func (PySem.W.fnOf "all_places" "all_places" (defArgs s_all_places) (defBody s_all_places) (defScope s_all_places) .none kV2 dc2 pm2 an2 cd2 ct2), sl2⟩) (c2 : PySem.W.codeIn K cd2 "all_places" = true) (k2 : PySem.W.keepIn K (.ref f2) = true)
    (a3 : PySem.W.nsIn K mainGlobals "next_process" = some (some (.ref f3))) (l3 : K.lookup f3 = some ⟨oc3, od3, .func (PySem.W.fnOf "next_process" "next_process" (defArgs s_next_process) (defBody s_next_process) (defScope s_next_process) .none kV3 dc3 pm3 an3 cd3 ct3), sl3⟩) (c3 : PySem.W.codeIn K cd3 "next_process" = true) (k3 : PySem.W.keepIn K (.ref f3) = true)
    (a4 : PySem.W.nsIn K mainGlobals "some_order" = some (some (.ref f4))) (l4 : K.lookup f4 = some ⟨oc4, od4, .func (PySem.W.fnOf "some_order" "some_order" (defArgs s_some_order) (defBody s_some_order) (defScope s_some_order) .none kV4 dc4 pm4 an4 cd4 ct4), sl4⟩) (c4 : PySem.W.codeIn K cd4 "some_order" = true) (k4 : PySem.W.keepIn K (.ref f4) = true)
    (a5 : PySem.W.nsIn K mainGlobals "form_error" = some (some (.ref f5))) (l5 : K.lookup f5 = some ⟨oc5, od5, .func (PySem.W.fnOf "form_error" "form_error" (defArgs s_form_error) (defBody s_form_error) (defScope s_form_error) .none kV5 dc5 pm5 an5 cd5 ct5), sl5⟩) (c5 : PySem.W.codeIn K cd5 "form_error" = true) (k5 : PySem.W.keepIn K (.ref f5) = true)
    (a6 : PySem.W.nsIn K mainGlobals "message_error" = some (some (.ref f6))) (l6 : K.lookup f6 = some ⟨oc6, od6, .func (PySem.W.fnOf "message_error" "message_error" (defArgs s_message_error) (defBody s_message_error) (defScope s_message_error) .none kV6 dc6 pm6 an6 cd6 ct6), sl6⟩) (c6 : PySem.W.codeIn K cd6 "message_error" = true) (k6 : PySem.W.keepIn K (.ref f6) = true)
    (a7 : PySem.W.nsIn K mainGlobals "history_error" = some (some (.ref f7))) (l7 : K.lookup f7 = some ⟨oc7, od7, .func (PySem.W.fnOf "history_error" "history_error" (defArgs s_history_error) (defBody s_history_error) (defScope s_history_error) .none kV7 dc7 pm7 an7 cd7 ct7), sl7⟩) (c7 : PySem.W.codeIn K cd7 "history_error" = true) (k7 : PySem.W.keepIn K (.ref f7) = true)
    (a8 : PySem.W.nsIn K mainGlobals "is_history" = some (some (.ref f8))) (l8 : K.lookup f8 = some ⟨oc8, od8, .func (PySem.W.fnOf "is_history" "is_history" (defArgs s_is_history) (defBody s_is_history) (defScope s_is_history) .none kV8 dc8 pm8 an8 cd8 ct8), sl8⟩) (c8 : PySem.W.codeIn K cd8 "is_history" = true) (k8 : PySem.W.keepIn K (.ref f8) = true)
    (a9 : PySem.W.nsIn K mainGlobals "state_numbers" = some (some (.ref f9))) (l9 : K.lookup f9 = some ⟨oc9, od9, .func (PySem.W.fnOf "state_numbers" "state_numbers" (defArgs s_state_numbers) (defBody s_state_numbers) (defScope s_state_numbers) .none kV9 dc9 pm9 an9 cd9 ct9), sl9⟩) (c9 : PySem.W.codeIn K cd9 "state_numbers" = true) (k9 : PySem.W.keepIn K (.ref f9) = true)
    (a10 : PySem.W.nsIn K mainGlobals "place_of" = some (some (.ref f10))) (l10 : K.lookup f10 = some ⟨oc10, od10, .func (PySem.W.fnOf "place_of" "place_of" (defArgs s_place_of) (defBody s_place_of) (defScope s_place_of) .none kV10 dc10 pm10 an10 cd10 ct10), sl10⟩) (c10 : PySem.W.codeIn K cd10 "place_of" = true) (k10 : PySem.W.keepIn K (.ref f10) = true)
    (a11 : PySem.W.nsIn K mainGlobals "interval_at" = some (some (.ref f11))) (l11 : K.lookup f11 = some ⟨oc11, od11, .func (PySem.W.fnOf "interval_at" "interval_at" (defArgs s_interval_at) (defBody s_interval_at) (defScope s_interval_at) .none kV11 dc11 pm11 an11 cd11 ct11), sl11⟩) (c11 : PySem.W.codeIn K cd11 "interval_at" = true) (k11 : PySem.W.keepIn K (.ref f11) = true)
    (a12 : PySem.W.nsIn K mainGlobals "message_table" = some (some (.ref f12))) (l12 : K.lookup f12 = some ⟨oc12, od12, .func (PySem.W.fnOf "message_table" "message_table" (defArgs s_message_table) (defBody s_message_table) (defScope s_message_table) .none kV12 dc12 pm12 an12 cd12 ct12), sl12⟩) (c12 : PySem.W.codeIn K cd12 "message_table" = true) (k12 : PySem.W.keepIn K (.ref f12) = true)
    (a13 : PySem.W.nsIn K mainGlobals "with_event" = some (some (.ref f13))) (l13 : K.lookup f13 = some ⟨oc13, od13, .func (PySem.W.fnOf "with_event" "with_event" (defArgs s_with_event) (defBody s_with_event) (defScope s_with_event) .none kV13 dc13 pm13 an13 cd13 ct13), sl13⟩) (c13 : PySem.W.codeIn K cd13 "with_event" = true) (k13 : PySem.W.keepIn K (.ref f13) = true)
    (a14 : PySem.W.nsIn K mainGlobals "moves_of" = some (some (.ref f14))) (l14 : K.lookup f14 = some ⟨oc14, od14, .func (PySem.W.fnOf "moves_of" "moves_of" (defArgs s_moves_of) (defBody s_moves_of) (defScope s_moves_of) .none kV14 dc14 pm14 an14 cd14 ct14), sl14⟩) (c14 : PySem.W.codeIn K cd14 "moves_of" = true) (k14 : PySem.W.keepIn K (.ref f14) = true)
    (a15 : PySem.W.nsIn K mainGlobals "all_states" = some (some (.ref f15))) (l15 : K.lookup f15 = some ⟨oc15, od15, .func (PySem.W.fnOf "all_states" "all_states" (defArgs s_all_states) (defBody s_all_states) (defScope s_all_states) .none kV15 dc15 pm15 an15 cd15 ct15), sl15⟩) (c15 : PySem.W.codeIn K cd15 "all_states" = true) (k15 : PySem.W.keepIn K (.ref f15) = true)
    (a16 : PySem.W.nsIn K mainGlobals "longer_paths" = some (some (.ref f16))) (l16 : K.lookup f16 = some ⟨oc16, od16, .func (PySem.W.fnOf "longer_paths" "longer_paths" (defArgs s_longer_paths) (defBody s_longer_paths) (defScope s_longer_paths) .none kV16 dc16 pm16 an16 cd16 ct16), sl16⟩) (c16 : PySem.W.codeIn K cd16 "longer_paths" = true) (k16 : PySem.W.keepIn K (.ref f16) = true)
    (a17 : PySem.W.nsIn K mainGlobals "find_zigzag" = some (some (.ref f17))) (l17 : K.lookup f17 = some ⟨oc17, od17, .func (PySem.W.fnOf "find_zigzag" "find_zigzag" (defArgs s_find_zigzag) (defBody s_find_zigzag) (defScope s_find_zigzag) .none kV17 dc17 pm17 an17 cd17 ct17), sl17⟩) (c17 : PySem.W.codeIn K cd17 "find_zigzag" = true) (k17 : PySem.W.keepIn K (.ref f17) = true)
    (a18 : PySem.W.nsIn K mainGlobals "received_messages" = some (some (.ref f18))) (l18 : K.lookup f18 = some ⟨oc18, od18, .func (PySem.W.fnOf "received_messages" "received_messages" (defArgs s_received_messages) (defBody s_received_messages) (defScope s_received_messages) .none kV18 dc18 pm18 an18 cd18 ct18), sl18⟩) (c18 : PySem.W.codeIn K cd18 "received_messages" = true) (k18 : PySem.W.keepIn K (.ref f18) = true)
    (a19 : PySem.W.nsIn K mainGlobals "causal_past" = some (some (.ref f19))) (l19 : K.lookup f19 = some ⟨oc19, od19, .func (PySem.W.fnOf "causal_past" "causal_past" (defArgs s_causal_past) (defBody s_causal_past) (defScope s_causal_past) .none kV19 dc19 pm19 an19 cd19 ct19), sl19⟩) (c19 : PySem.W.codeIn K cd19 "causal_past" = true) (k19 : PySem.W.keepIn K (.ref f19) = true)
    (a20 : PySem.W.nsIn K mainGlobals "vector_of" = some (some (.ref f20))) (l20 : K.lookup f20 = some ⟨oc20, od20, .func (PySem.W.fnOf "vector_of" "vector_of" (defArgs s_vector_of) (defBody s_vector_of) (defScope s_vector_of) .none kV20 dc20 pm20 an20 cd20 ct20), sl20⟩) (c20 : PySem.W.codeIn K cd20 "vector_of" = true) (k20 : PySem.W.keepIn K (.ref f20) = true)
    (a21 : PySem.W.nsIn K mainGlobals "comes_before" = some (some (.ref f21))) (l21 : K.lookup f21 = some ⟨oc21, od21, .func (PySem.W.fnOf "comes_before" "comes_before" (defArgs s_comes_before) (defBody s_comes_before) (defScope s_comes_before) .none kV21 dc21 pm21 an21 cd21 ct21), sl21⟩) (c21 : PySem.W.codeIn K cd21 "comes_before" = true) (k21 : PySem.W.keepIn K (.ref f21) = true)
    (a22 : PySem.W.nsIn K mainGlobals "message_intervals" = some (some (.ref f22))) (l22 : K.lookup f22 = some ⟨oc22, od22, .func (PySem.W.fnOf "message_intervals" "message_intervals" (defArgs s_message_intervals) (defBody s_message_intervals) (defScope s_message_intervals) .none kV22 dc22 pm22 an22 cd22 ct22), sl22⟩) (c22 : PySem.W.codeIn K cd22 "message_intervals" = true) (k22 : PySem.W.keepIn K (.ref f22) = true)
    (a23 : PySem.W.nsIn K mainGlobals "zigzag_ends" = some (some (.ref f23))) (l23 : K.lookup f23 = some ⟨oc23, od23, .func (PySem.W.fnOf "zigzag_ends" "zigzag_ends" (defArgs s_zigzag_ends) (defBody s_zigzag_ends) (defScope s_zigzag_ends) .none kV23 dc23 pm23 an23 cd23 ct23), sl23⟩) (c23 : PySem.W.codeIn K cd23 "zigzag_ends" = true) (k23 : PySem.W.keepIn K (.ref f23) = true)
    (a24 : PySem.W.nsIn K mainGlobals "find_untracked" = some (some (.ref f24))) (l24 : K.lookup f24 = some ⟨oc24, od24, .func (PySem.W.fnOf "find_untracked" "find_untracked" (defArgs s_find_untracked) (defBody s_find_untracked) (defScope s_find_untracked) .none kV24 dc24 pm24 an24 cd24 ct24), sl24⟩) (c24 : PySem.W.codeIn K cd24 "find_untracked" = true) (k24 : PySem.W.keepIn K (.ref f24) = true)
    (a25 : PySem.W.nsIn K mainGlobals "is_tracked" = some (some (.ref f25))) (l25 : K.lookup f25 = some ⟨oc25, od25, .func (PySem.W.fnOf "is_tracked" "is_tracked" (defArgs s_is_tracked) (defBody s_is_tracked) (defScope s_is_tracked) .none kV25 dc25 pm25 an25 cd25 ct25), sl25⟩) (c25 : PySem.W.codeIn K cd25 "is_tracked" = true) (k25 : PySem.W.keepIn K (.ref f25) = true)
    (a26 : PySem.W.nsIn K mainGlobals "_law_deck" = some (some (.ref f26))) (l26 : K.lookup f26 = some ⟨oc26, od26, .func (PySem.W.fnOf "_law_deck" "_law_deck" (defArgs s__law_deck) (defBody s__law_deck) (defScope s__law_deck) .none kV26 dc26 pm26 an26 cd26 ct26), sl26⟩) (c26 : PySem.W.codeIn K cd26 "_law_deck" = true) (k26 : PySem.W.keepIn K (.ref f26) = true)
    (a27 : PySem.W.nsIn K mainGlobals "_law_next" = some (some (.ref f27))) (l27 : K.lookup f27 = some ⟨oc27, od27, .func (PySem.W.fnOf "_law_next" "_law_next" (defArgs s__law_next) (defBody s__law_next) (defScope s__law_next) .none kV27 dc27 pm27 an27 cd27 ct27), sl27⟩) (c27 : PySem.W.codeIn K cd27 "_law_next" = true) (k27 : PySem.W.keepIn K (.ref f27) = true)
    (a28 : PySem.W.nsIn K mainGlobals "_law_one" = some (some (.ref f28))) (l28 : K.lookup f28 = some ⟨oc28, od28, .func (PySem.W.fnOf "_law_one" "_law_one" (defArgs s__law_one) (defBody s__law_one) (defScope s__law_one) .none kV28 dc28 pm28 an28 cd28 ct28), sl28⟩) (c28 : PySem.W.codeIn K cd28 "_law_one" = true) (k28 : PySem.W.keepIn K (.ref f28) = true)
    (a29 : PySem.W.nsIn K mainGlobals "_law_shuffled" = some (some (.ref f29))) (l29 : K.lookup f29 = some ⟨oc29, od29, .func (PySem.W.fnOf "_law_shuffled" "_law_shuffled" (defArgs s__law_shuffled) (defBody s__law_shuffled) (defScope s__law_shuffled) .none kV29 dc29 pm29 an29 cd29 ct29), sl29⟩) (c29 : PySem.W.codeIn K cd29 "_law_shuffled" = true) (k29 : PySem.W.keepIn K (.ref f29) = true)
    (a30 : PySem.W.nsIn K mainGlobals "_law_history" = some (some (.ref f30))) (l30 : K.lookup f30 = some ⟨oc30, od30, .func (PySem.W.fnOf "_law_history" "_law_history" (defArgs s__law_history) (defBody s__law_history) (defScope s__law_history) .none kV30 dc30 pm30 an30 cd30 ct30), sl30⟩) (c30 : PySem.W.codeIn K cd30 "_law_history" = true) (k30 : PySem.W.keepIn K (.ref f30) = true)
    (a31 : PySem.W.nsIn K mainGlobals "_law_states" = some (some (.ref f31))) (l31 : K.lookup f31 = some ⟨oc31, od31, .func (PySem.W.fnOf "_law_states" "_law_states" (defArgs s__law_states) (defBody s__law_states) (defScope s__law_states) .none kV31 dc31 pm31 an31 cd31 ct31), sl31⟩) (c31 : PySem.W.codeIn K cd31 "_law_states" = true) (k31 : PySem.W.keepIn K (.ref f31) = true)
    (a32 : PySem.W.nsIn K mainGlobals "_law_begun" = some (some (.ref f32))) (l32 : K.lookup f32 = some ⟨oc32, od32, .func (PySem.W.fnOf "_law_begun" "_law_begun" (defArgs s__law_begun) (defBody s__law_begun) (defScope s__law_begun) .none kV32 dc32 pm32 an32 cd32 ct32), sl32⟩) (c32 : PySem.W.codeIn K cd32 "_law_begun" = true) (k32 : PySem.W.keepIn K (.ref f32) = true)
    (a33 : PySem.W.nsIn K mainGlobals "_law_kept" = some (some (.ref f33))) (l33 : K.lookup f33 = some ⟨oc33, od33, .func (PySem.W.fnOf "_law_kept" "_law_kept" (defArgs s__law_kept) (defBody s__law_kept) (defScope s__law_kept) .none kV33 dc33 pm33 an33 cd33 ct33), sl33⟩) (c33 : PySem.W.codeIn K cd33 "_law_kept" = true) (k33 : PySem.W.keepIn K (.ref f33) = true)
    (a34 : PySem.W.nsIn K mainGlobals "_law_same_right" = some (some (.ref f34))) (l34 : K.lookup f34 = some ⟨oc34, od34, .func (PySem.W.fnOf "_law_same_right" "_law_same_right" (defArgs s__law_same_right) (defBody s__law_same_right) (defScope s__law_same_right) .none kV34 dc34 pm34 an34 cd34 ct34), sl34⟩) (c34 : PySem.W.codeIn K cd34 "_law_same_right" = true) (k34 : PySem.W.keepIn K (.ref f34) = true)
    (a35 : PySem.W.nsIn K mainGlobals "law" = some (some (.ref f35))) (l35 : K.lookup f35 = some ⟨oc35, od35, .func (PySem.W.fnOf "law" "law" (defArgs s_law) (defBody s_law) (defScope s_law) .none kV35 dc35 pm35 an35 cd35 ct35), sl35⟩) (c35 : PySem.W.codeIn K cd35 "law" = true) (k35 : PySem.W.keepIn K (.ref f35) = true)
    (z1 : PySem.W.nsIn K mainGlobals "len" = some none)
    (z2 : PySem.W.nsIn K mainGlobals "sum" = some none)
    (z3 : PySem.W.nsIn K mainGlobals "isinstance" = some none)
    (z4 : PySem.W.nsIn K mainGlobals "enumerate" = some none)
    (z5 : PySem.W.nsIn K mainGlobals "range" = some none)
    (z6 : PySem.W.nsIn K mainGlobals "zip" = some none)
    (z7 : PySem.W.nsIn K mainGlobals "tuple" = some none)
    (z8 : PySem.W.nsIn K mainGlobals "list" = some none)
    (z9 : PySem.W.nsIn K mainGlobals "dict" = some none)
    (z10 : PySem.W.nsIn K mainGlobals "sorted" = some none)
    (z11 : PySem.W.nsIn K mainGlobals "min" = some none)
    (z12 : PySem.W.nsIn K mainGlobals "abs" = some none)
    (z13 : PySem.W.nsIn K mainGlobals "int" = some none)
    (z14 : PySem.W.nsIn K mainGlobals "bool" = some none)
    (n1 : PySem.W.nsIn K mainGlobals "MAX_PROCESSES" = some (some (.int 6 tk1)))
    (n2 : PySem.W.nsIn K mainGlobals "MAX_MESSAGES" = some (some (.int 24 tk2)))
    (n3 : PySem.W.nsIn K mainGlobals "MAX_EVENTS" = some (some (.int 60 tk3))) :
    ∃ fd : FuncData, (∀ (s : Shared) (v : Value), BindsTo s fd ⟨[v], []⟩ [("_law_script", v)]) ∧ ∀ base : Heap, K.In base → base.Ns mainGlobals mg → FnOk l.prog w K mg base CX0 9 fa fd ["_law_script"] (spLaw K) := by
  have e := hfa.symm.trans (PySem.W.mg_of X G a35)
  cases e
  have T : Txt mg := ⟨PySem.W.mg_none_of X G z1, PySem.W.mg_none_of X G z2, PySem.W.mg_none_of X G z3, PySem.W.mg_none_of X G z4, PySem.W.mg_none_of X G z5, PySem.W.mg_none_of X G z6, PySem.W.mg_none_of X G z7, PySem.W.mg_none_of X G z8, PySem.W.mg_none_of X G z9, PySem.W.mg_none_of X G z10, PySem.W.mg_none_of X G z11, PySem.W.mg_none_of X G z12, PySem.W.mg_none_of X G z13, PySem.W.mg_none_of X G z14, ⟨_, PySem.W.mg_of X G n1⟩, ⟨_, PySem.W.mg_of X G n2⟩, ⟨_, PySem.W.mg_of X G n3⟩⟩
  have D1 : Dn K mg "is_number" s_is_number ["value", "low", "high"] := dn_mk X G a1 l1 c1 k1 fun _ _ _ _ _ _ us hl => match us, hl with | [_, _, _], _ => rfl
  have D2 : Dn K mg "all_places" s_all_places ["rows"] := dn_mk X G a2 l2 c2 k2 fun _ _ _ _ _ _ us hl => match us, hl with | [_], _ => rfl
  have D3 : Dn K mg "next_process" s_next_process ["rows", "done", "sent"] := dn_mk X G a3 l3 c3 k3 fun _ _ _ _ _ _ us hl => match us, hl with | [_, _, _], _ => rfl
  have D4 : Dn K mg "some_order" s_some_order ["history"] := dn_mk X G a4 l4 c4 k4 fun _ _ _ _ _ _ us hl => match us, hl with | [_], _ => rfl
  have D5 : Dn K mg "form_error" s_form_error ["value"] := dn_mk X G a5 l5 c5 k5 fun _ _ _ _ _ _ us hl => match us, hl with | [_], _ => rfl
  have D6 : Dn K mg "message_error" s_message_error ["rows"] := dn_mk X G a6 l6 c6 k6 fun _ _ _ _ _ _ us hl => match us, hl with | [_], _ => rfl
  have D7 : Dn K mg "history_error" s_history_error ["value"] := dn_mk X G a7 l7 c7 k7 fun _ _ _ _ _ _ us hl => match us, hl with | [_], _ => rfl
  have D8 : Dn K mg "is_history" s_is_history ["value"] := dn_mk X G a8 l8 c8 k8 fun _ _ _ _ _ _ us hl => match us, hl with | [_], _ => rfl
  have D9 : Dn K mg "state_numbers" s_state_numbers ["history"] := dn_mk X G a9 l9 c9 k9 fun _ _ _ _ _ _ us hl => match us, hl with | [_], _ => rfl
  have D10 : Dn K mg "place_of" s_place_of ["history", "state"] := dn_mk X G a10 l10 c10 k10 fun _ _ _ _ _ _ us hl => match us, hl with | [_, _], _ => rfl
  have D11 : Dn K mg "interval_at" s_interval_at ["row", "index"] := dn_mk X G a11 l11 c11 k11 fun _ _ _ _ _ _ us hl => match us, hl with | [_, _], _ => rfl
  have D12 : Dn K mg "message_table" s_message_table ["history"] := dn_mk X G a12 l12 c12 k12 fun _ _ _ _ _ _ us hl => match us, hl with | [_], _ => rfl
  have D13 : Dn K mg "with_event" s_with_event ["history", "process", "event"] := dn_mk X G a13 l13 c13 k13 fun _ _ _ _ _ _ us hl => match us, hl with | [_, _, _], _ => rfl
  have D14 : Dn K mg "moves_of" s_moves_of ["history"] := dn_mk X G a14 l14 c14 k14 fun _ _ _ _ _ _ us hl => match us, hl with | [_], _ => rfl
  have D15 : Dn K mg "all_states" s_all_states ["history"] := dn_mk X G a15 l15 c15 k15 fun _ _ _ _ _ _ us hl => match us, hl with | [_], _ => rfl
  have D16 : Dn K mg "longer_paths" s_longer_paths ["moves", "paths", "known"] := dn_mk X G a16 l16 c16 k16 fun _ _ _ _ _ _ us hl => match us, hl with | [_, _, _], _ => rfl
  have D17 : Dn K mg "find_zigzag" s_find_zigzag ["history", "one", "other"] := dn_mk X G a17 l17 c17 k17 fun _ _ _ _ _ _ us hl => match us, hl with | [_, _, _], _ => rfl
  have D18 : Dn K mg "received_messages" s_received_messages ["history"] := dn_mk X G a18 l18 c18 k18 fun _ _ _ _ _ _ us hl => match us, hl with | [_], _ => rfl
  have D19 : Dn K mg "causal_past" s_causal_past ["history", "state"] := dn_mk X G a19 l19 c19 k19 fun _ _ _ _ _ _ us hl => match us, hl with | [_, _], _ => rfl
  have D20 : Dn K mg "vector_of" s_vector_of ["history", "state"] := dn_mk X G a20 l20 c20 k20 fun _ _ _ _ _ _ us hl => match us, hl with | [_, _], _ => rfl
  have D21 : Dn K mg "comes_before" s_comes_before ["history", "one", "other"] := dn_mk X G a21 l21 c21 k21 fun _ _ _ _ _ _ us hl => match us, hl with | [_, _, _], _ => rfl
  have D22 : Dn K mg "message_intervals" s_message_intervals ["history"] := dn_mk X G a22 l22 c22 k22 fun _ _ _ _ _ _ us hl => match us, hl with | [_], _ => rfl
  have D23 : Dn K mg "zigzag_ends" s_zigzag_ends ["rows", "count", "state"] := dn_mk X G a23 l23 c23 k23 fun _ _ _ _ _ _ us hl => match us, hl with | [_, _, _], _ => rfl
  have D24 : Dn K mg "find_untracked" s_find_untracked ["history"] := dn_mk X G a24 l24 c24 k24 fun _ _ _ _ _ _ us hl => match us, hl with | [_], _ => rfl
  have D25 : Dn K mg "is_tracked" s_is_tracked ["history"] := dn_mk X G a25 l25 c25 k25 fun _ _ _ _ _ _ us hl => match us, hl with | [_], _ => rfl
  have D26 : Dn K mg "_law_deck" s__law_deck ["_law_script"] := dn_mk X G a26 l26 c26 k26 fun _ _ _ _ _ _ us hl => match us, hl with | [_], _ => rfl
  have D27 : Dn K mg "_law_next" s__law_next ["_law_deck_here", "_law_many"] := dn_mk X G a27 l27 c27 k27 fun _ _ _ _ _ _ us hl => match us, hl with | [_, _], _ => rfl
  have D28 : Dn K mg "_law_one" s__law_one ["_law_deck_here", "_law_some"] := dn_mk X G a28 l28 c28 k28 fun _ _ _ _ _ _ us hl => match us, hl with | [_, _], _ => rfl
  have D29 : Dn K mg "_law_shuffled" s__law_shuffled ["_law_deck_here", "_law_items"] := dn_mk X G a29 l29 c29 k29 fun _ _ _ _ _ _ us hl => match us, hl with | [_, _], _ => rfl
  have D30 : Dn K mg "_law_history" s__law_history ["_law_deck_here", "_law_people", "_law_most"] := dn_mk X G a30 l30 c30 k30 fun _ _ _ _ _ _ us hl => match us, hl with | [_, _, _], _ => rfl
  have D31 : Dn K mg "_law_states" s__law_states ["_law_rows"] := dn_mk X G a31 l31 c31 k31 fun _ _ _ _ _ _ us hl => match us, hl with | [_], _ => rfl
  have D32 : Dn K mg "_law_begun" s__law_begun ["_law_rows", "_law_many"] := dn_mk X G a32 l32 c32 k32 fun _ _ _ _ _ _ us hl => match us, hl with | [_, _], _ => rfl
  have D33 : Dn K mg "_law_kept" s__law_kept ["_law_rows"] := dn_mk X G a33 l33 c33 k33 fun _ _ _ _ _ _ us hl => match us, hl with | [_], _ => rfl
  have D34 : Dn K mg "_law_same_right" s__law_same_right ["_law_deck_here", "_law_rows", "_law_longer"] := dn_mk X G a34 l34 c34 k34 fun _ _ _ _ _ _ us hl => match us, hl with | [_, _, _], _ => rfl
  refine ⟨PySem.W.fnOf "law" "law" (defArgs s_law) (defBody s_law) (defScope s_law) .none kV35 dc35 pm35 an35 cd35 ct35, fun s v => .of_eq rfl, fun base _ _ => ?_⟩
  have e_is_number := c_is_number (P := l.prog) (w := w) (K := K) (mg := mg) (base := base) T D1 
  have e_all_places := c_all_places (P := l.prog) (w := w) (K := K) (mg := mg) (base := base) T D2 
  have e_next_process := c_next_process (P := l.prog) (w := w) (K := K) (mg := mg) (base := base) T D3 
  have e_some_order := c_some_order (P := l.prog) (w := w) (K := K) (mg := mg) (base := base) T D4 e_next_process
  have e_form_error := c_form_error (P := l.prog) (w := w) (K := K) (mg := mg) (base := base) T D5 e_all_places e_is_number
  have e_message_error := c_message_error (P := l.prog) (w := w) (K := K) (mg := mg) (base := base) T D6 e_all_places
  have e_history_error := c_history_error (P := l.prog) (w := w) (K := K) (mg := mg) (base := base) T D7 e_form_error e_message_error e_some_order
  have e_is_history := c_is_history (P := l.prog) (w := w) (K := K) (mg := mg) (base := base) T D8 e_history_error
  have e_state_numbers := c_state_numbers (P := l.prog) (w := w) (K := K) (mg := mg) (base := base) T D9 
  have e_place_of := c_place_of (P := l.prog) (w := w) (K := K) (mg := mg) (base := base) T D10 
  have e_interval_at := c_interval_at (P := l.prog) (w := w) (K := K) (mg := mg) (base := base) T D11 
  have e_message_table := c_message_table (P := l.prog) (w := w) (K := K) (mg := mg) (base := base) T D12 e_all_places
  have e_with_event := c_with_event (P := l.prog) (w := w) (K := K) (mg := mg) (base := base) T D13 e_is_history
  have e_moves_of := c_moves_of (P := l.prog) (w := w) (K := K) (mg := mg) (base := base) T D14 e_message_table e_interval_at
  have e_all_states := c_all_states (P := l.prog) (w := w) (K := K) (mg := mg) (base := base) T D15 e_state_numbers
  have e_longer_paths := c_longer_paths (P := l.prog) (w := w) (K := K) (mg := mg) (base := base) T D16 
  have e_find_zigzag := c_find_zigzag (P := l.prog) (w := w) (K := K) (mg := mg) (base := base) T D17 e_moves_of e_longer_paths
  have e_received_messages := c_received_messages (P := l.prog) (w := w) (K := K) (mg := mg) (base := base) T D18 e_message_table
  have e_causal_past := c_causal_past (P := l.prog) (w := w) (K := K) (mg := mg) (base := base) T D19 e_place_of e_received_messages
  have e_vector_of := c_vector_of (P := l.prog) (w := w) (K := K) (mg := mg) (base := base) T D20 e_causal_past e_interval_at
  have e_comes_before := c_comes_before (P := l.prog) (w := w) (K := K) (mg := mg) (base := base) T D21 e_vector_of
  have e_message_intervals := c_message_intervals (P := l.prog) (w := w) (K := K) (mg := mg) (base := base) T D22 e_received_messages e_interval_at
  have e_zigzag_ends := c_zigzag_ends (P := l.prog) (w := w) (K := K) (mg := mg) (base := base) T D23 
  have e_find_untracked := c_find_untracked (P := l.prog) (w := w) (K := K) (mg := mg) (base := base) T D24 e_all_states e_vector_of e_message_intervals e_zigzag_ends
  have e_is_tracked := c_is_tracked (P := l.prog) (w := w) (K := K) (mg := mg) (base := base) T D25 e_find_untracked
  have e__law_deck := c_law_deck (P := l.prog) (w := w) (K := K) (mg := mg) (base := base) T D26 
  have e__law_next := c_law_next (P := l.prog) (w := w) (K := K) (mg := mg) (base := base) T D27 
  have e__law_one := c_law_one (P := l.prog) (w := w) (K := K) (mg := mg) (base := base) T D28 e__law_next
  have e__law_shuffled := c_law_shuffled (P := l.prog) (w := w) (K := K) (mg := mg) (base := base) T D29 e__law_next
  have e__law_history := c_law_history (P := l.prog) (w := w) (K := K) (mg := mg) (base := base) T D30 e__law_next e__law_shuffled
  have e__law_states := c_law_states (P := l.prog) (w := w) (K := K) (mg := mg) (base := base) T D31 
  have e__law_begun := c_law_begun (P := l.prog) (w := w) (K := K) (mg := mg) (base := base) T D32 e_some_order
  have e__law_kept := c_law_kept (P := l.prog) (w := w) (K := K) (mg := mg) (base := base) T D33 e__law_states
  have e__law_same_right := c_law_same_right (P := l.prog) (w := w) (K := K) (mg := mg) (base := base) T D34 e__law_kept e_vector_of e__law_one e_comes_before e_find_zigzag e_is_tracked
  exact ok_law T (fun_mk (st := s_law) l35 c35 k35) e__law_deck e__law_history e__law_next e__law_begun e__law_same_right e_with_event
end K57
open PySem PySem.W PyProof.Rows
set_option maxHeartbeats 0 in
theorem PySem.Challenge.cw_savelines_k57_whole_histories_that_go_on_holds : PySem.Challenge.rw_savelines_k57_whole_histories_that_go_on.Holds := by
  w_on; o_law; k_head; (case hw => w_witness2)
  k_fill
  refine L2.walk_of (l := PySem.Challenge.rw_savelines_k57_whole_histories_that_go_on) (n := 63) (k := 9) (x := "_law_script") (CX := fun _ => L2.CX0) (sp := fun w => K57.spLaw _) rfl (by decide) rfl ⟨rfl, by decide, by decide⟩ (fun w h Y => PySem.W.kIn_of Y) ?F (fun _ _ a ns hl _ hS => ⟨a, ns, rfl, hS, hl, fun _ => rfl⟩) (fun _ _ _ _ _ h => h)
  case F =>
    intro w mg fa h KX G hmg
    refine' K57.all_mk KX G hmg ?a1 ?l1 ?c1 ?k1 ?a2 ?l2 ?c2 ?k2 ?a3 ?l3 ?c3 ?k3 ?a4 ?l4 ?c4 ?k4 ?a5 ?l5 ?c5 ?k5 ?a6 ?l6 ?c6 ?k6 ?a7 ?l7 ?c7 ?k7 ?a8 ?l8 ?c8 ?k8 ?a9 ?l9 ?c9 ?k9 ?a10 ?l10 ?c10 ?k10 ?a11 ?l11 ?c11 ?k11 ?a12 ?l12 ?c12 ?k12 ?a13 ?l13 ?c13 ?k13 ?a14 ?l14 ?c14 ?k14 ?a15 ?l15 ?c15 ?k15 ?a16 ?l16 ?c16 ?k16 ?a17 ?l17 ?c17 ?k17 ?a18 ?l18 ?c18 ?k18 ?a19 ?l19 ?c19 ?k19 ?a20 ?l20 ?c20 ?k20 ?a21 ?l21 ?c21 ?k21 ?a22 ?l22 ?c22 ?k22 ?a23 ?l23 ?c23 ?k23 ?a24 ?l24 ?c24 ?k24 ?a25 ?l25 ?c25 ?k25 ?a26 ?l26 ?c26 ?k26 ?a27 ?l27 ?c27 ?k27 ?a28 ?l28 ?c28 ?k28 ?a29 ?l29 ?c29 ?k29 ?a30 ?l30 ?c30 ?k30 ?a31 ?l31 ?c31 ?k31 ?a32 ?l32 ?c32 ?k32 ?a33 ?l33 ?c33 ?k33 ?a34 ?l34 ?c34 ?k34 ?a35 ?l35 ?c35 ?k35 ?z1 ?z2 ?z3 ?z4 ?z5 ?z6 ?z7 ?z8 ?z9 ?z10 ?z11 ?z12 ?z13 ?z14 ?n1 ?n2 ?n3
    (case a1 => k_is); (case l1 => k_is); (case c1 => k_is); (case k1 => k_is); (case a2 => k_is); (case l2 => k_is); (case c2 => k_is); (case k2 => k_is); (case a3 => k_is); (case l3 => k_is); (case c3 => k_is); (case k3 => k_is); (case a4 => k_is); (case l4 => k_is); (case c4 => k_is); (case k4 => k_is); (case a5 => k_is); (case l5 => k_is); (case c5 => k_is); (case k5 => k_is); (case a6 => k_is); (case l6 => k_is); (case c6 => k_is); (case k6 => k_is); (case a7 => k_is); (case l7 => k_is); (case c7 => k_is); (case k7 => k_is); (case a8 => k_is); (case l8 => k_is); (case c8 => k_is); (case k8 => k_is); (case a9 => k_is); (case l9 => k_is); (case c9 => k_is); (case k9 => k_is); (case a10 => k_is); (case l10 => k_is); (case c10 => k_is); (case k10 => k_is); (case a11 => k_is); (case l11 => k_is); (case c11 => k_is); (case k11 => k_is); (case a12 => k_is); (case l12 => k_is); (case c12 => k_is); (case k12 => k_is); (case a13 => k_is); (case l13 => k_is); (case c13 => k_is); (case k13 => k_is); (case a14 => k_is); (case l14 => k_is); (case c14 => k_is); (case k14 => k_is); (case a15 => k_is); (case l15 => k_is); (case c15 => k_is); (case k15 => k_is); (case a16 => k_is); (case l16 => k_is); (case c16 => k_is); (case k16 => k_is); (case a17 => k_is); (case l17 => k_is); (case c17 => k_is); (case k17 => k_is); (case a18 => k_is); (case l18 => k_is); (case c18 => k_is); (case k18 => k_is); (case a19 => k_is); (case l19 => k_is); (case c19 => k_is); (case k19 => k_is); (case a20 => k_is); (case l20 => k_is); (case c20 => k_is); (case k20 => k_is); (case a21 => k_is); (case l21 => k_is); (case c21 => k_is); (case k21 => k_is); (case a22 => k_is); (case l22 => k_is); (case c22 => k_is); (case k22 => k_is); (case a23 => k_is); (case l23 => k_is); (case c23 => k_is); (case k23 => k_is); (case a24 => k_is); (case l24 => k_is); (case c24 => k_is); (case k24 => k_is); (case a25 => k_is); (case l25 => k_is); (case c25 => k_is); (case k25 => k_is); (case a26 => k_is); (case l26 => k_is); (case c26 => k_is); (case k26 => k_is); (case a27 => k_is); (case l27 => k_is); (case c27 => k_is); (case k27 => k_is); (case a28 => k_is); (case l28 => k_is); (case c28 => k_is); (case k28 => k_is); (case a29 => k_is); (case l29 => k_is); (case c29 => k_is); (case k29 => k_is); (case a30 => k_is); (case l30 => k_is); (case c30 => k_is); (case k30 => k_is); (case a31 => k_is); (case l31 => k_is); (case c31 => k_is); (case k31 => k_is); (case a32 => k_is); (case l32 => k_is); (case c32 => k_is); (case k32 => k_is); (case a33 => k_is); (case l33 => k_is); (case c33 => k_is); (case k33 => k_is); (case a34 => k_is); (case l34 => k_is); (case c34 => k_is); (case k34 => k_is); (case a35 => k_is); (case l35 => k_is); (case c35 => k_is); (case k35 => k_is); (case z1 => k_is); (case z2 => k_is); (case z3 => k_is); (case z4 => k_is); (case z5 => k_is); (case z6 => k_is); (case z7 => k_is); (case z8 => k_is); (case z9 => k_is); (case z10 => k_is); (case z11 => k_is); (case z12 => k_is); (case z13 => k_is); (case z14 => k_is); (case n1 => k_is); (case n2 => k_is); (case n3 => k_is)
