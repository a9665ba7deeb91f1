import PyProof.Rows.All
import Wide.All
import OpenK.AllK
import Wide.FinOn
import PyProof.EqAt
import PyProof.EqKinds
import PyProof.TupleCall
import PyProof.DictMoreH
import KE.KeyNested
import HandS.ForSpec
import HandS.ForMost
import HandS.Conv
import HandS.TupAny
import HandS.TupLe
import HandS.Deep
import HandS.IsInst
import HandS.SortInts
import PyProof.DictDisplay
import KE.SortKeyed
import KE.DataMinKey
import KE.DataCmp
import HandS.SortKw
import HandS.Walk
import HandS.Comp
import HandS.Iter
import HandS.Text
import VaflxbSpec
import PySem.Challenge.RW_placesets_s01_answers
import KE.SortLaws
import KE.SortData
import VaflxbNeutral
import PyVaflxb
import Open.SpecLaws
import KE.OsHead
import KE.OsGo
import KE.RegKIsAll
set_option Elab.async false
set_option maxRecDepth 100000
set_option maxHeartbeats 2000000
/-! Dicts whose keys are None, whole numbers, tuples of such (nested): the raw level. Entries: key as data, the key's value, the value. -/
namespace Gd
open PySem PySem.Spec PyProof.Rows L2
abbrev REnt := NestedKey × Value × Value
def raw (w : World) (x : REnt) : DictEntry := ⟨x.1.hash w, x.2.1, x.2.2⟩
def atE (xs : List REnt) (k : NestedKey) : Option Value := (xs.find? fun x => decide (x.1 = k)).map (·.2.2)
def setE (k : NestedKey) (v : Value) (x : REnt) : REnt := if x.1 = k then (x.1, x.2.1, v) else x
def putR (xs : List REnt) (k : NestedKey) (u v : Value) : List REnt := if (atE xs k).isSome then xs.map (setE k v) else xs ++ [(k, u, v)]
def dropR (xs : List REnt) (k : NestedKey) : List REnt := xs.filter fun x => decide (x.1 ≠ k)

theorem idx_unique {xs : List REnt} (hn : (xs.map (·.1)).Nodup) {i j : Nat} {k : NestedKey} {p q : Value × Value} (hi : xs[i]? = some (k, p)) (hj : xs[j]? = some (k, q)) : i = j := by
  have hi' : (xs.map (·.1))[i]? = some k := by rw [List.getElem?_map, hi]; rfl
  have hj' : (xs.map (·.1))[j]? = some k := by rw [List.getElem?_map, hj]; rfl
  exact (List.getElem?_inj (List.getElem?_eq_some_iff.mp hi').1 hn).mp (hi'.trans hj'.symm)
theorem atE_of_get {xs : List REnt} (hn : (xs.map (·.1)).Nodup) {i : Nat} {k : NestedKey} {p : Value × Value} (hx : xs[i]? = some (k, p)) : atE xs k = some p.2 := by
  induction xs generalizing i with
  | nil => simp at hx
  | cons x rest ih =>
    rw [List.map_cons, List.nodup_cons] at hn
    cases i with
    | zero =>
      simp only [List.getElem?_cons_zero, Option.some.injEq] at hx
      subst hx; simp [atE]
    | succ j =>
      simp only [List.getElem?_cons_succ] at hx
      have hmem : k ∈ rest.map (·.1) := List.mem_map.mpr ⟨(k, p), List.mem_of_getElem? hx, rfl⟩
      have hne : ¬ x.1 = k := fun e => hn.1 (e ▸ hmem)
      have := ih hn.2 hx
      simpa [atE, List.find?_cons, hne] using this
theorem atE_none_of_get {xs : List REnt} {k : NestedKey} (h : ∀ (j : Nat) (p : Value × Value), xs[j]? ≠ some (k, p)) : atE xs k = none := by
  have : (xs.find? fun x => decide (x.1 = k)) = none := by
    rw [List.find?_eq_none]
    intro x hx hk
    obtain ⟨j, hj⟩ := List.mem_iff_getElem?.mp hx
    have hk' : x.1 = k := of_decide_eq_true hk
    exact h j x.2 (by rw [hj, ← hk'])
  simp [atE, this]
theorem not_mem_of_get {xs : List REnt} {k : NestedKey} (h : ∀ (j : Nat) (p : Value × Value), xs[j]? ≠ some (k, p)) : k ∉ xs.map (·.1) := by
  intro hm
  obtain ⟨x, hx, rfl⟩ := List.mem_map.mp hm
  obtain ⟨j, hj⟩ := List.mem_iff_getElem?.mp hx
  exact h j x.2 hj
theorem map_setE_of_not_mem (xs : List REnt) (k : NestedKey) (v : Value) (hn : k ∉ xs.map (·.1)) : xs.map (setE k v) = xs := by
  induction xs with
  | nil => rfl
  | cons x xs ih =>
    simp only [List.map_cons, List.mem_cons, not_or] at hn ⊢
    rw [setE, if_neg (fun e => hn.1 e.symm), ih hn.2]
theorem keys_setE (xs : List REnt) (k : NestedKey) (v : Value) : (xs.map (setE k v)).map (·.1) = xs.map (·.1) := by
  induction xs with
  | nil => rfl
  | cons x xs ih =>
    simp only [List.map_cons, ih]
    by_cases hk : x.1 = k <;> simp [setE, hk]
theorem modify_setE (w : World) (k : NestedKey) (v : Value) : ∀ {xs : List REnt} {j : Nat} {p : Value × Value}, (xs.map (·.1)).Nodup → xs[j]? = some (k, p) → (xs.map (raw w)).modify j (fun e : DictEntry => { e with val := v }) = (xs.map (setE k v)).map (raw w) := by
  intro xs
  induction xs with
  | nil => intro j p _ hj; simp at hj
  | cons x rest ih =>
    intro j p hn hj
    rw [List.map_cons, List.nodup_cons] at hn
    cases j with
    | zero =>
      simp only [List.getElem?_cons_zero, Option.some.injEq] at hj
      subst hj
      rw [List.map_cons, List.map_cons, map_setE_of_not_mem rest k v hn.1, setE, if_pos rfl, List.map_cons]
      rfl
    | succ j =>
      simp only [List.getElem?_cons_succ] at hj
      have hmem : k ∈ rest.map (·.1) := List.mem_map.mpr ⟨(k, p), List.mem_of_getElem? hj, rfl⟩
      have hne : ¬ x.1 = k := fun e => hn.1 (e ▸ hmem)
      rw [List.map_cons, List.map_cons, setE, if_neg hne, List.map_cons]
      show raw w x :: (rest.map (raw w)).modify j _ = raw w x :: (rest.map (setE k v)).map (raw w)
      rw [ih hn.2 hj]
theorem dropR_of_not_mem (xs : List REnt) (k : NestedKey) (hn : k ∉ xs.map (·.1)) : dropR xs k = xs := by
  induction xs with
  | nil => rfl
  | cons x xs ih =>
    simp only [List.map_cons, List.mem_cons, not_or] at hn
    have h1 : x.1 ≠ k := fun e => hn.1 e.symm
    simp only [dropR, List.filter_cons, decide_eq_true h1, if_true]
    exact congrArg _ (ih hn.2)
theorem eraseIdx_dropR {xs : List REnt} : ∀ {j : Nat} {k : NestedKey} {p : Value × Value}, (xs.map (·.1)).Nodup → xs[j]? = some (k, p) → xs.eraseIdx j = dropR xs k := by
  induction xs with
  | nil => intro j k p _ hj; simp at hj
  | cons x rest ih =>
    intro j k p hn hj
    rw [List.map_cons, List.nodup_cons] at hn
    cases j with
    | zero =>
      simp only [List.getElem?_cons_zero, Option.some.injEq] at hj
      subst hj
      rw [List.eraseIdx_cons_zero]
      have e : dropR ((k, p) :: rest) k = dropR rest k := by
        simp only [dropR, List.filter_cons, ne_eq, not_true_eq_false, decide_false, Bool.false_eq_true, if_false]
      rw [e, dropR_of_not_mem rest k hn.1]
    | succ j =>
      simp only [List.getElem?_cons_succ] at hj
      have hmem : k ∈ rest.map (·.1) := List.mem_map.mpr ⟨(k, p), List.mem_of_getElem? hj, rfl⟩
      have hne : x.1 ≠ k := fun e => hn.1 (e ▸ hmem)
      rw [List.eraseIdx_cons_succ, ih hn.2 hj]
      simp only [dropR, List.filter_cons, decide_eq_true hne, if_true]
theorem nodup_dropR {xs : List REnt} (hn : (xs.map (·.1)).Nodup) (k : NestedKey) : ((dropR xs k).map (·.1)).Nodup :=
  List.Nodup.sublist (List.Sublist.map _ List.filter_sublist) hn

/-- the dict at d, its entries xs, its epoch ep -/
structure RDict (w : World) (h : Heap) (d : Addr) (xs : List REnt) (ep : Nat) : Prop where
  at_ : ∃ o es, h.get? d = some o ∧ o.ExactDict ∧ o.data = .dict es ep ∧ es.toList = xs.map (raw w)
  nd : (xs.map (·.1)).Nodup
/-- u is the key k -/
def KeyAt (h : Heap) (k : NestedKey) (u : Value) : Prop := NestedIs h k u ∧ k.depth ≤ 8
def KeysAt (h : Heap) (xs : List REnt) : Prop := ∀ x ∈ xs, KeyAt h x.1 x.2.1
theorem KeyAt.but {h h' : Heap} {d : Addr} {o : Obj} {es : Array DictEntry} {ep : Nat} {k : NestedKey} {u : Value} (x : KeyAt h k u) (ho : h.get? d = some o) (hd : o.data = .dict es ep) (hs : Heap.SameBut d h h') : KeyAt h' k u :=
  ⟨NestedIs.at (fun b ob vs n hb hc => by
    refine (hs.2 b fun e => ?_).trans hb
    subst e
    rw [ho] at hb
    cases hb
    rw [hd] at hc
    cases hc) k _ x.1, x.2⟩
theorem RDict.typeIs {w : World} {s : Shared} {d : Addr} {xs : List REnt} {ep : Nat} (m : RDict w s.heap d xs ep) : s.TypeIs (.ref d) "dict" := let ⟨o, _, ho, hc, _⟩ := m.at_; ⟨o, ho, hc.1⟩
theorem entry_at {w : World} {es : Array DictEntry} {xs : List REnt} (he : es.toList = xs.map (raw w)) (j : Nat) : es[j]? = (xs[j]?).map (raw w) := by
  rw [← Array.getElem?_toList, he, List.getElem?_map]
theorem size_of {w : World} {es : Array DictEntry} {xs : List REnt} (he : es.toList = xs.map (raw w)) : es.size = xs.length := by
  rw [← Array.length_toList, he, List.length_map]

section
variable {prog : Program} {w : World} {A : Around} {E : Value → Shared → Prop} {s : Shared}
theorem quiet {k : NestedKey} {u : Value} {Q : Bool → Shared → Prop} (hk : KeyAt s.heap k u) (h : Q true s) : wpAny (model prog w) A (eqIsQuiet 8 u) Q E s :=
  quiet_key k _ 8 s hk.1 hk.2 A E Q h
theorem tell_quiet {u : Value} {k : NestedKey} {stored : List Value} {Q : Bool → Shared → Prop} (hkey : KeyAt s.heap k u)
    (hst : ∀ v ∈ stored, ∃ k', KeyAt s.heap k' v) (h : Q false s) : wpAny (model prog w) A (tableMayTell u stored) Q E s := by
  unfold tableMayTell
  split
  · exact wpAny_pure h
  · refine wpAny_bind (quiet hkey ?_)
    simp only [Bool.not_true, Bool.false_eq_true, if_false]
    refine wpAny_bind ?_
    refine wpAny_forIn_list _ (fun rest r s' => s' = s ∧ r = (none, ()) ∧ ∀ v ∈ rest, ∃ k', KeyAt s.heap k' v) _ ?_ ?_ _ _ ⟨rfl, rfl, hst⟩
    · rintro x rest r s' ⟨rfl, rfl, hr⟩
      obtain ⟨k', hb⟩ := hr x List.mem_cons_self
      refine wpAny_bind (quiet hb ?_)
      simp only [Bool.not_true, Bool.false_eq_true, if_false]
      exact wpAny_pure ⟨rfl, rfl, fun v hv => hr v (List.mem_cons_of_mem _ hv)⟩
    · rintro r s' ⟨rfl, rfl, _⟩
      exact wpAny_pure h
theorem eqb {x y : NestedKey} {a b : Value} {Q : Bool → Shared → Prop} (hu : A.units + 8 < cLine) (hx : KeyAt s.heap x a) (hy : KeyAt s.heap y b) (h : Q (decide (x = y)) s) : wpAny (model prog w) A (eqBool a b) Q E s :=
  eqAt_key x y A s _ _ hx.1 hy.1 (by have := hx.2; omega) _ _ _ _ (by rw [← NestedKey.decide_eq]; exact h)
/-- no text is a key here -/
def noStr : Value → Bool
  | .str _ _ => false
  | _ => true
theorem find {d : Addr} {u : Value} {o : Obj} {es : Array DictEntry} {ep : Nat} {xs : List REnt} {k : NestedKey} {Q : Option Nat → Shared → Prop} (hu : A.units + 8 < cLine) (hkey : KeyAt s.heap k u) (hns : noStr u = true)
    (ho : s.heap.get? d = some o) (hd : o.data = .dict es ep) (he : es.toList = xs.map (raw w)) (his : KeysAt s.heap xs) (hn : (xs.map (·.1)).Nodup)
    (hnone : (∀ (j : Nat) (p : Value × Value), xs[j]? ≠ some (k, p)) → Q none s) (hsome : ∀ (j : Nat) (p : Value × Value), xs[j]? = some (k, p) → Q (some j) s) :
    wpAny (model prog w) A (dictFind d u (k.hash w)) Q E s := by
  have hsz : es.size = xs.length := size_of he
  have haskey : ∀ (j : Nat) (p : Value × Value), xs[j]? = some (k, p) → ((es[j]?.map (·.hash)) == some (k.hash w)) = true := by
    intro j p hj
    rw [entry_at he j, hj]
    simp [raw]
  have hmem : ∀ e ∈ es, ∃ x ∈ xs, e = raw w x := by
    intro e hin
    have : e ∈ xs.map (raw w) := he ▸ Array.mem_toList_iff.mpr hin
    obtain ⟨x, hx, rfl⟩ := List.mem_map.mp this
    exact ⟨x, hx, rfl⟩
  have hst : ∀ v ∈ (placesWithHash es.size (fun i => es[i]?.map (·.hash)) (k.hash w)).filterMap (fun i => es[i]?.map (·.key)), ∃ k', KeyAt s.heap k' v := by
    intro v hv
    obtain ⟨i, _, hi⟩ := List.mem_filterMap.mp hv
    cases hei : es[i]? with
    | none => rw [hei] at hi; cases hi
    | some e =>
      rw [hei] at hi
      obtain rfl : e.key = v := by simpa using hi
      obtain ⟨x, hx, rfl⟩ := hmem e (Array.mem_of_getElem? hei)
      exact ⟨x.1, his x hx⟩
  -- one turn's knowledge
  have stepH : ∀ {i x : Nat} {hit : Option Nat} {k' : NestedKey} {b v' : Value}, (∀ j, i ≤ j → j < x → ((es[j]?.map (·.hash)) == some (k.hash w)) = false) → xs[x]? = some (k', b, v') →
      ((hit = none ∧ ∀ j p, j < i → xs[j]? ≠ some (k, p)) ∨ ∃ j p, hit = some j ∧ j < i ∧ xs[j]? = some (k, p)) → i ≤ x →
      ((hit = none ∧ ∀ j p, j < x → xs[j]? ≠ some (k, p)) ∨ ∃ j p, hit = some j ∧ j < x ∧ xs[j]? = some (k, p)) := by
    intro i x hit k' b v' hskip hkv hH hix
    rcases hH with ⟨h0, hno⟩ | ⟨j, p, h1, hji, hj⟩
    · refine .inl ⟨h0, fun j p hjx hj => ?_⟩
      rcases Nat.lt_or_ge j i with h | h
      · exact hno j p h hj
      · have := hskip j h hjx
        rw [haskey j p hj] at this
        exact absurd this (by decide)
    · exact .inr ⟨j, p, h1, by omega, hj⟩
  have stay : ∀ {x : Nat} {hit : Option Nat} {k' : NestedKey} {b v' : Value}, xs[x]? = some (k', b, v') →
      ((hit = none ∧ ∀ j p, j < x → xs[j]? ≠ some (k, p)) ∨ ∃ j p, hit = some j ∧ j < x ∧ xs[j]? = some (k, p)) → ¬ k' = k →
      ((hit = none ∧ ∀ j p, j < x + 1 → xs[j]? ≠ some (k, p)) ∨ ∃ j p, hit = some j ∧ j < x + 1 ∧ xs[j]? = some (k, p)) := by
    intro x hit k' b v' hkv hHx hne
    rcases hHx with ⟨h0, hno⟩ | ⟨j, p, h1, hjx, hj⟩
    · refine .inl ⟨h0, fun j p hjx hj => ?_⟩
      rcases Nat.lt_or_ge j x with h | h
      · exact hno j p h hj
      · have hjx' : j = x := by omega
        subst hjx'
        rw [hkv] at hj
        injection hj with hj
        injection hj with hj
        exact hne hj
    · exact .inr ⟨j, p, h1, by omega, hj⟩
  have atEnd : ∀ {i : Nat} {hit : Option Nat}, (∀ j, i ≤ j → j < es.size → ((es[j]?.map (·.hash)) == some (k.hash w)) = false) →
      ((hit = none ∧ ∀ j p, j < i → xs[j]? ≠ some (k, p)) ∨ ∃ j p, hit = some j ∧ j < i ∧ xs[j]? = some (k, p)) → Q hit s := by
    intro i hit hall hH
    rcases hH with ⟨rfl, hno⟩ | ⟨j, p, rfl, _, hj⟩
    · refine hnone fun j p hj => ?_
      rcases Nat.lt_or_ge j i with h | h
      · exact hno j p h hj
      · have hjl : j < es.size := by
          rw [hsz]
          rcases Nat.lt_or_ge j xs.length with h' | h'
          · exact h'
          · rw [List.getElem?_eq_none h'] at hj; exact nomatch hj
        have := hall j h hjl
        rw [haskey j p hj] at this
        exact absurd this (by decide)
    · exact hsome j p hj
  have walk : ∀ (i : Nat), i ≤ es.size → (∀ j p, j < i → xs[j]? ≠ some (k, p)) →
      wpAny (model prog w) A (dictWalkPlain d u (k.hash w) es ((List.range' i (es.size - i)).filter (fun i => (es[i]?.map (·.hash)) == some (k.hash w)))) Q E s := by
    intro i hi hno
    unfold dictWalkPlain
    refine wpAny_bind ?_
    refine wpAny_forIn_list _
      (fun rest b s' => s' = s ∧ ∃ i, b = (none, ()) ∧ rest = (List.range' i (es.size - i)).filter (fun i => (es[i]?.map (·.hash)) == some (k.hash w)) ∧ i ≤ es.size ∧ ∀ j p, j < i → xs[j]? ≠ some (k, p)) _ ?_ ?_ _ _
      ⟨rfl, i, rfl, rfl, hi, hno⟩
    · rintro x rest b s' ⟨rfl, i, rfl, hr, hi, hH⟩
      obtain ⟨hix, hxn, hpx, hskip, hrest⟩ := filter_range'_cons _ _ _ _ _ hr.symm
      have hlt : x < es.size := by omega
      have hrest' : rest = (List.range' (x + 1) (es.size - (x + 1))).filter (fun i => (es[i]?.map (·.hash)) == some (k.hash w)) := by rw [hrest]; congr 2; omega
      obtain ⟨⟨k', b, v'⟩, hkv⟩ : ∃ y, xs[x]? = some y := ⟨xs[x]'(by rw [← hsz]; exact hlt), List.getElem?_eq_getElem _⟩
      have hib : KeyAt s'.heap k' b := his _ (List.mem_of_getElem? hkv)
      have hex : es[x]? = some ⟨k'.hash w, b, v'⟩ := by rw [entry_at he x, hkv]; rfl
      have hHx := stepH (hit := none) hskip hkv (.inl ⟨rfl, hH⟩) hix
      have nx : ¬ k' = k → ∀ j p, j < x + 1 → xs[j]? ≠ some (k, p) := fun hne => by
        rcases stay hkv hHx hne with ⟨_, h⟩ | ⟨_, _, h, _⟩
        · exact h
        · cases h
      rw [hex]
      dsimp only
      by_cases hh : (k'.hash w == k.hash w) = true
      · rw [if_pos hh]
        refine wpAny_bind (wpAny_dictEpoch ho hd (wpAny_bind (eqb (x := k') (y := k) hu hib hkey (wpAny_bind (wpAny_dictEpoch ho hd ?_)))))
        show wpAny _ _ (if (ep != ep) = true then _ else _) _ E _
        rw [if_neg (by simp)]
        by_cases hkk : k' = k
        · rw [decide_eq_true hkk]
          subst hkk
          first | rw [if_pos rfl] | skip
          refine wpAny_bind (wpAny_rule ?_)
          exact wpAny_pure (wpAny_pure (hsome x _ hkv))
        · rw [decide_eq_false hkk]
          simp only [Bool.false_eq_true, if_false]
          refine wpAny_bind (wpAny_rule ?_)
          exact wpAny_pure ⟨rfl, x + 1, rfl, hrest', hlt, nx hkk⟩
      · rw [if_neg hh]
        refine wpAny_pure ⟨rfl, x + 1, rfl, hrest', hlt, nx ?_⟩
        intro hkk
        rw [hkk] at hh; simp at hh
    · rintro b s' ⟨rfl, i, rfl, hr, hi, hH⟩
      have hall : ∀ j, i ≤ j → j < es.size → ((es[j]?.map (·.hash)) == some (k.hash w)) = false := by
        intro j h1 h2
        have := List.filter_eq_nil_iff.mp hr.symm j (List.mem_range'_1.mpr ⟨h1, by omega⟩)
        simpa using this
      exact wpAny_pure (atEnd (hit := none) hall (.inl ⟨rfl, hH⟩))
  unfold dictFind
  try with_reducible refine wpAny_holding ?_
  refine wpAny_bind (wpAny_dictEntries ho hd ?_)
  have rest : wpAny (model prog w) A (do
      let places := placesWithHash es.size (fun i => es[i]?.map (·.hash)) (k.hash w)
      let stored := places.filterMap fun i => es[i]?.map (·.key)
      if (u :: stored).all carriedByValue then return ← dictWalkPlain d u (k.hash w) es places
      if let .ref _ := u then
        if es.any fun e => e.key == u && e.hash != k.hash w then unsupported "dict.find:a-stored-key-whose-hash-has-changed"
      let tells ← if stored == [u] then pure false else tableMayTell u stored
      if tells && stored.length ≥ 2 then unsupported "dict.find:order-among-keys-of-one-hash"
      let mut hit : Option Nat := none
      for i in places do
        if let some e := es[i]? then
          if e.hash == k.hash w then
            let before ← dictEpoch d (keyPart u)
            let same ← eqBool e.key u
            if (← dictEpoch d (keyPart u)) != before then unsupported "dict.changed-during-lookup"
            if same then
              if hit.isSome then unsupported "dict.find:order-among-keys-of-one-hash"
              rule "dict.find.hit"
              if stored.length < 2 then return some i
              hit := some i
            else
              rule "dict.find.same-hash-other-key"
              if tells && !(0 ≤ k.hash w && k.hash w < 32) then unsupported "dict.find:asked-again-or-not-hangs-on-the-table"
      return hit) Q E s := by
    dsimp only
    by_cases hall : ((u :: (placesWithHash es.size (fun i => es[i]?.map (·.hash)) (k.hash w)).filterMap (fun i => es[i]?.map (·.key))).all carriedByValue) = true
    · rw [if_pos hall]
      have z := walk 0 (Nat.zero_le _) (fun _ _ h => absurd h (Nat.not_lt_zero _))
      rw [Nat.sub_zero, ← List.range_eq_range'] at z
      exact z
    rw [if_neg hall]
    have main : wpAny (model prog w) A (do
      let tells ← if ((placesWithHash es.size (fun i => es[i]?.map (·.hash)) (k.hash w)).filterMap fun i => es[i]?.map (·.key)) == [u] then pure false else tableMayTell u ((placesWithHash es.size (fun i => es[i]?.map (·.hash)) (k.hash w)).filterMap fun i => es[i]?.map (·.key))
      if tells && ((placesWithHash es.size (fun i => es[i]?.map (·.hash)) (k.hash w)).filterMap fun i => es[i]?.map (·.key)).length ≥ 2 then unsupported "dict.find:order-among-keys-of-one-hash"
      let mut hit : Option Nat := none
      for i in (placesWithHash es.size (fun i => es[i]?.map (·.hash)) (k.hash w)) do
        if let some e := es[i]? then
          if e.hash == k.hash w then
            let before ← dictEpoch d (keyPart u)
            let same ← eqBool e.key u
            if (← dictEpoch d (keyPart u)) != before then unsupported "dict.changed-during-lookup"
            if same then
              if hit.isSome then unsupported "dict.find:order-among-keys-of-one-hash"
              rule "dict.find.hit"
              if ((placesWithHash es.size (fun i => es[i]?.map (·.hash)) (k.hash w)).filterMap fun i => es[i]?.map (·.key)).length < 2 then return some i
              hit := some i
            else
              rule "dict.find.same-hash-other-key"
              if tells && !(0 ≤ k.hash w && k.hash w < 32) then unsupported "dict.find:asked-again-or-not-hangs-on-the-table"
      return hit) Q E s := by
      by_cases hone : (((placesWithHash es.size (fun i => es[i]?.map (·.hash)) (k.hash w)).filterMap (fun i => es[i]?.map (·.key))) == [u]) = true <;>
      (first | rw [if_pos hone] | rw [if_neg hone]) <;> (first | refine wpAny_bind (wpAny_pure ?_) | refine wpAny_bind (tell_quiet hkey hst ?_)) <;> (
        try dsimp only
        rw [if_neg (by simp)]
        refine wpAny_bind ?_
        refine wpAny_forIn_list _
          (fun rest b s' => s' = s ∧ ∃ i hit, b = (none, hit) ∧ rest = (List.range' i (es.size - i)).filter (fun i => (es[i]?.map (·.hash)) == some (k.hash w)) ∧ i ≤ es.size ∧
            ((hit = none ∧ ∀ j p, j < i → xs[j]? ≠ some (k, p)) ∨ ∃ j p, hit = some j ∧ j < i ∧ xs[j]? = some (k, p))) _ ?_ ?_ _ _
          ⟨rfl, 0, none, rfl, by rw [placesWithHash, List.range_eq_range', Nat.sub_zero], Nat.zero_le _, .inl ⟨rfl, fun _ _ h => absurd h (Nat.not_lt_zero _)⟩⟩
        · rintro x rest b s' ⟨rfl, i, hit, rfl, hr, hi, hH⟩
          obtain ⟨hix, hxn, hpx, hskip, hrest⟩ := filter_range'_cons _ _ _ _ _ hr.symm
          have hlt : x < es.size := by omega
          have hrest' : rest = (List.range' (x + 1) (es.size - (x + 1))).filter (fun i => (es[i]?.map (·.hash)) == some (k.hash w)) := by rw [hrest]; congr 2; omega
          obtain ⟨⟨k', b, v'⟩, hkv⟩ : ∃ y, xs[x]? = some y := ⟨xs[x]'(by rw [← hsz]; exact hlt), List.getElem?_eq_getElem _⟩
          have hib : KeyAt s'.heap k' b := his _ (List.mem_of_getElem? hkv)
          have hex : es[x]? = some ⟨k'.hash w, b, v'⟩ := by rw [entry_at he x, hkv]; rfl
          have hHx := stepH hskip hkv hH hix
          have hstay := stay hkv hHx
          rw [hex]
          dsimp only
          by_cases hh : (k'.hash w == k.hash w) = true
          · rw [if_pos hh]
            refine wpAny_bind (wpAny_dictEpoch ho hd (wpAny_bind (eqb (x := k') (y := k) hu hib hkey (wpAny_bind (wpAny_dictEpoch ho hd ?_)))))
            show wpAny _ _ (if (ep != ep) = true then _ else _) _ E _
            rw [if_neg (by simp)]
            by_cases hkk : k' = k
            · rw [decide_eq_true hkk]
              subst hkk
              rcases hHx with ⟨rfl, _⟩ | ⟨j, p, _, hjx, hj⟩
              · first | rw [if_pos rfl] | skip
                simp only [Option.isSome_none, Bool.false_eq_true, if_false]
                first | refine wpAny_bind (wpAny_pure ?_) | skip
                refine wpAny_bind (wpAny_rule ?_)
                split
                · exact wpAny_pure (wpAny_pure (hsome x _ hkv))
                · exact wpAny_pure ⟨rfl, x + 1, some x, rfl, hrest', hlt, .inr ⟨x, _, rfl, Nat.lt_succ_self x, hkv⟩⟩
              · exact absurd (idx_unique hn hj hkv) (by omega)
            · rw [decide_eq_false hkk]
              simp only [Bool.false_eq_true, if_false]
              refine wpAny_bind (wpAny_rule ?_)
              first | rw [if_neg (by simp)] | skip
              first
                | exact wpAny_pure ⟨rfl, x + 1, hit, rfl, hrest', hlt, hstay hkk⟩
                | exact wpAny_bind (wpAny_pure (wpAny_pure ⟨rfl, x + 1, hit, rfl, hrest', hlt, hstay hkk⟩))
          · rw [if_neg hh]
            refine wpAny_pure ⟨rfl, x + 1, hit, rfl, hrest', hlt, hstay ?_⟩
            intro hkk
            rw [hkk] at hh; simp at hh
        · rintro b s' ⟨rfl, i, hit, rfl, hr, hi, hH⟩
          have hall : ∀ j, i ≤ j → j < es.size → ((es[j]?.map (·.hash)) == some (k.hash w)) = false := by
            intro j h1 h2
            have := List.filter_eq_nil_iff.mp hr.symm j (List.mem_range'_1.mpr ⟨h1, by omega⟩)
            simpa using this
          exact wpAny_pure (atEnd hall hH))
    cases u with
    | ref a =>
      have hany : ¬ (es.any fun e => e.key == Value.ref a && e.hash != k.hash w) = true := by
        rw [← Array.any_toList, List.any_eq_true]
        rintro ⟨e, hin, hc⟩
        obtain ⟨x, hx, rfl⟩ := hmem e (Array.mem_toList_iff.mp hin)
        simp only [raw, Bool.and_eq_true, beq_iff_eq, bne_iff_ne, ne_eq] at hc
        obtain ⟨hxa, hne⟩ := hc
        have := (his x hx).1
        rw [hxa] at this
        exact hne (by rw [NestedIs.inj _ _ _ this hkey.1])
      dsimp only
      rw [if_neg hany]
      exact main
    | _ => exact main
  cases u with
  | str x t => cases hns
  | _ => exact rest
end
end Gd
set_option Elab.async false
set_option maxRecDepth 100000
set_option maxHeartbeats 2000000
/-! get, set, setdefault, pop, in, len, iter of such a dict, at the raw level -/
namespace Gd
open PySem PySem.Spec PyProof.Rows L2
section
variable {prog : Program} {w : World} {A : Around} {E : Value → Shared → Prop} {s : Shared} {d : Addr} {xs : List REnt} {ep : Nat} {k : NestedKey} {u : Value}
theorem hash_ (hu : A.units + 8 < cLine) (hk : KeyAt s.heap k u) {Q : Int → Shared → Prop} (h : Q (k.hash w) { s with toks := s.toks + k.draws }) : wpAny (model prog w) A (pyHash u) Q E s :=
  pyHash_key k u A s Q hk.1 (by have := hk.2; omega) h
theorem putR_new {v : Value} (h : atE xs k = none) : putR xs k u v = xs ++ [(k, u, v)] := by simp [putR, h]
theorem putR_old {v p : Value} (h : atE xs k = some p) : putR xs k u v = xs.map (setE k v) := by simp [putR, h]
theorem get_ {Q : Option Value → Shared → Prop} (hu : A.units + 8 < cLine) (hkey : KeyAt s.heap k u) (hns : noStr u = true) (hm : RDict w s.heap d xs ep) (his : KeysAt s.heap xs)
    (h : Q (atE xs k) { s with toks := s.toks + k.draws }) : wpAny (model prog w) A (dictGet d u) Q E s := by
  obtain ⟨⟨o, es, ho, _, hd, he⟩, hn⟩ := hm
  unfold dictGet
  try with_reducible refine wpAny_holding ?_
  refine wpAny_bind (hash_ hu hkey (wpAny_bind (find (s := { s with toks := s.toks + k.draws }) hu hkey hns ho hd he his hn ?_ ?_)))
  · intro hno
    rw [atE_none_of_get hno] at h
    exact wpAny_pure h
  · intro j p hj
    rw [atE_of_get hn hj] at h
    refine wpAny_bind (wpAny_dictEntries (s := { s with toks := s.toks + k.draws }) ho hd ?_)
    rw [entry_at he j, hj]
    exact wpAny_pure h
/-- behind a store under a new key -/
theorem new_of {o : Obj} {es : Array DictEntry} {v : Value} (ho : s.heap.get? d = some o) (hc : o.ExactDict) (hd : o.data = .dict es ep) (he : es.toList = xs.map (raw w)) (hn : (xs.map (·.1)).Nodup) (hno : ∀ (j : Nat) (p : Value × Value), xs[j]? ≠ some (k, p)) :
    RDict w (s.heap.update d (Obj.mapDictKeys (·.push ⟨k.hash w, u, v⟩))) d (putR xs k u v) (ep + 1) := by
  have hnot : k ∉ xs.map (·.1) := not_mem_of_get hno
  refine ⟨⟨_, _, Heap.get?_update_self _ ho (Obj.isFreed_of_dict (Obj.data_mapDictKeys hd _)), hc.mapDictKeys _, Obj.data_mapDictKeys hd _, ?_⟩, ?_⟩
  · rw [putR_new (atE_none_of_get hno)]
    simp [he, raw]
  · rw [putR_new (atE_none_of_get hno), List.map_append, List.nodup_append]
    refine ⟨hn, by simp, ?_⟩
    intro x hx y hy
    simp only [List.map_cons, List.map_nil, List.mem_singleton] at hy
    subst hy
    exact fun e => hnot (e ▸ hx)
theorem set_ {v : Value} {Q : Unit → Shared → Prop} (hu : A.units + 8 < cLine) (hkey : KeyAt s.heap k u) (hns : noStr u = true) (hm : RDict w s.heap d xs ep) (his : KeysAt s.heap xs)
    (hQ : ∀ h' ep', RDict w h' d (putR xs k u v) ep' → Heap.SameBut d s.heap h' → Q () { s with heap := h', toks := s.toks + k.draws })
    (hsz : xs.length ≤ sizeLine) : wpAny (model prog w) A (dictSet d u v) Q E s := by
  obtain ⟨⟨o, es, ho, hc, hd, he⟩, hn⟩ := hm
  unfold dictSet
  try with_reducible refine wpAny_holding ?_
  refine wpAny_bind (hash_ hu hkey ?_)
  unfold dictSetHashed
  try with_reducible refine wpAny_holding ?_
  refine wpAny_bind (find (s := { s with toks := s.toks + k.draws }) hu hkey hns ho hd he his hn ?_ ?_)
  · intro hno
    refine wpAny_bind (wpAny_rule (wpAny_updateDictKeys (hz := by have e := size_of he; omega) (s := { s with toks := s.toks + k.draws }) ho hd (hQ _ (ep + 1) (new_of ho hc hd he hn hno) (Heap.SameBut.update ..))))
  · intro j p hj
    refine wpAny_bind (wpAny_rule (wpAny_bind (wpAny_updateDict (s := { s with toks := s.toks + k.draws }) ho hd (wpAny_point (hQ _ ep ⟨⟨_, _, Heap.get?_update_self _ ho (Obj.isFreed_of_dict (Obj.data_mapDict hd _)),
      hc.mapDict _, Obj.data_mapDict hd _, ?_⟩, ?_⟩ (Heap.SameBut.update ..))))))
    · rw [putR_old (atE_of_get hn hj)]
      have := modify_setE w k v hn hj
      rw [← he] at this
      obtain ⟨l⟩ := es
      simpa using this
    · rw [putR_old (atE_of_get hn hj), keys_setE]
      exact hn
theorem setdefault_ {v : Value} {Q : Value → Shared → Prop} (hu : A.units + 8 < cLine) (hkey : KeyAt s.heap k u) (hns : noStr u = true) (hm : RDict w s.heap d xs ep) (his : KeysAt s.heap xs)
    (h1 : ∀ p, atE xs k = some p → Q p { s with toks := s.toks + k.draws })
    (h2 : atE xs k = none → ∀ h' ep', RDict w h' d (putR xs k u v) ep' → Heap.SameBut d s.heap h' → Q v { s with heap := h', toks := s.toks + k.draws })
    (hsz : xs.length ≤ sizeLine) : wpAny (model prog w) A (dictSetDefault d u v) Q E s := by
  obtain ⟨⟨o, es, ho, hc, hd, he⟩, hn⟩ := hm
  unfold dictSetDefault
  try with_reducible refine wpAny_holding ?_
  refine wpAny_bind (hash_ hu hkey ?_)
  refine wpAny_bind (find (s := { s with toks := s.toks + k.draws }) hu hkey hns ho hd he his hn ?_ ?_)
  · intro hno
    refine wpAny_bind (wpAny_rule (wpAny_bind (wpAny_updateDictKeys (hz := by have e := size_of he; omega) (s := { s with toks := s.toks + k.draws }) ho hd (wpAny_pure (h2 (atE_none_of_get hno) _ (ep + 1) (new_of ho hc hd he hn hno) (Heap.SameBut.update ..))))))
  · intro j p hj
    refine wpAny_bind (wpAny_dictEntries (s := { s with toks := s.toks + k.draws }) ho hd ?_)
    rw [entry_at he j, hj]
    exact wpAny_bind (wpAny_rule (wpAny_pure (h1 p.2 (atE_of_get hn hj))))
theorem map_eraseIdx {α β : Type} (f : α → β) : ∀ (xs : List α) (j : Nat), (xs.eraseIdx j).map f = (xs.map f).eraseIdx j
  | [], _ => rfl
  | _ :: _, 0 => rfl
  | x :: xs, j + 1 => by rw [List.eraseIdx_cons_succ, List.map_cons, List.map_cons, List.eraseIdx_cons_succ, map_eraseIdx f xs j]
theorem takeOut {p : Value} {Q : Option DictEntry → Shared → Prop} (hu : A.units + 8 < cLine) (hkey : KeyAt s.heap k u) (hns : noStr u = true) (hm : RDict w s.heap d xs ep) (his : KeysAt s.heap xs) (hp : atE xs k = some p)
    (hsome : ∀ (e : DictEntry), e.val = p → ∀ h' ep', RDict w h' d (dropR xs k) ep' → Heap.SameBut d s.heap h' → Q (some e) { s with heap := h', toks := s.toks + k.draws })
    (hsz : xs.length ≤ sizeLine) : wpAny (model prog w) A (Builtin.Dict.takeOut d u) Q E s := by
  obtain ⟨⟨o, es, ho, hc, hd, he⟩, hn⟩ := hm
  unfold Builtin.Dict.takeOut
  try with_reducible refine wpAny_holding ?_
  refine wpAny_bind (hash_ hu hkey ?_)
  refine wpAny_bind (find (s := { s with toks := s.toks + k.draws }) hu hkey hns ho hd he his hn ?_ ?_)
  · intro hno
    rw [atE_none_of_get hno] at hp
    cases hp
  · intro j q hj
    have e1 := atE_of_get hn hj
    rw [hp] at e1
    refine wpAny_bind (wpAny_dictEntries (s := { s with toks := s.toks + k.draws }) ho hd ?_)
    rw [entry_at he j, hj]
    refine wpAny_bind (wpAny_updateDictKeys (hz := by have e := size_of he; omega) (s := { s with toks := s.toks + k.draws }) ho hd (wpAny_pure (hsome (raw w (k, q)) (Option.some.inj e1).symm _ (ep + 1) ⟨⟨_, _, Heap.get?_update_self _ ho (Obj.isFreed_of_dict (Obj.data_mapDictKeys hd _)),
      hc.mapDictKeys _, Obj.data_mapDictKeys hd _, ?_⟩, nodup_dropR hn k⟩ (Heap.SameBut.update ..))))
    rw [← eraseIdx_dropR hn hj, map_eraseIdx, ← he]
    obtain ⟨l⟩ := es
    simp
/-! ### the operations -/
theorem in_ {Q : Value → Shared → Prop} (hu : A.units + 9 < cLine) (hkey : KeyAt s.heap k u) (hns : noStr u = true) (hd : (d == sysModules) = false) (hm : RDict w s.heap d xs ep) (his : KeysAt s.heap xs)
    (h : Q (.bool (atE xs k).isSome) { s with toks := s.toks + k.draws }) : wpAny (model prog w) A (compareOp .In u (.ref d)) Q E s := by
  show wpAny _ _ (do return .bool (← contains (.ref d) u)) Q E s
  refine wpAny_bind ?_
  unfold contains
  try with_reducible refine wpAny_holding ?_
  refine wpAny_bind (wpAny_specialOf hm.typeIs slot_dict_contains.lookup ?_)
  show wpAny _ _ (if (some (Value.builtin "dict.__contains__") == some Value.none) = true then _ else _) _ E s
  rw [if_neg (by rw [beq_builtin_none]; exact Bool.false_ne_true)]
  refine wpAny_bind (wpAny_callSpecialUnlessNone?_slot (name := Str.ofString "__contains__") hm.typeIs slot_dict_contains
    (wpAny_call_entry slot_dict_contains hm.typeIs entry_dict_contains ?_ (args_dict_contains _ _)))
  show wpAny _ _ (dictGet d u >>= _) _ _ s
  refine wpAny_bind (get_ (A := A.in1) (by show A.units + 1 + 8 < cLine; omega) hkey hns hm his ?_)
  cases hf : atE xs k with
  | some p =>
    rw [hf] at h
    show wpAny _ _ (ret (.bool true)) _ _ _
    exact wpAny_pure ⟨_, rfl, wpAny_truthy_bool (wpAny_pure h)⟩
  | none =>
    rw [hf] at h
    show wpAny _ _ (Builtin.Dict.pendingKey? d u >>= _) _ _ _
    exact wpAny_bind (wpAny_pendingKey_other hd (wpAny_pure ⟨_, rfl, wpAny_truthy_bool (wpAny_pure h)⟩))
theorem notIn_ {Q : Value → Shared → Prop} (hu : A.units + 9 < cLine) (hkey : KeyAt s.heap k u) (hns : noStr u = true) (hd : (d == sysModules) = false) (hm : RDict w s.heap d xs ep) (his : KeysAt s.heap xs)
    (h : Q (.bool (!(atE xs k).isSome)) { s with toks := s.toks + k.draws }) : wpAny (model prog w) A (compareOp .NotIn u (.ref d)) Q E s := by
  show wpAny _ _ (do return .bool (!(← contains (.ref d) u))) Q E s
  refine wpAny_bind ?_
  unfold contains
  try with_reducible refine wpAny_holding ?_
  refine wpAny_bind (wpAny_specialOf hm.typeIs slot_dict_contains.lookup ?_)
  show wpAny _ _ (if (some (Value.builtin "dict.__contains__") == some Value.none) = true then _ else _) _ E s
  rw [if_neg (by rw [beq_builtin_none]; exact Bool.false_ne_true)]
  refine wpAny_bind (wpAny_callSpecialUnlessNone?_slot (name := Str.ofString "__contains__") hm.typeIs slot_dict_contains
    (wpAny_call_entry slot_dict_contains hm.typeIs entry_dict_contains ?_ (args_dict_contains _ _)))
  show wpAny _ _ (dictGet d u >>= _) _ _ s
  refine wpAny_bind (get_ (A := A.in1) (by show A.units + 1 + 8 < cLine; omega) hkey hns hm his ?_)
  cases hf : atE xs k with
  | some p =>
    rw [hf] at h
    show wpAny _ _ (ret (.bool true)) _ _ _
    exact wpAny_pure ⟨_, rfl, wpAny_truthy_bool (wpAny_pure h)⟩
  | none =>
    rw [hf] at h
    show wpAny _ _ (Builtin.Dict.pendingKey? d u >>= _) _ _ _
    exact wpAny_bind (wpAny_pendingKey_other hd (wpAny_pure ⟨_, rfl, wpAny_truthy_bool (wpAny_pure h)⟩))
theorem item_ {p : Value} {Q : Value → Shared → Prop} (hu : A.units + 9 < cLine) (hkey : KeyAt s.heap k u) (hns : noStr u = true) (hsl : ∀ a, u = .ref a → True) (hm : RDict w s.heap d xs ep) (his : KeysAt s.heap xs) (hp : atE xs k = some p)
    (h : Q p { s with toks := s.toks + k.draws }) : wpAny (model prog w) A (getItem (.ref d) u) Q E s := by
  unfold getItem
  try with_reducible refine wpAny_holding ?_
  refine wpAny_bind (wpAny_sequenceKey hm.typeIs (by decide) ?_)
  refine wpAny_bind (wpAny_callSpecial?_slot (name := Str.ofString "__getitem__") hm.typeIs slot_dict_getitem
    (wpAny_call_entry slot_dict_getitem hm.typeIs entry_dict_getitem ?_ (args_dict_getitem _ _)))
  show wpAny _ _ (dictGet d u >>= _) _ _ s
  refine wpAny_bind (get_ (A := A.in1) (by show A.units + 1 + 8 < cLine; omega) hkey hns hm his ?_)
  rw [hp]
  exact wpAny_pure ⟨p, rfl, wpAny_pure h⟩
theorem store_ {v : Value} {Q : Unit → Shared → Prop} (hu : A.units + 9 < cLine) (hkey : KeyAt s.heap k u) (hns : noStr u = true) (hm : RDict w s.heap d xs ep) (his : KeysAt s.heap xs)
    (hQ : ∀ h' ep', RDict w h' d (putR xs k u v) ep' → Heap.SameBut d s.heap h' → Q () { s with heap := h', toks := s.toks + k.draws })
    (hsz : xs.length ≤ sizeLine) : wpAny (model prog w) A (setItem (.ref d) u v) Q E s := by
  unfold setItem
  try with_reducible refine wpAny_holding ?_
  refine wpAny_bind (wpAny_sequenceKey hm.typeIs (by decide) ?_)
  refine wpAny_bind (wpAny_callSpecial?_slot (name := Str.ofString "__setitem__") hm.typeIs slot_dict_setitem
    (wpAny_call_entry slot_dict_setitem hm.typeIs entry_dict_setitem ?_ (args_dict_setitem _ _ _)))
  show wpAny _ _ (Builtin.Dict.notOrdered "__setitem__" ⟨[.ref d, u, v], []⟩ >>= _) _ _ s
  refine wpAny_bind (wpAny_notOrdered_dict hm.typeIs ?_)
  show wpAny _ _ (dictSet d u v >>= _) _ _ s
  exact wpAny_bind (set_ (A := A.in1) (hsz := hsz) (by show A.units + 1 + 8 < cLine; omega) hkey hns hm his fun h' e hm' hs' => wpAny_pure ⟨.none, rfl, wpAny_pure (hQ h' e hm' hs')⟩)
theorem callGet1 {Q : Value → Shared → Prop} (hu : A.units + 9 < cLine) (hkey : KeyAt s.heap k u) (hns : noStr u = true) (hd : (d == sysModules) = false) (hm : RDict w s.heap d xs ep) (his : KeysAt s.heap xs)
    (h : Q ((atE xs k).getD .none) { s with toks := s.toks + k.draws }) : wpAny (model prog w) A (call (.builtin "dict.get") [.ref d, u]) Q E s :=
  call_meetsIn (S := fun A R s => A = A ∧ ∃ Q E, A.units + 9 < cLine ∧ KeyAt s.heap k u ∧ RDict w s.heap d xs ep ∧ KeysAt s.heap xs ∧ R = wants Q E ∧ Q ((atE xs k).getD .none) { s with toks := s.toks + k.draws }) F.slot_dict_get hm.typeIs F.entry_dict_get (F.args_dict_get_2 _ _)
    (.of_wp fun A R s ⟨_, Q, E, hu, hkey, hm, his, hR, h⟩ => by
      subst hR
      show wpAny _ _ (dictGet d u >>= _) _ _ s
      refine wpAny_bind (get_ (A := A.in1) (by show A.units + 1 + 8 < cLine; omega) hkey hns hm his ?_)
      cases hf : atE xs k with
      | some v =>
        rw [hf] at h
        exact wpAny_pure ⟨v, rfl, h⟩
      | none =>
        rw [hf] at h
        show wpAny _ _ (Builtin.Dict.missed d u >>= _) _ _ _
        exact wpAny_bind (wpAny_missed_other hd (wpAny_pure ⟨.none, rfl, h⟩))) ⟨rfl, Q, E, hu, hkey, hm, his, rfl, h⟩
theorem callGet2 {dflt : Value} {Q : Value → Shared → Prop} (hu : A.units + 9 < cLine) (hkey : KeyAt s.heap k u) (hns : noStr u = true) (hd : (d == sysModules) = false) (hm : RDict w s.heap d xs ep) (his : KeysAt s.heap xs)
    (h : Q ((atE xs k).getD dflt) { s with toks := s.toks + k.draws }) : wpAny (model prog w) A (call (.builtin "dict.get") [.ref d, u, dflt]) Q E s :=
  call_meetsIn (S := fun A R s => A = A ∧ ∃ Q E, A.units + 9 < cLine ∧ KeyAt s.heap k u ∧ RDict w s.heap d xs ep ∧ KeysAt s.heap xs ∧ R = wants Q E ∧ Q ((atE xs k).getD dflt) { s with toks := s.toks + k.draws }) F.slot_dict_get hm.typeIs F.entry_dict_get (F.args_dict_get_3 _ _ _)
    (.of_wp fun A R s ⟨_, Q, E, hu, hkey, hm, his, hR, h⟩ => by
      subst hR
      show wpAny _ _ (dictGet d u >>= _) _ _ s
      refine wpAny_bind (get_ (A := A.in1) (by show A.units + 1 + 8 < cLine; omega) hkey hns hm his ?_)
      cases hf : atE xs k with
      | some v =>
        rw [hf] at h
        exact wpAny_pure ⟨v, rfl, h⟩
      | none =>
        rw [hf] at h
        show wpAny _ _ (Builtin.Dict.missed d u >>= _) _ _ _
        exact wpAny_bind (wpAny_missed_other hd (wpAny_pure ⟨dflt, rfl, h⟩))) ⟨rfl, Q, E, hu, hkey, hm, his, rfl, h⟩
theorem callSetdefault {dflt : Value} {Q : Value → Shared → Prop} (hu : A.units + 9 < cLine) (hkey : KeyAt s.heap k u) (hns : noStr u = true) (hd : (d == sysModules) = false) (hm : RDict w s.heap d xs ep) (his : KeysAt s.heap xs)
    (h1 : ∀ p, atE xs k = some p → Q p { s with toks := s.toks + k.draws })
    (h2 : atE xs k = none → ∀ h' ep', RDict w h' d (putR xs k u dflt) ep' → Heap.SameBut d s.heap h' → Q dflt { s with heap := h', toks := s.toks + k.draws })
    (hsz : xs.length ≤ sizeLine) : wpAny (model prog w) A (call (.builtin "dict.setdefault") [.ref d, u, dflt]) Q E s :=
  call_meetsIn (S := fun A R s => A = A ∧ ∃ Q E, A.units + 9 < cLine ∧ KeyAt s.heap k u ∧ RDict w s.heap d xs ep ∧ KeysAt s.heap xs ∧ R = wants Q E ∧ (∀ p, atE xs k = some p → Q p { s with toks := s.toks + k.draws }) ∧
      (atE xs k = none → ∀ h' ep', RDict w h' d (putR xs k u dflt) ep' → Heap.SameBut d s.heap h' → Q dflt { s with heap := h', toks := s.toks + k.draws })) F.slot_dict_setdefault hm.typeIs F.entry_dict_setdefault (F.args_dict_setdefault_3 _ _ _)
    (.of_wp fun A R s ⟨_, Q, E, hu, hkey, hm, his, hR, h1, h2⟩ => by
      subst hR
      unfold Builtin.«dict.setdefault»
      refine wpAny_bind ?_
      unfold Builtin.Dict.keyAndDefault
      refine wpAny_bind (wpAny_notOrdered_dict hm.typeIs ?_)
      show wpAny _ _ (pure (d, u, some dflt)) _ _ s
      refine wpAny_pure ?_
      show wpAny _ _ (if (d == sysModules) = true then _ else (dictSetDefault d u dflt >>= _)) _ _ s
      rw [if_neg (by rw [hd]; exact Bool.false_ne_true)]
      exact wpAny_bind (setdefault_ (A := A.in1) (hsz := hsz) (by show A.units + 1 + 8 < cLine; omega) hkey hns hm his (fun p hp => wpAny_pure ⟨p, rfl, h1 p hp⟩) fun hn h' e hm' hs' => wpAny_pure ⟨dflt, rfl, h2 hn h' e hm' hs'⟩)) ⟨rfl, Q, E, hu, hkey, hm, his, rfl, h1, h2⟩
theorem callPop {p : Value} {Q : Value → Shared → Prop} (hu : A.units + 9 < cLine) (hkey : KeyAt s.heap k u) (hns : noStr u = true) (hd : (d == sysModules) = false) (hm : RDict w s.heap d xs ep) (his : KeysAt s.heap xs) (hp : atE xs k = some p)
    (h : ∀ h' ep', RDict w h' d (dropR xs k) ep' → Heap.SameBut d s.heap h' → Q p { s with heap := h', toks := s.toks + k.draws })
    (hsz : xs.length ≤ sizeLine) : wpAny (model prog w) A (call (.builtin "dict.pop") [.ref d, u]) Q E s :=
  call_meetsIn (S := fun A R s => A = A ∧ ∃ Q E, A.units + 9 < cLine ∧ KeyAt s.heap k u ∧ RDict w s.heap d xs ep ∧ KeysAt s.heap xs ∧ R = wants Q E ∧
      (∀ h' ep', RDict w h' d (dropR xs k) ep' → Heap.SameBut d s.heap h' → Q p { s with heap := h', toks := s.toks + k.draws })) F.slot_dict_pop hm.typeIs F.entry_dict_pop (F.args_dict_pop_2 _ _)
    (.of_wp fun A R s ⟨_, Q, E, hu, hkey, hm, his, hR, h⟩ => by
      subst hR
      obtain ⟨⟨o, es, ho, hc, hdat, he⟩, hn⟩ := id hm
      unfold Builtin.«dict.pop»
      refine wpAny_bind ?_
      unfold Builtin.Dict.keyAndDefault
      refine wpAny_bind (wpAny_notOrdered_dict hm.typeIs ?_)
      have hes := size_of he
      show wpAny _ _ (pure (d, u, none)) _ _ s
      refine wpAny_pure ?_
      have hne : xs ≠ [] := by
        intro e
        subst e
        cases hp
      have hemp : ¬ es.isEmpty = true := by
        intro e
        have h0 : es.size = 0 := by simpa using e
        exact hne (List.length_eq_zero_iff.mp (by omega))
      have tail : ∀ (e : DictEntry) (h' : Heap) (ep' : Nat), e.val = p → RDict w h' d (dropR xs k) ep' → Heap.SameBut d s.heap h' →
          wants Q E (.ok (.ret e.val)) { s with heap := h', toks := s.toks + k.draws } := fun e h' ep' hv hm' hs' => by
        show Q e.val _
        rw [hv]
        exact h h' ep' hm' hs'
      by_cases hk : (keyPart u).isSome = true
      · simp only [hk, if_true]
        refine wpAny_bind (wpAny_pure ?_)
        simp only [Bool.false_eq_true, if_false]
        refine wpAny_bind (takeOut (A := A.in1) (hsz := hsz) (by show A.units + 1 + 8 < cLine; omega) hkey hns hm his hp fun e hv h' ep' hm' hs' => ?_)
        simp only [Option.isNone_some, Bool.false_eq_true, if_false]
        exact wpAny_bind (wpAny_letGo (wpAny_pure ⟨e.val, rfl, tail e h' ep' hv hm' hs'⟩))
      · simp only [hk, if_false]
        refine wpAny_bind (wpAny_dictEntries ho hdat (wpAny_bind (wpAny_pure ?_)))
        rw [if_neg hemp]
        refine wpAny_bind (takeOut (A := A.in1) (hsz := hsz) (by show A.units + 1 + 8 < cLine; omega) hkey hns hm his hp fun e hv h' ep' hm' hs' => ?_)
        simp only [Option.isNone_some, Bool.false_eq_true, if_false]
        exact wpAny_bind (wpAny_letGo (wpAny_pure ⟨e.val, rfl, tail e h' ep' hv hm' hs'⟩))) ⟨rfl, Q, E, hu, hkey, hm, his, rfl, h⟩
end
end Gd
set_option Elab.async false
set_option maxRecDepth 100000
set_option maxHeartbeats 2000000
/-! Dicts with such keys, over the abstract heap: the thing GD, its rules. -/
namespace Gd
open PySem PySem.Spec PyProof.Rows L2
abbrev Ent := NestedKey × V × V
mutual
/-- the value v is the key k -/
inductive KeyV (K : PySem.W.Frag) (H : Hp) : NestedKey → V → Prop
  | non : KeyV K H .none .non
  | int (i : Int) : KeyV K H (.num i) (.int i)
  | tup {a : Addr} {xs : List V} {ks : List NestedKey} : SqT K H a xs → KeyVs K H ks xs → KeyV K H (.tup ks) (.ref a)
inductive KeyVs (K : PySem.W.Frag) (H : Hp) : List NestedKey → List V → Prop
  | nil : KeyVs K H [] []
  | cons {k : NestedKey} {v : V} {ks : List NestedKey} {vs : List V} : KeyV K H k v → KeyVs K H ks vs → KeyVs K H (k :: ks) (v :: vs)
end
theorem SqT.mono {K : PySem.W.Frag} {H H' : Hp} {a : Addr} {xs : List V} (m : ∀ b ys, Rd H b (.tup ys) → Rd H' b (.tup ys)) (h : SqT K H a xs) : SqT K H' a xs := by
  rcases h with h | h
  · exact .inl (m _ _ h)
  · exact .inr h
mutual
theorem KeyV.mono {K : PySem.W.Frag} {H H' : Hp} (m : ∀ b ys, Rd H b (.tup ys) → Rd H' b (.tup ys)) : ∀ (k : NestedKey) (v : V), KeyV K H k v → KeyV K H' k v
  | _, _, .non => .non
  | _, _, .int i => .int i
  | _, _, .tup h t => .tup (SqT.mono m h) (KeyVs.mono m _ _ t)
theorem KeyVs.mono {K : PySem.W.Frag} {H H' : Hp} (m : ∀ b ys, Rd H b (.tup ys) → Rd H' b (.tup ys)) : ∀ (ks : List NestedKey) (vs : List V), KeyVs K H ks vs → KeyVs K H' ks vs
  | _, _, .nil => .nil
  | _, _, .cons h t => .cons (KeyV.mono m _ _ h) (KeyVs.mono m _ _ t)
end
section
variable {X : Cx} {pins : List (Addr × Obj)} {σ : L2.St} {H : Hp} {s : Shared}
mutual
theorem KeyV.is (I : Inv X pins σ H s) : ∀ (k : NestedKey) (v : V) (u : Value), KeyV X.K H k v → RelV v u → NestedIs s.heap k u
  | _, _, _, .non, r => by
    cases (show _ = Value.none from r)
    exact .none
  | _, _, _, .int i, r => by
    obtain ⟨t, rfl⟩ := r
    exact .int i t
  | _, _, _, .tup h t, r => by
    cases r
    obtain ⟨its, rv, ⟨o, ho, hc, n, hd⟩, _⟩ := I.tuple h
    exact .tup ho hc hd (by simpa using KeyVs.is I _ _ _ t rv)
theorem KeyVs.is (I : Inv X pins σ H s) : ∀ (ks : List NestedKey) (vs : List V) (us : List Value), KeyVs X.K H ks vs → Vals vs us → NestedAll s.heap ks us
  | _, _, _, .nil, r => by
    cases r
    exact .nil
  | _, _, _, .cons h t, r => by
    cases r with
    | cons r1 r2 => exact .cons (KeyV.is I _ _ _ h r1) (KeyVs.is I _ _ _ t r2)
end
theorem KeyV.ns {K : PySem.W.Frag} {k : NestedKey} {v : V} {u : Value} (h : KeyV K H k v) (r : RelV v u) : noStr u = true := by
  cases h with
  | non => cases (show _ = Value.none from r); rfl
  | int i => obtain ⟨t, rfl⟩ := r; rfl
  | tup _ _ => cases r; rfl
end
/-- v is the key k, not too deep -/
def KeyOf (K : PySem.W.Frag) (H : Hp) (k : NestedKey) (v : V) : Prop := KeyV K H k v ∧ k.depth ≤ 8
def GKeys (K : PySem.W.Frag) (H : Hp) (xs : List Ent) : Prop := ∀ e ∈ xs, KeyOf K H e.1 e.2.1
theorem KeyOf.mono {K : PySem.W.Frag} {H H' : Hp} {k : NestedKey} {v : V} (m : ∀ b ys, Rd H b (.tup ys) → Rd H' b (.tup ys)) (h : KeyOf K H k v) : KeyOf K H' k v := ⟨KeyV.mono m _ _ h.1, h.2⟩
theorem GKeys.mono {K : PySem.W.Frag} {H H' : Hp} {xs : List Ent} (m : ∀ b ys, Rd H b (.tup ys) → Rd H' b (.tup ys)) (h : GKeys K H xs) : GKeys K H' xs := fun e he => (h e he).mono m
abbrev EV : List Ent → List REnt → Prop := Paired fun p q => p.1 = q.1 ∧ RelV p.2.1 q.2.1 ∧ RelV p.2.2 q.2.2
def gdOk (w : World) (d : Addr) (xs : List Ent) (ep : Nat) (h : Heap) : Prop :=
  xs.length ≤ sizeLine ∧ (d == sysModules) = false ∧ (xs.map (·.1)).Nodup ∧ ∃ o es us, h.get? d = some o ∧ o.ExactDict ∧ o.data = .dict es ep ∧ es.toList = us.map (raw w) ∧ EV xs us
/-- the dict at d with the entries xs, its epoch ep -/
def GD (w : World) (d : Addr) (xs : List Ent) (ep : Nat) : HO := .ext (gdOk w d xs ep)
def getE (xs : List Ent) (k : NestedKey) : Option V := (xs.find? fun x => decide (x.1 = k)).map (·.2.2)
def setV (k : NestedKey) (v : V) (x : Ent) : Ent := if x.1 = k then (x.1, x.2.1, v) else x
def putE (xs : List Ent) (k : NestedKey) (kv v : V) : List Ent := if (getE xs k).isSome then xs.map (setV k v) else xs ++ [(k, kv, v)]
def dropE (xs : List Ent) (k : NestedKey) : List Ent := xs.filter fun x => decide (x.1 ≠ k)
theorem EV.keys {xs : List Ent} {us : List REnt} (r : EV xs us) : us.map (·.1) = xs.map (·.1) := by
  induction r with
  | nil => rfl
  | cons h t ih => rw [List.map_cons, List.map_cons, ih, h.1]
theorem EV.get {xs : List Ent} {us : List REnt} (r : EV xs us) (k : NestedKey) : RelO (getE xs k) (atE us k) := by
  induction r with
  | nil => exact True.intro
  | @cons p q ps qs h t ih =>
    obtain ⟨h1, _, h3⟩ := h
    unfold getE atE at ih ⊢
    rw [List.find?_cons, List.find?_cons]
    by_cases e : p.1 = k
    · have e' : q.1 = k := h1.symm.trans e
      simp only [e, e', decide_true]
      exact h3
    · have e' : ¬ q.1 = k := fun z => e (h1.trans z)
      simp only [e, e', decide_false]
      exact ih
theorem EV.set {xs : List Ent} {us : List REnt} (r : EV xs us) (k : NestedKey) {v : V} {u : Value} (rv : RelV v u) : EV (xs.map (setV k v)) (us.map (setE k u)) := by
  induction r with
  | nil => exact .nil
  | @cons p q ps qs h t ih =>
    rw [List.map_cons, List.map_cons]
    refine .cons ?_ ih
    obtain ⟨h1, h2, h3⟩ := h
    unfold setV setE
    by_cases e : p.1 = k
    · rw [if_pos e, if_pos (h1.symm.trans e)]; exact ⟨h1, h2, rv⟩
    · rw [if_neg e, if_neg (fun z => e (h1.trans z))]; exact ⟨h1, h2, h3⟩
theorem EV.put {xs : List Ent} {us : List REnt} (r : EV xs us) (k : NestedKey) {kv v : V} {ku u : Value} (rk : RelV kv ku) (rv : RelV v u) : EV (putE xs k kv v) (putR us k ku u) := by
  unfold putE putR
  rw [(r.get k).isSome_eq]
  by_cases q : (atE us k).isSome = true
  · rw [if_pos q, if_pos q]; exact r.set k rv
  · rw [if_neg q, if_neg q]; exact Paired.snoc r ⟨rfl, rk, rv⟩
theorem EV.drop {xs : List Ent} {us : List REnt} (r : EV xs us) (k : NestedKey) : EV (dropE xs k) (dropR us k) := by
  unfold dropE dropR
  induction r with
  | nil => exact .nil
  | @cons p q ps qs h t ih =>
    rw [List.filter_cons, List.filter_cons]
    by_cases e : p.1 = k
    · have e' : q.1 = k := h.1.symm.trans e
      simp only [e, e', ne_eq, not_true_eq_false, decide_false, Bool.false_eq_true, if_false]
      exact ih
    · have e' : ¬ q.1 = k := fun z => e (h.1.trans z)
      simp only [e, e', ne_eq, not_false_eq_true, decide_true, if_true]
      exact .cons h ih
theorem putE_le (xs : List Ent) (k : NestedKey) (kv v : V) : (putE xs k kv v).length ≤ xs.length + 1 := by
  unfold putE
  split
  · rw [List.length_map]; omega
  · rw [List.length_append, List.length_cons, List.length_nil]; omega
theorem dropE_le (xs : List Ent) (k : NestedKey) : (dropE xs k).length ≤ xs.length := List.length_filter_le _ _
section
variable {X : Cx} {pins : List (Addr × Obj)} {σ : L2.St} {H : Hp} {s : Shared} {d : Addr} {xs : List Ent} {ep : Nat} {A : Around} {E : Value → Shared → Prop}
theorem gd_of (I : Inv X pins σ H s) (e : H d = some (GD X.w d xs ep)) : xs.length ≤ sizeLine ∧ (d == sysModules) = false ∧ ∃ us, RDict X.w s.heap d us ep ∧ EV xs us := by
  obtain ⟨⟨z, hd, nd, o, es, us, h1, h2, h3, h4, r⟩, _⟩ := (show ObjOk X.prog X.w H s.heap d (.ext (gdOk X.w d xs ep)) from I.hok d _ e)
  exact ⟨z, hd, us, ⟨⟨o, es, h1, h2, h3, h4⟩, by rw [r.keys]; exact nd⟩, r⟩
theorem keys_of (I : Inv X pins σ H s) {us : List REnt} (r : EV xs us) (g : GKeys X.K H xs) : KeysAt s.heap us := by
  have all : ∀ {l : List Ent} {m : List REnt}, EV l m → GKeys X.K H l → ∀ x ∈ m, KeyAt s.heap x.1 x.2.1 := by
    intro l m q
    induction q with
    | nil => intro _ x hx; exact nomatch hx
    | @cons p q ps qs hq t ih =>
      intro g x hx
      rcases List.mem_cons.mp hx with e | hx
      · subst e
        have z := g p List.mem_cons_self
        rw [← hq.1]
        exact ⟨KeyV.is I _ _ _ z.1 hq.2.1, z.2⟩
      · exact ih (fun e he => g e (List.mem_cons_of_mem _ he)) x hx
  exact all r g
theorem gd_new {H' : Hp} {h' : Heap} {us : List REnt} (z : xs.length ≤ sizeLine) (hd : (d == sysModules) = false) (m : RDict X.w h' d us ep) (r : EV xs us) : ObjOk X.prog X.w H' h' d (GD X.w d xs ep) := by
  obtain ⟨⟨o, es, h1, h2, h3, h4⟩, nd⟩ := m
  refine ⟨⟨z, hd, by rw [← r.keys]; exact nd, o, es, us, h1, h2, h3, h4, r⟩, ⟨o, h1⟩, fun h1 h2 p k => ?_⟩
  obtain ⟨z, hd, nd, o, es, us, e1, r⟩ := p
  exact ⟨z, hd, nd, o, es, us, k o e1, r⟩
theorem gd_write {h' : Heap} {t' : Nat} {ys : List Ent} {us : List REnt} {ep' : Nat} (I : Inv X pins σ H s) (e : H d = some (GD X.w d xs ep)) (hs : Heap.SameBut d s.heap h') (z : ys.length ≤ sizeLine) (hd : (d == sysModules) = false) (m : RDict X.w h' d us ep') (r : EV ys us) :
    Inv X pins σ (upd H d (GD X.w d ys ep')) { s with heap := h', toks := t' } :=
  I.write (x := d) (e := d) (by rw [e]; exact True.intro) (.inl rfl) (fun b q hb z => (hs.2 b hb).trans z) (let ⟨o, _, h1, _⟩ := m.at_; ⟨o, h1⟩) (gd_new z hd m r)
/-- what the dict at d holds at the key v -/
structure GGet (K : PySem.W.Frag) (w : World) (H : Hp) (x y : V) (d : Addr) (xs : List Ent) (ep : Nat) (k : NestedKey) : Prop where
  eq : x = .ref d
  at_ : H d = some (GD w d xs ep)
  keys : GKeys K H xs
  key : KeyOf K H k y
theorem op_inG (hu : X.A.units + 64 < cLine) : OpR X (compareOp .In) (fun y x H Q => ∃ d xs ep k, GGet X.K X.w H x y d xs ep k ∧ Q (.bl (getE xs k).isSome) H) := by
  rintro pins s σ H y x v u Q I ry rx ⟨d, xs, ep, k, ⟨rfl, e, g, ky⟩, q⟩
  cases rx
  obtain ⟨z, hd, us, m, r⟩ := gd_of I e
  refine in_ (by omega) ⟨KeyV.is I _ _ _ ky.1 ry, ky.2⟩ (ky.1.ns ry) hd m (keys_of I r g) ?_
  rw [← (r.get k).isSome_eq]
  exact ⟨.bl _, H, I.tok _, rfl, q⟩
theorem op_notInG (hu : X.A.units + 64 < cLine) : OpR X (compareOp .NotIn) (fun y x H Q => ∃ d xs ep k, GGet X.K X.w H x y d xs ep k ∧ Q (.bl (!(getE xs k).isSome)) H) := by
  rintro pins s σ H y x v u Q I ry rx ⟨d, xs, ep, k, ⟨rfl, e, g, ky⟩, q⟩
  cases rx
  obtain ⟨z, hd, us, m, r⟩ := gd_of I e
  refine notIn_ (by omega) ⟨KeyV.is I _ _ _ ky.1 ry, ky.2⟩ (ky.1.ns ry) hd m (keys_of I r g) ?_
  rw [← (r.get k).isSome_eq]
  exact ⟨.bl _, H, I.tok _, rfl, q⟩
theorem getItem_G (hu : A.units + 64 < cLine) {x y w' : V} {v u : Value} {k : NestedKey} {Q : Value → Shared → Prop} (I : Inv X pins σ H s) (rx : RelV x v) (ry : RelV y u) (G : GGet X.K X.w H x y d xs ep k) (hw : getE xs k = some w')
    (h : ∀ s' r, Inv X pins σ H s' → RelV w' r → Q r s') : wpAny (model X.prog X.w) A (getItem v u) Q E s := by
  obtain ⟨rfl, e, g, ky⟩ := G
  cases rx
  obtain ⟨z, hd, us, m, r⟩ := gd_of I e
  obtain ⟨p, hp, rp⟩ := RelO.some_of (v := w') (o := atE us k) (by rw [← hw]; exact r.get k)
  exact item_ (by omega) ⟨KeyV.is I _ _ _ ky.1 ry, ky.2⟩ (ky.1.ns ry) (fun _ _ => trivial) m (keys_of I r g) hp (h _ p (I.tok _) rp)
theorem set_G (hu : X.A.units + 64 < cLine) : PSet X (fun o i v H Q => ∃ d xs ep k, GGet X.K X.w H o i d xs ep k ∧ xs.length < sizeLine ∧ ∀ ep', Q (upd H d (GD X.w d (putE xs k i v) ep'))) := by
  rintro pins s σ H o i v ov iv u Q I ro ri rv ⟨d, xs, ep, k, ⟨rfl, e, g, ky⟩, hz, q⟩
  cases ro
  obtain ⟨z, hd, us, m, r⟩ := gd_of I e
  refine store_ (hsz := by rw [← Paired.length r]; exact z) (by omega) ⟨KeyV.is I _ _ _ ky.1 ri, ky.2⟩ (ky.1.ns ri) m (keys_of I r g) fun h' ep' m' hs => ⟨_, gd_write I e hs ?_ hd m' (r.put k ri rv), q ep'⟩
  have := putE_le xs k i v
  omega
theorem mt_getG1 (hu : X.A.units + 64 < cLine) : MtR X "dict.get" (fun x vs H Q => ∃ y d xs ep k, vs = [y] ∧ GGet X.K X.w H x y d xs ep k ∧ Q ((getE xs k).getD .non) H) := by
  rintro pins s σ H x vs v us Q I rx rvs ⟨y, d, xs, ep, k, rfl, ⟨rfl, e, g, ky⟩, q⟩
  cases rx
  obtain ⟨u, rfl, ry⟩ := vals1 rvs
  obtain ⟨z, hd, us, m, r⟩ := gd_of I e
  exact callGet1 (by omega) ⟨KeyV.is I _ _ _ ky.1 ry, ky.2⟩ (ky.1.ns ry) hd m (keys_of I r g) ⟨_, H, I.tok _, (r.get k).getD (d := .non) (d' := .none) rfl, q⟩
theorem mt_getG2 (hu : X.A.units + 64 < cLine) : MtR X "dict.get" (fun x vs H Q => ∃ y f d xs ep k, vs = [y, f] ∧ GGet X.K X.w H x y d xs ep k ∧ Q ((getE xs k).getD f) H) := by
  rintro pins s σ H x vs v us Q I rx rvs ⟨y, f, d, xs, ep, k, rfl, ⟨rfl, e, g, ky⟩, q⟩
  cases rx
  obtain ⟨u, u2, rfl, ry, rf⟩ := vals2 rvs
  obtain ⟨z, hd, us, m, r⟩ := gd_of I e
  exact callGet2 (by omega) ⟨KeyV.is I _ _ _ ky.1 ry, ky.2⟩ (ky.1.ns ry) hd m (keys_of I r g) ⟨_, H, I.tok _, (r.get k).getD rf, q⟩
theorem mt_setdefaultG (hu : X.A.units + 64 < cLine) : MtR X "dict.setdefault" (fun x vs H Q => ∃ y f d xs ep k, vs = [y, f] ∧ GGet X.K X.w H x y d xs ep k ∧ xs.length < sizeLine ∧
    (∀ p, getE xs k = some p → Q p H) ∧ (getE xs k = none → ∀ ep', Q f (upd H d (GD X.w d (putE xs k y f) ep')))) := by
  rintro pins s σ H x vs v us Q I rx rvs ⟨y, f, d, xs, ep, k, rfl, ⟨rfl, e, g, ky⟩, hz, q1, q2⟩
  cases rx
  obtain ⟨u, u2, rfl, ry, rf⟩ := vals2 rvs
  obtain ⟨z, hd, us, m, r⟩ := gd_of I e
  have rg := r.get k
  refine callSetdefault (hsz := by rw [← Paired.length r]; exact z) (by omega) ⟨KeyV.is I _ _ _ ky.1 ry, ky.2⟩ (ky.1.ns ry) hd m (keys_of I r g) (fun p hp => ?_) fun hn h' ep' m' hs => ?_
  · rw [hp] at rg
    cases hx : getE xs k with
    | none => rw [hx] at rg; exact (show False from rg).elim
    | some p' =>
      rw [hx] at rg
      exact ⟨p', H, I.tok _, rg, q1 p' hx⟩
  · rw [hn] at rg
    cases hx : getE xs k with
    | some p' => rw [hx] at rg; exact (show False from rg).elim
    | none =>
      refine ⟨f, _, gd_write I e hs ?_ hd m' (r.put k ry rf), rf, q2 hx ep'⟩
      have := putE_le xs k y f
      omega
theorem mt_popG (hu : X.A.units + 64 < cLine) : MtR X "dict.pop" (fun x vs H Q => ∃ y d xs ep k p, vs = [y] ∧ GGet X.K X.w H x y d xs ep k ∧ getE xs k = some p ∧ ∀ ep', Q p (upd H d (GD X.w d (dropE xs k) ep'))) := by
  rintro pins s σ H x vs v us Q I rx rvs ⟨y, d, xs, ep, k, p, rfl, ⟨rfl, e, g, ky⟩, hp, q⟩
  cases rx
  obtain ⟨u, rfl, ry⟩ := vals1 rvs
  obtain ⟨z, hd, us, m, r⟩ := gd_of I e
  obtain ⟨p', hp', rp⟩ := RelO.some_of (v := p) (o := atE us k) (by rw [← hp]; exact r.get k)
  exact callPop (hsz := by rw [← Paired.length r]; exact z) (by omega) ⟨KeyV.is I _ _ _ ky.1 ry, ky.2⟩ (ky.1.ns ry) hd m (keys_of I r g) hp' fun h' ep' m' hs => ⟨p, _, gd_write I e hs (Nat.le_trans (dropE_le xs k) z) hd m' (r.drop k), rp, q ep'⟩
end
end Gd
set_option Elab.async false
set_option maxRecDepth 100000
set_option maxHeartbeats 2000000
/-! More rules: d[k], len(d), for k in d, list(d), {}, {k: v}, d == {}, d.m(..), xs.extend(tuple), isinstance of a dict. -/
namespace PySem
open Sem (wp)
theorem gd_meets_len {prog : Program} {w : World} (d : Addr) (hd : (d == sysModules) = false) (xs : List Gd.REnt) (ep : Nat) :
    MeetsIn prog w (Builtin.«dict.__len__» ⟨[.ref d], []⟩) (fun _ R s => Gd.RDict w s.heap d xs ep ∧ R (.ok (.ret (.int xs.length s.toks))) { s with toks := s.toks + 1 }) :=
  .of_wp fun A R s ⟨hm, h⟩ => by
    obtain ⟨⟨o, es, ho, hc, hdat, he⟩, hn⟩ := hm
    show wpAny _ _ (dictSize d >>= _) _ _ s
    unfold dictSize
    refine wpAny_bind (wpAny_bind (wpAny_dictEntries ho hdat (wpAny_pure ?_)))
    show wpAny _ _ (Builtin.Dict.pendingCount d >>= _) _ _ s
    refine wpAny_bind (wpAny_pendingCount_other hd ?_)
    refine wpAny_ret_mkInt ?_
    rw [Nat.add_zero, Gd.size_of he]; exact h
theorem gd_len {prog : Program} {w : World} {A : Around} {E : Value → Shared → Prop} {s : Shared} {d : Addr} {xs : List Gd.REnt} {ep : Nat} {Q : Value → Shared → Prop} (hd : (d == sysModules) = false) (hm : Gd.RDict w s.heap d xs ep) (hfit : (xs.length : Int) < 2 ^ 63)
    (h : Q (.int xs.length (s.toks + 1)) { s with toks := s.toks + 1 + 1 }) : wpAny (model prog w) A (call (.builtin "len") [.ref d]) Q E s := by
  refine Calls.call_function_entry kind_len plain_len entry_len (args_len1 _) ?_
  unfold Builtin.«len»
  refine wpAny_bind (m := oneArg "len" _) (wpAny_pure ?_)
  refine wpAny_bind (m := callSpecial? (.ref d) (Str.ofString "__len__")) (wpAny_callSpecial?_slot (name := Str.ofString "__len__") hm.typeIs F.slot_dict_len
    (call_meetsIn F.slot_dict_len hm.typeIs F.entry_dict_len (F.args_dict_len_1 _) (gd_meets_len d hd xs ep) ⟨hm, ?_⟩))
  show wpAny _ _ _ _ _ { s with toks := s.toks + 1 }
  refine wpAny_bind (wpAny_holding (wpAny_pure ?_))
  refine wpAny_bind (wpAny_letGo ?_)
  show wpAny _ _ (if ((xs.length : Nat) : Int) < 0 then _ else _) _ _ _
  rw [if_neg (by omega)]
  show wpAny _ _ (if ((xs.length : Nat) : Int) ≥ 2 ^ 63 then _ else _) _ _ _
  rw [if_neg (by omega)]
  exact wpAny_bind (wpAny_mkInt (wpAny_pure ⟨_, rfl, h⟩))
end PySem
namespace Gd
open PySem PySem.Spec PyProof.Rows L2
section
variable {X : Cx} {pins : List (Addr × Obj)} {σ : L2.St} {H : Hp} {s : Shared} {d : Addr} {xs : List Ent} {ep : Nat} {A : Around} {E : Value → Shared → Prop}
/-- d[k] -/
theorem pe_getG {o i : Expr} {td ty : TE} {pos : Pos} (hu : X.A.units + 64 < cLine) (ho : PE X o td) (hi : PE X i ty) (hs : NoSl i) :
    PE X (.Subscript o i pos) (fun σ H Q => td σ H fun x H1 => ty σ H1 fun y H2 => ∃ d xs ep k v, GGet X.K X.w H2 x y d xs ep k ∧ getE xs k = some v ∧ Q v H2) := by
  refine ⟨fun pins s σ H Q I h => ?_⟩
  refine subD_of PySem.F.slot_dict_getitem.lookup hs (thn (ho.run pins s σ H _ I h) fun u s1 ⟨x, H1, I1, rx, q1⟩ => thn (hi.run pins s1 σ H1 _ I1 q1) fun iv s2 ⟨y, H2, I2, ry, d, xs, ep, k, v, G, hv, q2⟩ => ?_)
  have T : s2.TypeIs u "dict" := by
    obtain ⟨rfl, e, _⟩ := G
    cases rx
    obtain ⟨_, _, us, m, _⟩ := gd_of I2 e
    exact m.typeIs
  exact ⟨T, getItem_G hu I2 rx ry G hv fun s3 r I3 rr => ⟨v, H2, I3, rr, q2⟩⟩
/-- len(d) -/
theorem call_lenG : CallR X (.builtin "len") (fun vs H Q => ∃ d xs ep, vs = [.ref d] ∧ H d = some (GD X.w d xs ep) ∧ Q (.int ((xs.length : Nat) : Int)) H) := by
  rintro pins s σ H vs us Q I r ⟨d, xs, ep, rfl, e, q⟩
  obtain ⟨u, rfl, rx⟩ := vals1 r
  cases rx
  obtain ⟨z, hd, us, m, r⟩ := gd_of I e
  have hl := Paired.length r
  refine gd_len hd m (by rw [← hl]; rw [sizeLine_eq] at z; omega) ?_
  rw [← hl]
  exact ⟨.int ((xs.length : Nat) : Int), H, I.tok _, ⟨_, rfl⟩, q⟩
/-- {} -/
theorem pe_newG {pos : Pos} : PE X (.Dict [] [] pos) (fun _ H Q => ∀ d, H d = none → Q (.ref d) (upd H d (GD X.w d [] 0))) := by
  refine ⟨fun pins s σ H Q I h => ?_⟩
  refine wpAny_Dict_empty ⟨.ref s.heap.objs.size, _, I.laid (a := s.heap.objs.size) (o := GD X.w s.heap.objs.size [] 0) (t' := s.toks) (fun _ _ q => Heap.get?_push_of_some _ q) (Nat.le_refl _) ?_, rfl, h _ (I.hok.fresh (Nat.le_refl _))⟩
  exact gd_new (X := X) (us := []) (Nat.zero_le _) (beq_eq_false_iff_ne.mpr (Nat.ne_of_gt I.big)) ⟨⟨_, #[], Heap.get?_push_size _ rfl, ⟨rfl, rfl, rfl⟩, rfl, rfl⟩, List.nodup_nil⟩ .nil
/-! ### the keys walked -/
def ItG (w : World) (d : Addr) (xs : List Ent) (ep : Nat) : It :=
  ⟨fun i H => H d = some (GD w d xs ep) ∧ i < xs.length, fun i H x H' => H' = H ∧ ∃ e, xs[i]? = some e ∧ x = e.2.1, fun i H => H d = some (GD w d xs ep) ∧ xs.length ≤ i⟩
theorem turnG {P : Program} {w : World} {K : PySem.W.Frag} {tg : Expr} (it : Addr) : Turn P w K tg (ItG w d xs ep) [it] it (fun i h => h.IsKeyIter it d i xs.length ep) where
  mem := by simp
  obj := fun i h st b hb => by
    have e : b = it := by simpa using hb
    subst e
    obtain ⟨oi, e, c, dd⟩ := st
    exact ⟨oi, e, fun v z => by rw [dd] at z; cases z⟩
  keep := fun i h h' st k => st.at fun oi e => k it (by simp) oi e
  item := by
    intro X hP hw hK hc i pins s σ H E I hf st hg
    subst hP hw hK
    obtain ⟨hd, hi⟩ := hg
    obtain ⟨f0, f1, f2, f3, f4, f5⟩ := hf it (by simp)
    obtain ⟨z, hs, us, ⟨⟨o, es, hgd, hx, hdt, he⟩, nd⟩, r⟩ := gd_of I hd
    have hsz : es.size = xs.length := by rw [size_of he]; exact (Paired.length r).symm
    obtain ⟨e, hkv⟩ : ∃ p, xs[i]? = some p := ⟨xs[i], List.getElem?_eq_getElem hi⟩
    obtain ⟨u, hu, h1, h2, h3⟩ := paired_get r hkv
    have hen : es[i]? = some (raw X.w u) := by rw [entry_at he, hu]; rfl
    refine next_key_item st hgd hdt hsz hen fun h' st' sb => ?_
    have I1 : Inv X pins σ H { s with heap := h' } := I.turned (t' := s.toks) (fun b ob hb e => (sb.2 b hb).trans e) f0 f1 f3 f4 f5
    obtain ⟨oi, eo, c, dd⟩ := id st'
    exact ⟨_, rfl, go_of (s := { s with heap := h' }) eo c dd (by decide) ⟨e.2.1, H, I1, h2, ⟨rfl, e, hkv, rfl⟩, st', fun b hb => (hf b hb).1⟩⟩
  done := by
    intro X hP hw hK hc i pins s σ H E I hf st hg
    subst hP hw hK
    obtain ⟨hd, hi⟩ := hg
    obtain ⟨f0, f1, f2, f3, f4, f5⟩ := hf it (by simp)
    obtain ⟨z, hs, us, ⟨⟨o, es, hgd, hx, hdt, he⟩, nd⟩, r⟩ := gd_of I hd
    have hsz : es.size = xs.length := by rw [size_of he]; exact (Paired.length r).symm
    exact next_key_end (I.ok.hd hc) st hgd hdt hsz hi fun h' eb => ⟨rfl, I.turned (t' := s.toks) (fun b ob hb e => eb b ob hb e) f0 f1 f3 f4 f5⟩
  self := fun A i s Q E st h => wpAny_pyIter_keyiter st h
def iG (w : World) (td : TE) : TI := fun σ H R => td σ H fun x H1 => ∃ d xs ep, x = .ref d ∧ H1 d = some (GD w d xs ep) ∧ R (ItG w d xs ep) H1
theorem pi_G {tg e : Expr} {td : TE} (he : PE X e td) : PI X tg e (iG X.w td) := by
  refine ⟨fun pins s σ H R I h => ?_⟩
  refine thn (he.run pins s σ H _ I h) fun u s1 ⟨x, H1, I1, rx, d, xs, ep, ex, hd, q⟩ => ?_
  subst ex
  obtain rfl : u = Value.ref d := rx
  obtain ⟨z, hs, us, ⟨⟨o, es, hgd, hx, hdt, he⟩, nd⟩, r⟩ := gd_of I1 hd
  refine iter_keys hs hgd hx hdt (pi_one (tk := s1.toks) I1 _ (turnG _) ⟨_, Heap.get?_push_size _ rfl, rfl, ?_⟩ q)
  rw [size_of he, ← Paired.length r] <;> rfl
/-- over a dict that the body leaves as it is -/
theorem for_G {w : World} {g : TG} {tb : TS} {D : Ends} {σ : L2.St} {H : Hp} (Pv : Nat → L2.St → Hp → Prop) (h0 : Pv 0 σ H) (hl : ∀ i σ H, i ≤ xs.length → Pv i σ H → H d = some (GD w d xs ep))
    (hs : ∀ i x σ H, xs[i]? = some x → Pv i σ H → g x.2.1 σ H fun σ2 H2 => tb { D with nx := Pv (i + 1), ct := Pv (i + 1), bk := D.nx } σ2 H2) (hd : ∀ σ H, Pv xs.length σ H → D.nx σ H) :
    ∃ W : Nat → Nat → L2.St → Hp → Prop, (∃ m, W 0 m σ H) ∧ ∀ i m σ H, W i m σ H →
      ((ItG w d xs ep).stop i H ∧ D.nx σ H) ∨ ((ItG w d xs ep).go i H ∧ ∃ N : L2.St → Hp → Prop, (∀ σ' H', N σ' H' → ∃ m', m' < m ∧ W (i + 1) m' σ' H') ∧ ∀ x H', (ItG w d xs ep).yld i H x H' → g x σ H' fun σ2 H2 => tb { D with nx := N, ct := N, bk := D.nx } σ2 H2) := by
  refine ⟨fun i m σ H => i + m = xs.length ∧ Pv i σ H, ⟨xs.length, by omega, h0⟩, fun i m σ H ⟨hm, p⟩ => ?_⟩
  have e := hl i σ H (by omega) p
  cases m with
  | zero =>
    have hi : i = xs.length := by omega
    subst hi
    exact .inl ⟨⟨e, Nat.le_refl _⟩, hd σ H p⟩
  | succ m =>
    have hi : i < xs.length := by omega
    refine .inr ⟨⟨e, hi⟩, Pv (i + 1), fun σ' H' p' => ⟨m, by omega, by omega, p'⟩, ?_⟩
    rintro x H' ⟨rfl, en, hx, rfl⟩
    exact hs i en σ H' hx p
/-- list(d) -/
theorem call_listG (hc : X.calm = true) : CallR X (.type "list") (fun vs H Q => ∃ d xs ep, vs = [V.ref d] ∧ H d = some (GD X.w d xs ep) ∧ ∀ p, H p = none → Q (.ref p) (upd H p (.lst (xs.map (·.2.1))))) := by
  rintro pins s σ H vs us Q I r ⟨d, xs, ep, rfl, e, q⟩
  obtain ⟨u, rfl, rx⟩ := Vals.one r
  cases rx
  obtain ⟨z, hs, us, ⟨⟨o, es, ho, hx, hdt, he⟩, nd⟩, rel⟩ := gd_of I e
  have l1 : es.size = us.length := size_of he
  have l2 : xs.length = us.length := Paired.length rel
  refine PySem.W.kdl_call (kdl_raw hs hx hdt) (I.ok.hd hc) ho (by omega) fun h' tk acc' c' kp e it => ?_
  have ea : acc'.toList = us.map fun x => x.2.1 := by
    have hl : acc'.toList.length = us.length := by rw [Array.length_toList, it.1]; exact l1
    apply List.ext_getElem?
    intro j
    rw [List.getElem?_map]
    cases hj : acc'.toList[j]? with
    | none =>
      have h1 := List.getElem?_eq_none_iff.mp hj
      rw [List.getElem?_eq_none (by omega)]
      all_goals rfl
    | some v =>
      obtain ⟨en, hen, hv⟩ := it.2 j v (by rw [← Array.getElem?_toList]; exact hj)
      have qe := entry_at he j
      rw [hen] at qe
      cases hb : us[j]? with
      | none =>
        rw [hb] at qe
        exact nomatch (show some en = none from qe)
      | some b =>
        rw [hb] at qe
        have e2 : en = raw X.w b := Option.some.inj qe
        rw [hv, e2]
        all_goals rfl
  have rv : Vals (xs.map (·.2.1)) acc'.toList := by
    rw [ea]
    clear it e kp ea q nd he hdt hx ho hs z l1 l2
    clear e
    induction rel with
    | nil => exact .nil
    | cons h t ih => exact .cons h.2.1 ih
  refine ⟨.ref s.heap.objs.size, _, I.laid (t' := tk) (o := .lst (xs.map (·.2.1))) kp (Nat.le_refl _) ?_, rfl, q _ (I.hok.fresh (Nat.le_refl _))⟩
  exact ⟨by rw [List.length_map]; exact z, acc'.toList, c', rv, by rw [Array.toArray_toList]; exact e⟩
/-- d.m(e, ..), d such a dict -/
def tBMG (w : World) (r : V → List V → Hp → VK → Prop) (to : TE) (t : TA) : TE := fun σ H Q => to σ H fun x H1 => (∃ d xs ep, x = .ref d ∧ H1 d = some (GD w d xs ep)) ∧ t σ H1 fun vs H2 => r x vs H2 Q
theorem pe_bmG {o e : Expr} {es : List Expr} {to : TE} {t : TA} {name : Str} {apos cpos : Pos} {id : String} {r : V → List V → Hp → VK → Prop} (slot : Slot "dict" name id) (hty : typeOf (.builtin id) = pure (.type "method_descriptor")) (hm : MtR X id r) (ho : PE X o to) (ha : PA X (e :: es) t)
    (hbase : attributeBase o name X.env (eval o X.env) = eval o X.env := by rfl)
    (hfew : ((backTo cpos (starEach (e :: es) X.env)).all (fun x => !x.1) && (backToKw cpos (keywordEach [] X.env)).all (fun x => x.1.isSome)
      && decide ((e :: es).length + ([] : List Keyword).length + (if ([] : List Keyword).isEmpty then 0 else 1) < 30)) = true := by rfl)
    (hline : (apos.endLine == cpos.line) = true := by rfl) (hs : starEach (e :: es) X.env = (false, eval e X.env) :: starEach es X.env := by rfl) (hplain : (backTo cpos (starEach es X.env)).any (·.1) = false := by rfl) :
    PE X (.Call (.Attribute o name apos) (e :: es) [] cpos) (tBMG X.w r to t) := by
  refine ⟨fun pins s σ H Q I h => ?_⟩
  refine wpAny_Call_method_late hbase hfew hline rfl (thn (ho.run pins s σ H _ I h) fun v s1 ⟨x, H1, I1, r1, ⟨d, xs, ep, ex, hd⟩, q1⟩ => ?_)
  subst ex
  cases r1
  obtain ⟨_, _, us, m, _⟩ := gd_of I1 hd
  have h2 : ∀ a, (Value.ref d) = .ref a → ∃ ob, s1.heap.get? a = some ob ∧ ob.dict = none := fun a z => by
    cases z
    obtain ⟨o, _, h, ex, _⟩ := m.at_
    exact ⟨o, h, ex.2.1⟩
  refine ⟨"dict", id, F.plainAttrs_dict, slot, hty, m.typeIs, h2, ?_⟩
  have hA := ha.run cpos pins s1 σ H1 _ I1 q1
  rw [hs] at hA ⊢
  refine Calls.callWith_builtin (by show (false || (backTo cpos (starEach es X.env)).any (·.1)) = false; rw [hplain] <;> rfl) (Calls.evalArgs_plain ?_)
  exact thn hA fun us s2 ⟨vs, H2, I2, r2, q2⟩ => hm pins s2 σ H2 (.ref d) vs _ us Q I2 rfl r2 q2
/-- isinstance(d, C), C a class of the text -/
theorem call_isiG : CallR X (.builtin "isinstance") (fun vs H Q => ∃ d xs ep C b, vs = [.ref d, .ref C] ∧ H d = some (GD X.w d xs ep) ∧ PySem.W.kitOne X.K (.type "dict") (.ref C) = some b ∧ Q (.bl b) H) := by
  rintro pins s σ H vs us Q I r ⟨d, xs, ep, C, b, rfl, e, hk, q⟩
  obtain ⟨u1, u2, rfl, r1, r2⟩ := vals2 r
  cases r1
  cases r2
  obtain ⟨_, _, us, m, _⟩ := gd_of I e
  obtain ⟨o, _, h, ex, _⟩ := m.at_
  exact PySem.W.kia_one PySem.W.kitx_dict I.kIn ⟨o, h, ex.1⟩ hk (fun z => nomatch z) fun tk => ⟨.bl b, H, I.tok tk, rfl, q⟩
/-- d == e, e empty -/
theorem op_eqG (hu : X.A.units + 64 < cLine) : OpR X (compareOp .Eq) (fun x y H Q => ∃ d xs ep e ep', x = .ref d ∧ y = .ref e ∧ H d = some (GD X.w d xs ep) ∧ H e = some (GD X.w e [] ep') ∧ Q (.bl xs.isEmpty) H) := by
  rintro pins s σ H x y v u Q I rx ry ⟨d, xs, ep, e, ep', rfl, rfl, h1, h2, q⟩
  cases rx
  cases ry
  obtain ⟨_, ha, us, ma, ra⟩ := gd_of I h1
  obtain ⟨_, hb, us', mb, rb⟩ := gd_of I h2
  cases rb
  have fin : EP X pins σ Q (.bool us.isEmpty) s := ⟨.bl xs.isEmpty, H, I, by cases ra <;> rfl, q⟩
  have rc : wpAny (model X.prog X.w) X.A (richCompare .Eq (.ref d) (.ref e)) (fun v s' => v = .bool us.isEmpty ∧ s' = s) X.xe s := by
    refine wpAny_richCompare_same_room (op := .Eq) ma.typeIs mb.typeIs PySem.F.slot_dict_eq (wpAny_call_entry PySem.F.slot_dict_eq ma.typeIs PySem.F.entry_dict_eq ?_ (PySem.F.args_dict_eq_2 _ _)) (by omega)
    show wpAny _ _ (Builtin.Dict.dictSlotArgs "__eq__" ⟨[.ref d, .ref e], []⟩ >>= _) _ _ s
    refine wpAny_bind ?_
    unfold Builtin.Dict.dictSlotArgs
    refine wpAny_bind (wpAny_notOrdered_dict ma.typeIs ?_)
    show wpAny _ _ (pure (Value.ref d, Value.ref e)) _ _ s
    refine wpAny_pure ?_
    refine wpAny_bind (wpAny_isInstance (T := "dict") mb.typeIs PySem.F.sub_dict_dict ?_)
    simp only [Bool.not_true, Bool.false_eq_true, if_false]
    refine wpAny_bind (wpAny_pure (wpAny_bind (wpAny_pure ?_)))
    obtain ⟨⟨oa, es, hoa, _, hda, hea⟩, _⟩ := ma
    obtain ⟨⟨ob, es', hob, _, hdb, heb⟩, _⟩ := mb
    have na := size_of hea
    have nb := size_of heb
    refine wpAny_bind ?_
    unfold Builtin.Dict.samePairs Builtin.Dict.showsAll
    rw [if_neg (show ¬ (d == sysModules) = true by rw [ha]; exact Bool.false_ne_true), if_neg (show ¬ (e == sysModules) = true by rw [hb]; exact Bool.false_ne_true)]
    refine wpAny_bind (wpAny_pure (wpAny_bind (wpAny_pure ?_)))
    refine wpAny_bind (wpAny_dictEntries hoa hda ?_)
    dsimp only
    refine wpAny_bind (wpAny_dictEntries hob hdb ?_)
    have nb0 : es'.size = 0 := nb
    by_cases hsz : es.size = es'.size
    case neg =>
      rw [if_pos (by simpa using hsz)]
      have hf : us.isEmpty = false := by
        cases us with
        | nil => exact absurd (by rw [na, nb0]; rfl) hsz
        | cons _ _ => rfl
      refine wpAny_bind (wpAny_rule (wpAny_pure ?_))
      refine wpAny_pure ⟨_, rfl, ?_, ?_⟩
      · exact fun x => nomatch x
      · exact ⟨by rw [hf]; rfl, rfl⟩
    case pos =>
      rw [if_neg (by rw [hsz]; simp)]
      refine wpAny_bind (wpAny_dictEpoch hoa hda ?_)
      have hn : us = [] := List.length_eq_zero_iff.mp (by omega)
      refine wpAny_bind ?_
      rw [show es.size = 0 by omega, Std.Legacy.Range.forIn_eq_forIn_range']
      simp only [Std.Legacy.Range.size, Nat.sub_zero, Nat.add_sub_cancel, Nat.div_one, List.range'_zero, List.forIn_nil]
      refine wpAny_pure ?_
      refine wpAny_pure ?_
      refine wpAny_pure ⟨_, rfl, ?_, ?_⟩
      · exact fun x => nomatch x
      · exact ⟨by rw [hn]; rfl, rfl⟩
  refine wpAny_mono (Q := fun v s' => v = .bool us.isEmpty ∧ s' = s) ?_ (fun v s' ⟨e1, e2⟩ => by subst e1 e2; exact fin) fun _ _ z => z
  exact rc
theorem extend_list_tuple (l : Addr) (items : Array Value) (n : Nat) (b : Addr) (items2 : Array Value) (n2 : Nat) (dd : Option Addr) (sl : Array (Option Value)) (hs0 : ¬(!items.isEmpty && Builtin.List.listTooLong (items.size + items2.size)) = true) (hs1 : items.size ≤ sizeLine) (hs2 : items.size + items2.size ≤ sizeLine + 1) :
    Meets (Builtin.«list.extend» ⟨[.ref l, .ref b], []⟩) (fun _ R s => s.heap.get? l = some { cls := .type "list", dict := none, data := .seq items n, slots := #[] } ∧ s.heap.get? b = some { cls := .type "tuple", dict := dd, data := .seq items2 n2, slots := sl } ∧ R (.ok (.ret Value.none)) { s with heap := s.heap.update l (Obj.mapSeq fun x => x ++ items2), toks := s.toks }) :=
  .of_wp fun prog w A R s h => by
    obtain ⟨hp, g, d, tk, os⟩ := s; obtain ⟨hl, hb, h⟩ := h; have f1 := AutoSeq1.idx_int; have f2 := AutoSeq1.sub_tuple_tuple; have f3 := AutoSeq1.sub_list_list; have f4 := AutoSeq1.sub_tuple_list; have f5 := AutoSeq1.sub_list_tuple;
    have hz' : (items ++ items2).size ≤ sizeLine + 1 := by rw [Array.size_append]; exact hs2
    wp_walk using (wpAny_updateSeq hl rfl (hz := hs1) (_hz' := hz')), AutoSeq1.wpAny_loadPart' hl, AutoSeq1.wpAny_loadPart' hb; exact ⟨_, rfl, h⟩
/-- xs.extend(t), t a tuple -/
theorem mt_extendT : MtR X "list.extend" (fun x vs H Q => ∃ l b xs zs, x = .ref l ∧ vs = [.ref b] ∧ H l = some (.lst xs) ∧ SqT X.K H b zs ∧ xs.length + zs.length ≤ sizeLine ∧ Q .non (upd H l (.lst (xs ++ zs)))) := by
  rintro pins s σ H x vs v us Q I rx rv ⟨l, b, xs, zs, rfl, rfl, hH, hB, hz, q⟩
  cases rx
  obtain ⟨u, rfl, ru⟩ := rv.one
  cases ru
  obtain ⟨z, its, n, r, hl, e⟩ := I.lstM hH
  obtain ⟨its2, r2, ⟨o2, ho2, hc2, n2, hd2⟩, z2⟩ := I.tuple hB
  have hl2 : zs.length = its2.length := r2.length
  have hsz : its.toArray.size + its2.toArray.size ≤ sizeLine := by rw [List.size_toArray, List.size_toArray]; omega
  have hlong : ¬ (!its.toArray.isEmpty && Builtin.List.listTooLong (its.toArray.size + its2.toArray.size)) = true := by
    rw [notLongL hsz, Bool.and_false]
    exact Bool.false_ne_true
  obtain ⟨cls, dd, dat, sl⟩ := o2
  simp only at hc2 hd2
  subst hc2 hd2
  refine call_meets F.slot_list_extend ⟨_, e, rfl⟩ F.entry_list_extend (F.args_list_extend_2 _ _)
    (extend_list_tuple l its.toArray n b its2.toArray n2 dd sl hlong (by rw [List.size_toArray]; omega) (by omega)) ⟨e, ho2, ?_⟩
  refine ⟨.non, _, I.lset (its' := its ++ its2) hH e (by simp) (r.append r2) ?_, rfl, q⟩
  rw [List.length_append]
  omega
end
end Gd
set_option Elab.async false
set_option maxRecDepth 100000
set_option maxHeartbeats 2000000
/-! sorted(xs, key=f), min(xs, key=f): f a def of the text, its keys data that compare. -/
namespace Gd
open PySem PySem.Spec PyProof.Rows L2 PySem.W PySem.Calls
section
variable {prog : Program} {w : World} {A : Around} {E : Value → Shared → Prop} {s : Shared} {a kS : Addr} {b : Bool} {vs : List Value} {keys : Array Value} {e e1 : Nat} {P : PySem.Fin → Shared → Prop}
theorem k_tail {st : SortSt} {out : List Value} (nk : s.heap.get? kS = some (seqObj "list" keys e)) (na : s.heap.get? a = some (seqObj "list" #[] e1)) (hka : kS ≠ a)
    (hsz : keys.size ≤ sizeLine) (hz : out.length ≤ sizeLine) (hfl : failedOf st = none) (ho : (if b = true then ((arrOf st).map (·.2)).reverse else (arrOf st).map (·.2)) = out.toArray)
    (h : ∀ h' tk c, (∀ q o, q ≠ kS → q ≠ a → s.heap.get? q = some o → h'.get? q = some o) → h'.get? a = some (seqObj "list" out.toArray c) → (∃ o, h'.get? kS = some o) → P (.done (.ret .none)) { s with heap := h', toks := tk }) :
    wpAny (model prog w) A (ksk_tail a b e1 (.ref kS) st) P E s := by
  have s1 := Heap.SameBut.update s.heap kS (Obj.mapSeq fun _ => (#[] : Array Value))
  have na1 : (s.heap.update kS (Obj.mapSeq fun _ => (#[] : Array Value))).get? a = some (seqObj "list" #[] e1) := (s1.2 a hka.symm).trans na
  have s2 := Heap.SameBut.update (s.heap.update kS (Obj.mapSeq fun _ => (#[] : Array Value))) a (Obj.mapSeq fun _ => out.toArray)
  obtain ⟨c2, hc2⟩ : ∃ c2, ((s.heap.update kS (Obj.mapSeq fun _ => (#[] : Array Value))).update a (Obj.mapSeq fun _ => out.toArray)).get? a = some (seqObj "list" out.toArray c2) :=
    ⟨_, get?_update_seq na1 fun _ => out.toArray⟩
  obtain ⟨c3, hc3⟩ : ∃ c3, (s.heap.update kS (Obj.mapSeq fun _ => (#[] : Array Value))).get? kS = some (seqObj "list" #[] c3) := ⟨_, get?_update_seq nk fun _ => #[]⟩
  have hz2 : out.toArray.size ≤ sizeLine + 1 := by
    rw [List.size_toArray]
    exact Nat.le_succ_of_le hz
  unfold ksk_tail
  try dsimp only
  rw [ho]
  refine wpAny_bind (listUpdate_at nk rfl ?_ hsz (Nat.zero_le _))
  refine wpAny_bind (wpAny_letGo ?_)
  refine wpAny_bind (seqEpoch_at na1 rfl ?_)
  refine wpAny_bind (listUpdate_at na1 rfl ?_ (Nat.zero_le _) hz2)
  rw [hfl]
  simp only [bne_self_eq_false, Bool.false_eq_true, if_false]
  exact wpAny_pure (h _ _ c2 (fun q o h1 h2 e => (s2.2 q h2).trans ((s1.2 q h1).trans e)) hc2 ⟨_, (s2.2 kS hka).trans hc3⟩)
theorem k_end {κ : PyProof.Rows.KeyKind} (nk : s.heap.get? kS = some (seqObj "list" keys e)) (na : s.heap.get? a = some (seqObj "list" #[] e1)) (hka : kS ≠ a)
    (S : SortsAt prog w A s κ keys.toList) (hsz : keys.size = vs.length) (hZ : vs.length ≤ sizeLine)
    (h : ∀ h' tk c, (∀ q o, q ≠ kS → q ≠ a → s.heap.get? q = some o → h'.get? q = some o) → h'.get? a = some (seqObj "list" (sortVals κ b keys.toList vs).toArray c) → (∃ o, h'.get? kS = some o) → P (.done (.ret .none)) { s with heap := h', toks := tk }) :
    wpAny (model prog w) A (ksk_end a b vs.toArray e1 (.ref kS) keys) P E s := by
  obtain ⟨kd, h1, h2⟩ := S.kind
  have hkl : keys.toList.length = vs.length := by
    rw [Array.length_toList]
    exact hsz
  have hK : PyProof.Rows.KeysOf κ (keys.zip vs.toArray) := keysOf_zip S.keys
  have hol : (sortVals κ b keys.toList vs).length = vs.length := sortVals_length b hkl
  have hstart : (if b = true then (keys.zip vs.toArray).reverse else keys.zip vs.toArray).Perm (keys.zip vs.toArray) := by
    cases b with
    | false => exact Array.Perm.refl _
    | true => exact Array.perm_iff_toList_perm.mpr (by rw [if_pos rfl, Array.toList_reverse]; exact List.reverse_perm _)
  have hss : (if b = true then (keys.zip vs.toArray).reverse else keys.zip vs.toArray).size = vs.length := by rw [hstart.size_eq, Array.size_zip, hsz, List.size_toArray, Nat.min_self]
  have fin : ∀ st' : SortSt, (arrOf st').Perm (if b = true then (keys.zip vs.toArray).reverse else keys.zip vs.toArray) → SortedToK κ (arrOf st') (if b = true then (keys.zip vs.toArray).reverse else keys.zip vs.toArray).size →
      Stable κ (arrOf st') (if b = true then (keys.zip vs.toArray).reverse else keys.zip vs.toArray) → (if b = true then ((arrOf st').map (·.2)).reverse else (arrOf st').map (·.2)) = (sortVals κ b keys.toList vs).toArray := by
    intro st' hp hs ht
    have e := sort_out (rev := b) (keys := keys) (items := vs.toArray) (xs := arrOf st') (κ := κ) hK hp hs ht
    have e' := congrArg List.toArray e
    rw [Array.toArray_toList] at e'
    exact e'
  have step : ∀ t : Sem PySem.Fin, wpAny (model prog w) A t P E s → wpAny (model prog w) A (if b = true then (do let _ ← rule "list.sort.reverse"; t) else t) P E s := by
    intro t ht
    split
    · exact wpAny_bind (wpAny_rule ht)
    · exact ht
  unfold ksk_end
  try dsimp only
  refine step _ ?_
  by_cases hl2 : vs.toArray.size < 2
  · rw [if_pos hl2, if_pos hl2]
    refine wpAny_bind (wpAny_pure ?_)
    rw [StateT.run_pure]
    refine wpAny_bind (wpAny_pure ?_)
    try dsimp only
    refine k_tail (st := SortSt.mk' general' (if b = true then (keys.zip vs.toArray).reverse else keys.zip vs.toArray) #[] 7 none) nk na hka (by rw [hsz]; exact hZ) (by rw [hol]; exact hZ) rfl (fin _ (Array.Perm.refl _) ?_ (Stable.refl _)) h
    intro i j hij hj
    rw [hss] at hj
    rw [List.size_toArray] at hl2
    have : i = j := by omega
    subst this
    exact KeyOrd.kle_refl _
  · rw [if_neg hl2, if_neg hl2]
    rw [List.size_toArray] at hl2
    refine wpAny_bind (h2 (by omega) _ ?_)
    refine wpAny_bind (wpAny_mono (H.wpS_sortRunsSt (κ := κ) (kd := kd) (a₀ := if b = true then (keys.zip vs.toArray).reverse else keys.zip vs.toArray)
      (st := SortSt.mk' kd (if b = true then (keys.zip vs.toArray).reverse else keys.zip vs.toArray) #[] 7 none)
      (Q := fun _ st' => failedOf st' = none ∧ (if b = true then ((arrOf st').map (·.2)).reverse else (arrOf st').map (·.2)) = (sortVals κ b keys.toList vs).toArray)
      h1 (hK.perm hstart) ⟨Array.Perm.refl _, rfl, rfl⟩ rfl (Stable.refl _) (by rw [hss]; omega) fun st' a1 a2 a3 a4 => ⟨a2, fin st' a1 a3 a4⟩) ?_ fun _ _ e => e)
    rintro ⟨⟨⟩, st'⟩ s' ⟨rfl, hf, ho⟩
    try dsimp only at ho ⊢
    exact k_tail nk na hka (by rw [hsz]; exact hZ) (by rw [hol]; exact hZ) hf ho h
variable {kz : List PyData}
theorem k_rest {f : Value} {St : List Value → Shared → Prop}
    (keep : ∀ ks s' h' tk, St ks s' → (∀ q o, q ≠ kS → q ≠ a → s'.heap.get? q = some o → h'.get? q = some o) → (∃ o, h'.get? a = some o) → (∃ o, h'.get? kS = some o) → St ks { s' with heap := h', toks := tk })
    (turn : ∀ (i : Nat) (v : Value) ks s' kA c, vs[i]? = some v → ks.length = i → St ks s' → s'.heap.get? kS = some (seqObj "list" kA c) → s'.heap.get? a = some (seqObj "list" #[] e1) →
      wpAny (model prog w) A (call f [v]) (fun k s'' => s''.heap.get? kS = some (seqObj "list" kA c) ∧ s''.heap.get? a = some (seqObj "list" #[] e1) ∧ St (ks ++ [k]) s'') (fun _ _ => False) s')
    (reads : ∀ ks s', St ks s' → ks.length = vs.length → EachIs (fun v d => ∃ as, Reads s'.heap v d as) ks kz)
    (h0 : St [] s) (nk : s.heap.get? kS = some (seqObj "list" #[] 0)) (na : s.heap.get? a = some (seqObj "list" #[] e1)) (hka : kS ≠ a)
    (hZ : vs.length ≤ sizeLine) (hal : AllAlike kz) (hsk : Sortable kz) (hu : ∀ d, d ∈ kz → A.units + d.depth < cLine)
    (fin : ∀ ks s' out c, St ks s' → s'.heap.get? a = some (seqObj "list" (List.toArray out) c) → KeyedOut b kz vs out → P (.done (.ret .none)) s') :
    wpAny (model prog w) A (ksk_rest a f b vs.toArray e1 (.ref kS)) P E s := by
  unfold ksk_rest
  refine wpAny_bind (wpAny_rule ?_)
  first
    | rw [List.forIn_toArray]
    | (rw [← Array.forIn_toList]; simp only [List.toList_toArray])
    | rw [← Array.forIn_toList]
  refine wpAny_bind (ksk_fold (fun i s' => ∃ kA c, kA.size = i ∧ St kA.toList s' ∧ s'.heap.get? kS = some (seqObj "list" kA c) ∧ s'.heap.get? a = some (seqObj "list" #[] e1)) vs 0 s
    ⟨#[], 0, rfl, h0, nk, na⟩ ?step ?done)
  case step =>
    rintro j x s' hx ⟨kA, c, hj0, hS, hk', ha'⟩
    simp only [Nat.zero_add] at hj0 ⊢
    have hj : j < vs.length := (List.getElem?_eq_some_iff.mp hx).1
    refine wpAny_bind (wpAny_attempt (wpAny_mono (turn j x kA.toList s' kA c hx (by rw [Array.length_toList]; exact hj0) hS hk' ha') (fun v s'' he => ?_) fun _ _ hF => hF.elim))
    obtain ⟨e1, e2, hS2⟩ := he
    try dsimp only
    have s1 := Heap.SameBut.update s''.heap kS (Obj.mapSeq (·.push v))
    obtain ⟨c2, hc2⟩ : ∃ c2, (s''.heap.update kS (Obj.mapSeq (·.push v))).get? kS = some (seqObj "list" (kA.push v) c2) := ⟨_, get?_update_seq e1 (·.push v)⟩
    have ea : (kA.push v).toList = kA.toList ++ [v] := by simp
    have ha2 := (s1.2 a hka.symm).trans e2
    refine wpAny_bind (listUpdate_at e1 rfl ?_ (by omega) (Nat.le_trans (Nat.le_of_eq (Array.size_push ..)) (by omega)))
    refine wpAny_pure ⟨rfl, kA.push v, c2, by rw [Array.size_push, hj0], ?_, hc2, ha2⟩
    rw [ea]
    exact keep _ s'' _ _ hS2 (fun q o h1 _ e => (s1.2 q h1).trans e) ⟨_, ha2⟩ ⟨_, hc2⟩
  case done =>
    rintro s' ⟨kA, c, hn, hS, hk', ha'⟩
    have hsz : kA.size = vs.length := by omega
    have hr := reads _ _ hS (by rw [Array.length_toList]; exact hsz)
    try dsimp only
    refine wpAny_bind (listItems_at hk' rfl ?_)
    exact k_end (κ := dataKind s'.heap kz) hk' ha' hka (SortsAt.data (s := s') hr hal hsk hu) hsz hZ fun h3 tk3 c kp e3 ek => fin kA.toList _ _ c (keep _ _ _ _ hS kp ⟨_, e3⟩ ek) e3 ⟨s'.heap, kA.toList, hal, rfl, hr⟩
end
/-! ### over the layer -/
section
variable {X : Cx} {pins : List (Addr × Obj)} {σ : L2.St} {H : Hp} {s : Shared}
theorem HOk.adopt {P : Program} {w : World} {h : Heap} {a : Addr} {o : HO} (x : HOk P w H h) (hn : H a = none) (new : ObjOk P w (upd H a o) h a o) : HOk P w (upd H a o) h := fun b u e => by
  by_cases hb : b = a
  · subst hb; rw [upd_same] at e; cases e; exact new
  · rw [upd_ne hb] at e
    exact (x b u e).stay (fun c v _ q => q) (fun c q => by rw [upd_ne (ne_of_none q hn)]; exact q) fun c xs q => by rw [upd_ne (ne_of_none q hn)]; exact q
/-- an untracked thing of ours is tracked from now on -/
theorem Inv.adopt {a : Addr} {o : HO} (I : Inv X pins σ H s) (f : FpOk X pins H a) (new : ObjOk X.prog X.w (upd H a o) s.heap a o) : Inv X pins σ (upd H a o) s := by
  obtain ⟨f0, f1, f2, f3, f4, f5⟩ := f
  have z := I.step (h' := s.heap) (H' := upd H a o) (g' := s.gens) (t' := s.toks) (d' := s.drawn) (ch := [a])
    (fun b hb => by rw [List.mem_singleton.mp hb]; exact ⟨f3, f1, f4, f5⟩)
    (fun b u _ _ _ e _ => e) (fun b u _ _ _ e _ => ⟨u.slots, e⟩) (fun b u hb _ n => by rw [upd_ne (fun z => hb (by rw [z]; exact List.mem_singleton.mpr rfl))]; exact n)
    (fun b u _ e => ⟨u, e⟩) (fun b xs e => by rw [upd_ne (ne_of_none e f0)]; exact e) (fun b u v e => by rw [upd_ne (ne_of_none e f0)]; exact e) (fun b ps e => ⟨#[], by rw [upd_ne (ne_of_none e f0), e]; simp⟩)
    (fun m e => e) (HOk.adopt I.hok f0 new) I.bare
  exact z
/-- what does not hang on the abstract heap -/
structure Fp0 (X : Cx) (pins : List (Addr × Obj)) (b : Addr) : Prop where
  l : b ≠ X.env.locals
  f : b ∉ X.fs
  y : b ∈ X.ex ∨ X.s_0.heap.objs.size ≤ b
  c : ∀ x c, X.env.cells.lookup x = some c → c ≠ b
  p : ∀ p ∈ X.pn ++ pins, p.1 ≠ b
theorem Fp0.ok {b : Addr} (f : Fp0 X pins b) (h : H b = none) : FpOk X pins H b := ⟨h, f.l, f.f, f.y, f.c, f.p⟩
theorem fp0_of (I : Inv X pins σ H s) {b : Addr} (hb : s.heap.objs.size ≤ b) : Fp0 X pins b := by
  obtain ⟨_, f1, f2, f3, f4, f5⟩ := I.fpOk (H' := H) hb (I.hok.fresh hb)
  exact ⟨f1, f2, f3, f4, f5⟩
/-- a call of a def within a built-in's run -/
theorem run_in {k : Nat} {f : Addr} {fd : FuncData} {ps : List Str} {sp : Sp} {Q : VK} {us : List Value} {vs : List V} {A : Around} {E' : Value → Shared → Prop} (F : FnOk X.prog X.w X.K X.mg X.base CX0 k f fd ps sp) (hr : Room k A) (hb : Binds X.K fd ps [])
    (he : Env0 X.prog X.w X.K X.mg X.base A X.stack s H) (I : Inv X pins σ H s) (r : Vals vs us) (h : sp vs H Q E0) : wpAny (model X.prog X.w) A (call (.ref f) us) (EP X pins σ Q) E' s := by
  have hl : us.length = ps.length := by rw [← r.length]; exact F.len _ _ _ _ h
  have hb' := hb s us I.kIn (by rw [List.append_nil]; exact hl)
  rw [List.append_nil] at hb'
  refine wpAny_call (codeAny_mono (F.run A X.stack s H ⟨us, []⟩ us vs Q E0 hr he hb' r h) fun r s' hq => ?_)
  cases r with
  | error e => exact False.elim hq
  | ok fl =>
    cases fl with
    | ret u => exact I.after hq
    | next => exact False.elim hq
    | brk => exact False.elim hq
    | cont => exact False.elim hq
/-- .. two objects of ours stand as they were -/
theorem run_in2 {k : Nat} {f : Addr} {fd : FuncData} {ps : List Str} {sp : Sp} {Q : VK} {us : List Value} {vs : List V} {A : Around} {E' : Value → Shared → Prop} {a kS : Addr} {oa ok : Obj} (F : FnOk X.prog X.w X.K X.mg X.base CX0 k f fd ps sp) (hr : Room k A) (hb : Binds X.K fd ps [])
    (he : Env0 X.prog X.w X.K X.mg X.base A X.stack s H) (I : Inv X pins σ H s) (fa : FpOk X pins H a) (fk : FpOk X pins H kS) (ha : s.heap.get? a = some oa) (hk : s.heap.get? kS = some ok) (na : ∀ v, oa.data ≠ .cell v) (nk : ∀ v, ok.data ≠ .cell v) (r : Vals vs us) (h : sp vs H Q E0) :
    wpAny (model X.prog X.w) A (call (.ref f) us) (fun u s' => s'.heap.get? a = some oa ∧ s'.heap.get? kS = some ok ∧ ∃ v H', Inv X pins σ H' s' ∧ H' a = none ∧ H' kS = none ∧ RelV v u ∧ Q v H') E' s := by
  have I1 := I.pinned (fp := [a, kS]) (fun b hb => by
    rcases List.mem_cons.mp hb with e | hb
    · rw [e]; exact fa
    · rw [List.mem_singleton.mp hb]; exact fk) (fun b hb => by
    rcases List.mem_cons.mp hb with e | hb
    · rw [e]; exact ⟨_, ha, na⟩
    · rw [List.mem_singleton.mp hb]; exact ⟨_, hk, nk⟩)
  refine wpAny_mono (run_in F hr hb he I1 r h) (fun u s' ⟨v, H', I2, rv, q⟩ => ?_) fun _ _ z => z
  have p1 := I2.pin (a, oa) (List.mem_append_right _ (List.mem_append_right _ (mem_pinsAt (List.mem_cons_self) ha)))
  have p2 := I2.pin (kS, ok) (List.mem_append_right _ (List.mem_append_right _ (mem_pinsAt (List.mem_cons_of_mem _ (List.mem_cons_self)) hk)))
  exact ⟨p1.1, p2.1, v, H', I2.unpinned, p1.2.1, p2.2.1, rv, q⟩
theorem each_of_readsAll {h : Heap} : ∀ {us : List Value} {ds : List PyData} {as : List Addr}, ReadsAll h us ds as → EachIs (fun v d => ∃ as, Reads h v d as) us ds
  | _, _, _, .nil => .nil
  | _, _, _, .cons r t => .cons ⟨_, r⟩ (each_of_readsAll t)
mutual
theorem Dp.mono {K : PySem.W.Frag} {H H' : Hp} (m : ∀ b u, Rd H b u → Rd H' b u) : ∀ (d : PyData) (v : V), Dp K H v d → Dp K H' v d
  | _, _, .non => .non
  | _, _, .bl b => .bl b
  | _, _, .int i => .int i
  | _, _, .str x => .str x
  | _, _, .lst h t => .lst (h.elim (fun z => .inl (m _ _ z)) .inr) (DpAll.mono m _ _ t)
  | _, _, .tup h t => .tup (h.elim (fun z => .inl (m _ _ z)) .inr) (DpAll.mono m _ _ t)
theorem DpAll.mono {K : PySem.W.Frag} {H H' : Hp} (m : ∀ b u, Rd H b u → Rd H' b u) : ∀ (ds : List PyData) (vs : List V), DpAll K H vs ds → DpAll K H' vs ds
  | _, _, .nil => .nil
  | _, _, .cons h t => .cons (Dp.mono m _ _ h) (DpAll.mono m _ _ t)
end
theorem rd_same {H H' : Hp} (h : Same H H') : ∀ b u, Rd H b u → Rd H' b u
  | b, u, .inl e => .inl (h b u e)
  | b, u, .inr ⟨o, e⟩ => .inr ⟨o, h b _ e⟩
theorem DpAll.snoc {K : PySem.W.Frag} {H : Hp} {v : V} {d : PyData} (q : Dp K H v d) : ∀ {vs : List V} {ds : List PyData}, DpAll K H vs ds → DpAll K H (vs ++ [v]) (ds ++ [d])
  | _, _, .nil => .cons q .nil
  | _, _, .cons h t => .cons h (DpAll.snoc q t)
theorem each_vals {β : Type} {vof : β → V} : ∀ {bs : List β} {us : List Value}, Vals (bs.map vof) us → EachIs (fun v b => RelV (vof b) v) us bs
  | [], _, r => by rw [List.map_nil] at r; cases r; exact .nil
  | b :: bs, _, r => by
    rw [List.map_cons] at r
    cases r with
    | cons h t => exact .cons h (each_vals t)
theorem vals_each {β : Type} {vof : β → V} : ∀ {bs : List β} {us : List Value}, EachIs (fun v b => RelV (vof b) v) us bs → Vals (bs.map vof) us
  | [], _, .nil => .nil
  | b :: bs, _, .cons h t => .cons h (vals_each t)
/-- sorted(xs, key=f): xs stands for bs; the call f(x) gives b's key -/
theorem cr_sortedF {k : Nat} {f : Addr} {fd : FuncData} {ps : List Str} {sp : Sp} (F : FnOk X.prog X.w X.K X.mg X.base CX0 k f fd ps sp) (hr : Room (k + 2) X.A) (hb : Binds X.K fd ps []) :
    CallRK X (.builtin "sorted") [Str.ofString "key"] (fun vs zs H Q => ∃ (β : Type) (vof : β → V) (kof : β → PyData) (a : Addr) (bs : List β), vs = [V.ref a] ∧ zs = [.ref f] ∧ SqL X.K H a (bs.map vof) ∧
      AllAlike (bs.map kof) ∧ Sortable (bs.map kof) ∧ (∀ x ∈ bs, (kof x).depth ≤ 8) ∧ (∀ x ∈ bs, ∀ H', Same H H' → sp [vof x] H' (fun v H'' => Same H' H'' ∧ Dp X.K H'' v (kof x)) E0) ∧
      ∀ H' p, Same H H' → H' p = none → H p = none → Q (.ref p) (upd H' p (.lst ((bs.mergeSort (dataLe false kof)).map vof)))) := by
  rintro pins s σ H vs zs us ws Q I r rz ⟨β, vof, kof, l, bs, rfl, rfl, hs, hal, hsk, hdep, hf, q⟩
  obtain rfl := Vals.ref1 r
  obtain ⟨w1, rfl, e1⟩ := vals1 rz
  obtain rfl : w1 = Value.ref f := e1
  obtain ⟨its, rv, hl, hz⟩ := I.list hs
  have hlen := rv.length
  rw [List.length_map] at hlen hz
  have hu := hr.units
  have r2 : Room k X.A.in1.in1 := (show Room (k + 1) X.A.in1 from hr.in1).in1
  show wpAny _ _ (call (.builtin "sorted") [.ref l] [(Str.ofString "key", .ref f)]) _ _ _
  refine sorted_of_sort (vs := its) hl.isList (by omega) (PyProof.Rows.ksk_s1 _ _) (fun _ => PyProof.Rows.ksk_l1 _ _) fun E' => ?_
  rw [ksk_t1]
  -- the copy at size + 1
  have I1 : Inv X pins σ H { s with heap := copyHeap s.heap its } := I.kept (t' := s.toks) fun b o e => copyHeap_old e
  have hca := copyHeap_at s.heap its
  have fa0 : Fp0 X pins (s.heap.objs.size + 1) := fp0_of I (Nat.le_succ _)
  have na0 : H (s.heap.objs.size + 1) = none := I.hok.fresh (Nat.le_succ _)
  have hcl : s.heap.objs.size + 1 < (copyHeap s.heap its).objs.size := Heap.lt_size hca
  have hcz : (copyHeap s.heap its).objs.size = s.heap.objs.size + 2 := by
    unfold copyHeap
    rw [size_push', Heap.size_update, size_push']
  have fin : ∀ (a : Addr), a = s.heap.objs.size + 1 → wpAny (model X.prog X.w) X.A.in1.in1 (ksk_tree a (.ref f) false) (fun f s' => f = .done (.ret .none) ∧ EP X pins σ Q (.ref a) s') E' { s with heap := copyHeap s.heap its } := by
    intro a ea
    rw [← ea] at hca fa0 na0 hcl
    have s1 := Heap.SameBut.update (copyHeap s.heap its) a (Obj.mapSeq fun _ => (#[] : Array Value))
    obtain ⟨e1, ho1⟩ : ∃ e1, ((copyHeap s.heap its).update a (Obj.mapSeq fun _ => (#[] : Array Value))).get? a = some (seqObj "list" #[] e1) := ⟨_, get?_update_seq hca fun _ => #[]⟩
    have hkS : (((copyHeap s.heap its).update a (Obj.mapSeq fun _ => (#[] : Array Value))).push (seqObj "tuple" its.toArray 0)).objs.size = (copyHeap s.heap its).objs.size + 1 := by rw [size_push', Heap.size_update]
    unfold ksk_tree
    refine wpAny_bind (listItems_at hca rfl ?_)
    refine wpAny_bind (listUpdate_at hca rfl ?_ (by rw [List.size_toArray]; omega) (Nat.zero_le _))
    refine wpAny_bind (seqEpoch_at ho1 rfl ?_)
    refine wpAny_bind (wpAny_newTuple ?_ (by show its.length ≤ _; omega))
    refine wpAny_bind (wpAny_newList ?_ (Nat.zero_le _))
    refine wpAny_holding ?_
    have ha2 : ((((copyHeap s.heap its).update a (Obj.mapSeq fun _ => (#[] : Array Value))).push (seqObj "tuple" its.toArray 0)).push (seqObj "list" #[] 0)).get? a = some (seqObj "list" #[] e1) := Heap.get?_push_of_some _ (Heap.get?_push_of_some _ ho1)
    have hk2 : ((((copyHeap s.heap its).update a (Obj.mapSeq fun _ => (#[] : Array Value))).push (seqObj "tuple" its.toArray 0)).push (seqObj "list" #[] 0)).get? (((copyHeap s.heap its).update a (Obj.mapSeq fun _ => (#[] : Array Value))).push (seqObj "tuple" its.toArray 0)).objs.size = some (seqObj "list" #[] 0) := Heap.get?_push_size _ rfl
    have kp2 : ∀ b o, b ≠ a → (copyHeap s.heap its).get? b = some o → ((((copyHeap s.heap its).update a (Obj.mapSeq fun _ => (#[] : Array Value))).push (seqObj "tuple" its.toArray 0)).push (seqObj "list" #[] 0)).get? b = some o :=
      fun b o hb e => Heap.get?_push_of_some _ (Heap.get?_push_of_some _ ((s1.2 b hb).trans e))
    generalize hkSe : (((copyHeap s.heap its).update a (Obj.mapSeq fun _ => (#[] : Array Value))).push (seqObj "tuple" its.toArray 0)).objs.size = kS at hk2 hkS ⊢
    have fk0 : Fp0 X pins kS := fp0_of I1 (by show (copyHeap s.heap its).objs.size ≤ kS; omega)
    have nk0 : H kS = none := I1.hok.fresh (by show (copyHeap s.heap its).objs.size ≤ kS; omega)
    have hka : kS ≠ a := by omega
    have I2 : Inv X pins σ H { s with heap := (((copyHeap s.heap its).update a (Obj.mapSeq fun _ => (#[] : Array Value))).push (seqObj "tuple" its.toArray 0)).push (seqObj "list" #[] 0) } :=
      Inv.turnedL (s := { s with heap := copyHeap s.heap its }) (t' := s.toks) (ch := [a]) I1 (fun b o hb e => kp2 b o (fun z => hb (List.mem_singleton.mpr z)) e) (fun b hb => by rw [List.mem_singleton.mp hb]; exact fa0.ok na0)
    refine k_rest (kz := bs.map kof) (vs := its) (St := fun ks s' => ∃ H' kvs, Inv X pins σ H' s' ∧ H' a = none ∧ H' kS = none ∧ Same H H' ∧ Vals kvs ks ∧ DpAll X.K H' kvs ((bs.map kof).take ks.length)) ?keep ?turn ?reads ?h0 hk2 ha2 hka (by omega) hal hsk ?hu ?fin
    case keep =>
      rintro ks s' h' tk ⟨H', kvs, I', n1, n2, sm, rk, dp⟩ kp _ _
      refine ⟨H', kvs, I'.turnedL (t' := tk) (ch := [kS, a]) (fun b o hb e => kp b o (fun z => hb (by rw [z]; exact List.mem_cons_self)) (fun z => hb (by rw [z]; exact List.mem_cons_of_mem _ List.mem_cons_self)) e) (fun b hb => ?_), n1, n2, sm, rk, dp⟩
      rcases List.mem_cons.mp hb with e | hb
      · rw [e]; exact fk0.ok n2
      · rw [List.mem_singleton.mp hb]; exact fa0.ok n1
    case turn =>
      rintro i v ks s' kA c hv hi ⟨H', kvs, I', n1, n2, sm, rk, dp⟩ hk' ha'
      have hil : i < its.length := (List.getElem?_eq_some_iff.mp hv).1
      obtain ⟨x, hx⟩ : ∃ x, bs[i]? = some x := ⟨_, List.getElem?_eq_getElem (by omega)⟩
      have rx : RelV (vof x) v := by
        obtain ⟨u, e1, e2⟩ := rv.get (i := i) (x := vof x) (by rw [List.getElem?_map, hx]; rfl)
        rw [hv] at e1
        cases e1
        exact e2
      have mx : x ∈ bs := List.mem_of_getElem? hx
      refine wpAny_mono (run_in2 F r2 hb I'.env0.in1.in1 I' (fa0.ok n1) (fk0.ok n2) ha' hk' (fun v z => nomatch z) (fun v z => nomatch z) (vs := [vof x]) (us := [v]) (.cons rx .nil) (hf x mx H' sm)) (fun u s'' ⟨e1, e2, y, H'', I'', m1, m2, ry, sm2, dy⟩ => ?_) fun _ _ z => z
      refine ⟨e2, e1, H'', kvs ++ [y], I'', m1, m2, sm.trans sm2, rk.append (.cons ry .nil), ?_⟩
      rw [List.length_append, List.length_cons, List.length_nil, hi]
      have et : (bs.map kof).take (i + 1) = (bs.map kof).take i ++ [kof x] := by rw [List.take_add_one, List.getElem?_map, hx]; simp
      rw [hi] at dp
      show DpAll X.K H'' (kvs ++ [y]) ((bs.map kof).take (i + 1))
      rw [et]
      exact DpAll.snoc dy (DpAll.mono (rd_same sm2) _ _ dp)
    case reads =>
      rintro ks s' ⟨H', kvs, I', n1, n2, sm, rk, dp⟩ hl
      rw [List.take_of_length_le (by rw [List.length_map]; omega)] at dp
      obtain ⟨as, ra⟩ := Dp.readsAll I' _ _ _ dp rk
      exact each_of_readsAll ra
    case h0 => exact ⟨H, [], I2, na0, nk0, Same.refl H, .nil, by rw [List.length_nil, List.take_zero]; exact .nil⟩
    case hu =>
      intro d hd
      obtain ⟨x, hx, rfl⟩ := List.mem_map.mp hd
      have := hdep x hx
      show X.A.units + 1 + 1 + _ < cLine
      omega
    case fin =>
      rintro ks s' out c ⟨H', kvs, I', n1, n2, sm, rk, dp⟩ he hko
      have z := vals_each (keyedOut_each (R := fun v b => RelV (vof b) v) kof hko (each_vals rv))
      have hzl : ((bs.mergeSort (dataLe false kof)).map vof).length ≤ sizeLine := by rw [List.length_map, List.length_mergeSort]; omega
      exact ⟨rfl, .ref a, _, Inv.adopt I' (fa0.ok n1) (show ObjOk X.prog X.w (upd H' a (.lst ((bs.mergeSort (dataLe false kof)).map vof))) s'.heap a (.lst ((bs.mergeSort (dataLe false kof)).map vof)) from ⟨hzl, out, c, z, he⟩), rfl, q H' a sm n1 na0⟩
  exact fin _ rfl
end
end Gd
set_option Elab.async false
set_option maxRecDepth 100000
set_option maxHeartbeats 2000000
/-! min(xs, key=f); sorted(d); {k: v}. -/
namespace Gd
open PySem PySem.Spec PyProof.Rows L2 PySem.W PySem.Calls
/-- what key= needs, with a letter for what the run knows -/
structure KeyRunG (prog : Program) (w : World) (A : Around) (q : Value) (I S : Addr) (l : Addr) (n : Nat) (P : Nat → Value → Prop) (Γ : Type) (J : Γ → Shared → Prop) (V : Γ → Nat → Value → Prop) (bt : Nat → Nat → Bool) : Prop where
  keep : ∀ g s h' tk, J g s → (∀ b o, b ≠ S → b ≠ I → s.heap.get? b = some o → h'.get? b = some o) → J g { s with heap := h', toks := tk }
  list : ∀ g s, J g s → ∃ its : Array Value, s.heap.IsList l its ∧ its.size = n ∧ ∀ i v, its[i]? = some v → P i v
  turn : ∀ i v g (s : Shared) (oI o : Obj) (Q : Value → Shared → Prop) (E : Value → Shared → Prop), i < n → P i v → J g s → s.heap.get? I = some oI → (∀ c, oI.data ≠ .cell c) → s.heap.get? S = some o → (∀ c, o.data ≠ .cell c) →
    (∀ k g' s', J g' s' → s'.heap.get? I = some oI → s'.heap.get? S = some o → V g' i k → (∀ j k', V g j k' → V g' j k') → Q k s') → wpAny (model prog w) A (call q [v]) Q E s
  cmp : ∀ i j ki kj g (s : Shared) (Q : Value → Shared → Prop) (E : Value → Shared → Prop), J g s → V g i ki → V g j kj → Q (.bool (bt i j)) s → wpAny (model prog w) A (richCompare .Lt ki kj) Q E s
section
variable {prog : Program} {w : World} {A : Around} {R : Result → Shared → Prop} {I S l : Addr} {n : Nat} {P : Nat → Value → Prop} {Γ : Type} {J : Γ → Shared → Prop} {V : Γ → Nat → Value → Prop} {bt : Nat → Nat → Bool} {q : Addr}
theorem min_loopG (hh : A.handled = none) (hlI : l ≠ I) (hSI : S ≠ I) (K : KeyRunG prog w A.in1 (.ref q) I S l n P Γ J V bt) (kw : List (Str × Value)) :
    ∀ (k j : Nat) (g : Γ) (s : Shared) (vb kb : Value) (c : Nat), n - (j + 1) = k → j + 1 ≤ n → J g s → s.heap.IsListIter I l (j + 1) → P (argBest bt j) vb → V g (argBest bt j) kb →
    s.heap.get? S = some { cls := .type "list", dict := none, data := .seq #[vb, kb] c, slots := #[] } →
    (∀ v g s', P (argBest bt (n - 1)) v → J g s' → R (.ok (.ret v)) s') → codeAny (model prog w) A (.builtin "min.loop" ⟨[.ref I, (.ref q), .ref S], kw⟩) R s := by
  have hname : (toString "min" ++ toString ".loop" : String) = "min.loop" := by decide
  intro k
  induction k with
  | zero =>
    intro j g s vb kb c hk hj hJ hst hPb hVb hS hR
    have hin : j + 1 = n := by omega
    obtain ⟨its, hls, hsz, hPs⟩ := K.list g s hJ
    have W := Walks.list (prog := prog) (w := w) (A := A.in1) hh I l hlI its
    refine codeAny_builtin F.entry_min_loop ?_
    rw [Around.under_plainId F.plain_min_loop _]
    show wpAny _ A.in1 (seqItems? (.ref S) >>= _) _ _ s
    refine wpAny_bind (wpAny_seqItems hS rfl ?_)
    show wpAny _ A.in1 (tryCatch (pyNext (.ref I)) _ >>= _) _ _ s
    refine wpAny_bind (wpAny_tryCatch (W.done s _ _ ⟨by rw [hsz, ← hin]; exact hst, hls⟩ fun h' tk hm => ?_))
    have hS' := hm S _ (by simpa using hSI) hS
    show wpAny _ A.in1 (updateSeq S (fun _ => #[]) >>= _) _ _ _
    refine wpAny_bind ?_
    refine wpAny_updateSeq hS' rfl (wpAny_bind (wpAny_letGo (wpAny_pure ?_)))
    have s1 := Heap.SameBut.update h' S (Obj.mapSeq fun _ => (#[] : Array Value))
    exact hR vb g _ (by rw [← hin]; exact hPb) (K.keep g s _ _ hJ fun b o h1 h2 e => (s1.2 b h1).trans (hm b o (by simpa using h2) e))
  | succ k ih =>
    intro j g s vb kb c hk hj hJ hst hPb hVb hS hR
    have hlt : j + 1 < n := by omega
    obtain ⟨its, hls, hsz, hPs⟩ := K.list g s hJ
    have W := Walks.list (prog := prog) (w := w) (A := A.in1) hh I l hlI its
    refine codeAny_builtin F.entry_min_loop ?_
    rw [Around.under_plainId F.plain_min_loop _]
    show wpAny _ A.in1 (seqItems? (.ref S) >>= _) _ _ s
    refine wpAny_bind (wpAny_seqItems hS rfl ?_)
    show wpAny _ A.in1 (tryCatch (pyNext (.ref I)) _ >>= _) _ _ s
    refine wpAny_bind (wpAny_tryCatch (W.item (j + 1) s _ _ (by rw [hsz]; exact hlt) ⟨hst, hls⟩ fun v h' tk hP0 hst' hm => ?_))
    have hP := hPs _ _ hP0
    have hS' := hm S _ (by simpa using hSI) hS
    have hJ' : J g { s with heap := h', toks := tk } := K.keep g s _ _ hJ fun b o h1 h2 e => hm b o (by simpa using h2) e
    obtain ⟨oI, hoI, hoc, hod⟩ := id hst'.1
    have ncI : ∀ c, oI.data ≠ .cell c := fun c z => by rw [hod] at z; cases z
    show wpAny _ A.in1 (tryCatch (holding [v] (call (.ref q) [v])) _ >>= _) _ _ _
    refine wpAny_bind (wpAny_tryCatch (wpAny_holding (K.turn (j + 1) v g _ oI _ _ _ hlt hP hJ' hoI ncI hS' (fun c z => nomatch z) fun kx g' s'' hJ2 hI2 hS2 hVx hVk => ?_)))
    show wpAny _ A.in1 (tryCatch (holding [v, kx] (richCompare .Lt kx kb >>= _)) _ >>= _) _ _ _
    refine wpAny_bind (wpAny_tryCatch (wpAny_holding (wpAny_bind (K.cmp (j + 1) (argBest bt j) kx kb g' s'' _ _ hJ2 hVx (hVk _ _ hVb) ?_))))
    refine wpAny_bind (wpAny_holding (wpAny_truthy_bool ?_))
    refine wpAny_bind (wpAny_letGo (wpAny_pure ?_))
    have hst2 : s''.heap.IsListIter I l (j + 1 + 1) := ⟨oI, hI2, hoc, hod⟩
    cases hb : bt (j + 1) (argBest bt j) with
    | true =>
      simp only [if_true]
      refine wpAny_bind ?_
      refine wpAny_updateSeq hS2 rfl (wpAny_bind (wpAny_letGo ?_))
      rw [hname]
      have s1 := Heap.SameBut.update s''.heap S (Obj.mapSeq fun _ => #[v, kx])
      refine wpAny_pure ⟨plainId_quiet F.plain_min_loop _, ih (j + 1) g' _ v kx _ (by omega) hlt (K.keep g' s'' _ _ hJ2 fun b o h1 _ e => (s1.2 b h1).trans e) ⟨oI, (s1.2 I hSI.symm).trans hI2, hoc, hod⟩ (by simp only [argBest, hb, if_true]; exact hP) (by simp only [argBest, hb, if_true]; exact hVx) (Heap.get?_update_self _ hS2 rfl) hR⟩
    | false =>
      simp only [Bool.false_eq_true, if_false]
      refine wpAny_bind (wpAny_letGo ?_)
      rw [hname]
      exact wpAny_pure ⟨plainId_quiet F.plain_min_loop _, ih (j + 1) g' _ vb kb c (by omega) hlt hJ2 hst2 (by simp only [argBest, hb, Bool.false_eq_true, if_false]; exact hPb) (by simp only [argBest, hb, Bool.false_eq_true, if_false]; exact hVk _ _ hVb) hS2 hR⟩
theorem min_firstG (hh : A.handled = none) (hlI : l ≠ I) (hSI : S ≠ I) (K : KeyRunG prog w A.in1 (.ref q) I S l n P Γ J V bt) (kw : List (Str × Value)) (hn : 0 < n) {g : Γ} {s : Shared} {c : Nat} (hJ : J g s) (hst : s.heap.IsListIter I l 0)
    (hS : s.heap.get? S = some { cls := .type "list", dict := none, data := .seq #[] c, slots := #[] })
    (hR : ∀ v g s', P (argBest bt (n - 1)) v → J g s' → R (.ok (.ret v)) s') : codeAny (model prog w) A (.builtin "min.loop" ⟨[.ref I, (.ref q), .ref S], kw⟩) R s := by
  have hname : (toString "min" ++ toString ".loop" : String) = "min.loop" := by decide
  obtain ⟨its, hls, hsz, hPs⟩ := K.list g s hJ
  have W := Walks.list (prog := prog) (w := w) (A := A.in1) hh I l hlI its
  refine codeAny_builtin F.entry_min_loop ?_
  rw [Around.under_plainId F.plain_min_loop _]
  show wpAny _ A.in1 (seqItems? (.ref S) >>= _) _ _ s
  refine wpAny_bind (wpAny_seqItems hS rfl ?_)
  show wpAny _ A.in1 (tryCatch (pyNext (.ref I)) _ >>= _) _ _ s
  refine wpAny_bind (wpAny_tryCatch (W.item 0 s _ _ (by rw [hsz]; exact hn) ⟨hst, hls⟩ fun v h' tk hP0 hst' hm => ?_))
  have hP := hPs _ _ hP0
  have hS' := hm S _ (by simpa using hSI) hS
  have hJ' : J g { s with heap := h', toks := tk } := K.keep g s _ _ hJ fun b o h1 h2 e => hm b o (by simpa using h2) e
  obtain ⟨oI, hoI, hoc, hod⟩ := id hst'.1
  have ncI : ∀ c, oI.data ≠ .cell c := fun c z => by rw [hod] at z; cases z
  show wpAny _ A.in1 (tryCatch (holding [v] (call (.ref q) [v])) _ >>= _) _ _ _
  refine wpAny_bind (wpAny_tryCatch (wpAny_holding (K.turn 0 v g _ oI _ _ _ hn hP hJ' hoI ncI hS' (fun c z => nomatch z) fun kx g' s'' hJ2 hI2 hS2 hVx _ => ?_)))
  show wpAny _ A.in1 (updateSeq S (fun _ => #[v, kx]) >>= _) _ _ _
  refine wpAny_bind ?_
  refine wpAny_updateSeq hS2 rfl ?_
  rw [hname]
  have s1 := Heap.SameBut.update s''.heap S (Obj.mapSeq fun _ => #[v, kx])
  exact wpAny_pure ⟨plainId_quiet F.plain_min_loop _, min_loopG hh hlI hSI K kw _ 0 g' _ v kx _ rfl hn (K.keep g' s'' _ _ hJ2 fun b o h1 _ e => (s1.2 b h1).trans e) ⟨oI, (s1.2 I hSI.symm).trans hI2, hoc, hod⟩ hP hVx (Heap.get?_update_self _ hS2 rfl) hR⟩
end
section
variable {X : Cx} {pins : List (Addr × Obj)} {σ : L2.St} {H : Hp} {s : Shared}
/-- the place of the first least one -/
theorem argBest_lt {bt : Nat → Nat → Bool} : ∀ n, argBest bt n ≤ n
  | 0 => Nat.le_refl _
  | n + 1 => by
    have := argBest_lt (bt := bt) n
    unfold argBest
    split
    · exact Nat.le_refl _
    · omega
/-- min(xs, key=f): xs stands for bs, not empty; the call f(x) gives b's key -/
theorem cr_minF {k : Nat} {f : Addr} {fd : FuncData} {ps : List Str} {sp : Sp} (hc : X.calm = true) (FF : FnOk X.prog X.w X.K X.mg X.base CX0 k f fd ps sp) (hr : Room (k + 2) X.A) (hb : Binds X.K fd ps []) :
    CallRK X (.builtin "min") [Str.ofString "key"] (fun vs zs H Q => ∃ (β : Type) (vof : β → V) (kof : β → PyData) (a : Addr) (bs : List β), vs = [V.ref a] ∧ zs = [.ref f] ∧ H a = some (.lst (bs.map vof)) ∧ bs ≠ [] ∧
      AllAlike (bs.map kof) ∧ (∀ x ∈ bs, (kof x).depth ≤ 8 ∧ kof x ≠ .none) ∧ (∀ x ∈ bs, ∀ H', Same H H' → sp [vof x] H' (fun v H'' => Same H' H'' ∧ Dp X.K H'' v (kof x)) E0) ∧
      ∀ H' x, Same H H' → bs[argBest (fun i j => match bs[i]?, bs[j]? with | some x, some y => dataLt (kof x) (kof y) | _, _ => false) (bs.length - 1)]? = some x → Q (vof x) H') := by
  rintro pins s σ H vs zs us ws Q I r rz ⟨β, vof, kof, l, bs, rfl, rfl, hs, hne, hal, hdep, hf, q⟩
  obtain rfl := Vals.ref1 r
  obtain ⟨w1, rfl, e1⟩ := vals1 rz
  obtain rfl : w1 = Value.ref f := e1
  obtain ⟨its, rv, hl, hz⟩ := I.list (SqL.of (K := X.K) hs)
  have hlen := rv.length
  rw [List.length_map] at hlen hz
  have hu := hr.units
  have hh := I.ok.hd hc
  have r1 : Room k X.A.in1 := (show Room (k + 1) X.A from hr.mono (Nat.le_succ _)).in1
  show wpAny _ _ (call (.builtin "min") [.ref l] [(Str.ofString "key", .ref f)]) _ _ _
  have hname : (toString "min" ++ toString ".loop" : String) = "min.loop" := by decide
  refine PyProof.Rows.kmk_tree PySem.F.kind_min PySem.F.plain_min PySem.F.entry_min (PyProof.Rows.kmk_min_key _ _) ?_
  show wpAny _ X.A.in1 (Builtin.Builtins.bindParams "min" ["key", "default"] 0 ⟨[], [(Str.ofString "key", .ref f)]⟩ >>= _) _ _ s
  refine wpAny_bind (wpAny_of_eq (show Builtin.Builtins.bindParams "min" ["key", "default"] 0 ⟨[], [(Str.ofString "key", .ref f)]⟩ = pure [some (.ref f), none] from rfl) ?_)
  refine wpAny_bind (wpAny_pure ?_)
  have hls := hl.isList
  obtain ⟨ol, hol, _⟩ := id hls
  have hll : l < s.heap.objs.size := Heap.lt_size hol
  refine wpAny_bind (wpAny_pyIter_list hls ?_)
  refine wpAny_bind (wpAny_newList ?_ (Nat.zero_le _))
  rw [hname]
  have kp0 : ∀ b o, s.heap.get? b = some o → ((s.heap.push { cls := .type "list_iterator", data := .fields #[.ref l, .int 0 0] }).push (seqObj "list" #[] 0)).get? b = some o := fun b o e => Heap.get?_push_of_some _ (Heap.get?_push_of_some _ e)
  have gI : ((s.heap.push { cls := .type "list_iterator", data := .fields #[.ref l, .int 0 0] }).push (seqObj "list" #[] 0)).get? s.heap.objs.size = some { cls := .type "list_iterator", data := .fields #[.ref l, .int 0 0] } :=
    Heap.get?_push_of_some _ (Heap.get?_push_size _ rfl)
  have gS : ((s.heap.push { cls := .type "list_iterator", data := .fields #[.ref l, .int 0 0] }).push (seqObj "list" #[] 0)).get? (s.heap.push { cls := .type "list_iterator", data := .fields #[.ref l, .int 0 0] }).objs.size = some (seqObj "list" #[] 0) := Heap.get?_push_size _ rfl
  have eS : (s.heap.push { cls := .type "list_iterator", data := .fields #[.ref l, .int 0 0] }).objs.size = s.heap.objs.size + 1 := size_push' ..
  have I1 : Inv X pins σ H { s with heap := (s.heap.push { cls := .type "list_iterator", data := .fields #[.ref l, .int 0 0] }).push (seqObj "list" #[] 0) } := I.kept (t' := s.toks) kp0
  refine wpAny_pure ⟨plainId_quiet PySem.F.plain_min_loop _, ?_⟩
  have fi0 : Fp0 X pins s.heap.objs.size := fp0_of I (Nat.le_refl _)
  have ni0 : H s.heap.objs.size = none := I.hok.fresh (Nat.le_refl _)
  have fs0 : Fp0 X pins (s.heap.objs.size + 1) := fp0_of I (Nat.le_succ _)
  have ns0 : H (s.heap.objs.size + 1) = none := I.hok.fresh (Nat.le_succ _)
  rw [eS] at gS
  have main : codeAny (model X.prog X.w) X.A (.builtin "min.loop" ⟨[.ref s.heap.objs.size, (.ref f), .ref (s.heap.objs.size + 1)], []⟩) (fun r s' => match r with | .ok (.ret v) => EP X pins σ Q v s' | .ok _ => False | .error e => X.xe e s')
      { s with heap := (s.heap.push { cls := .type "list_iterator", data := .fields #[.ref l, .int 0 0] }).push (seqObj "list" #[] 0) } := by
    generalize hIe : s.heap.objs.size = I0 at gI gS fi0 ni0 fs0 ns0 hll ⊢
    generalize hSe : I0 + 1 = S0 at gS fs0 ns0 ⊢
    have hSI : S0 ≠ I0 := by omega
    refine min_firstG (l := l) (n := bs.length) (P := fun i v => ∃ x, bs[i]? = some x ∧ RelV (vof x) v) (Γ := Hp) (bt := fun i j => match bs[i]?, bs[j]? with | some x, some y => dataLt (kof x) (kof y) | _, _ => false)
      (J := fun g s' => Inv X pins σ g s' ∧ g I0 = none ∧ g S0 = none ∧ Same H g) (V := fun g i k => ∃ v x, bs[i]? = some x ∧ RelV v k ∧ Dp X.K g v (kof x)) (I := I0) (S := S0) (g := H) hh (Nat.ne_of_lt hll) hSI ?K _ (by cases bs with | nil => exact absurd rfl hne | cons _ _ => exact Nat.succ_pos _)
      ⟨I1, ni0, ns0, Same.refl H⟩ ⟨_, gI, rfl, rfl⟩ gS ?fin
    case fin =>
      rintro v H' s' ⟨x, hx, rx⟩ ⟨I', n1, n2, sm⟩
      exact ⟨vof x, H', I', rx, q H' x sm hx⟩
    case K =>
      refine ⟨?_, ?_, ?_, ?_⟩
      · rintro H' s' h' tk ⟨I', n1, n2, sm⟩ kp
        refine ⟨I'.turnedL (t' := tk) (ch := [S0, I0]) (fun b o hb e => kp b o (fun z => hb (by rw [z]; exact List.mem_cons_self)) (fun z => hb (by rw [z]; exact List.mem_cons_of_mem _ List.mem_cons_self)) e) (fun b hb => ?_), n1, n2, sm⟩
        rcases List.mem_cons.mp hb with e | hb
        · rw [e]; exact fs0.ok n2
        · rw [List.mem_singleton.mp hb]; exact fi0.ok n1
      · rintro H' s' ⟨I', n1, n2, sm⟩
        obtain ⟨its', rv', hl', _⟩ := I'.list (sm.seq (SqL.of (K := X.K) hs))
        have hlen' := rv'.length
        rw [List.length_map] at hlen'
        refine ⟨its'.toArray, hl'.isList, by rw [List.size_toArray]; exact hlen'.symm, fun i v hv => ?_⟩
        have hv' : its'[i]? = some v := by simpa using hv
        have hil := (List.getElem?_eq_some_iff.mp hv').1
        obtain ⟨x, hx⟩ : ∃ x, bs[i]? = some x := ⟨_, List.getElem?_eq_getElem (by omega)⟩
        obtain ⟨u, e1, e2⟩ := rv'.get (i := i) (x := vof x) (by rw [List.getElem?_map, hx]; rfl)
        rw [hv'] at e1
        cases e1
        exact ⟨x, hx, e2⟩
      · rintro i v H' s' oI o Q' E' hi ⟨x, hx, rx⟩ ⟨I', n1, n2, sm⟩ hI ncI hS ncS k
        have mx : x ∈ bs := List.mem_of_getElem? hx
        refine wpAny_mono (run_in2 FF r1 hb I'.env0.in1 I' (fi0.ok n1) (fs0.ok n2) hI hS ncI ncS (vs := [vof x]) (us := [v]) (.cons rx .nil) (hf x mx H' sm)) (fun u s'' ⟨e1, e2, y, H'', I'', m1, m2, ry, sm2, dy⟩ => ?_) fun _ _ z => z
        refine k u H'' s'' ⟨I'', m1, m2, sm.trans sm2⟩ e1 e2 ⟨y, x, hx, ry, dy⟩ ?_
        rintro j k' ⟨v2, x2, h1, h2, h3⟩
        exact ⟨v2, x2, h1, h2, Dp.mono (rd_same sm2) _ _ h3⟩
      · rintro i j ki kj H' s' Q' E' ⟨I', n1, n2, sm⟩ ⟨v1, x1, a1, a2, a3⟩ ⟨v2, x2, b1, b2, b3⟩ hq
        obtain ⟨as, ra⟩ := Dp.reads I' _ _ _ a3 a2
        obtain ⟨as', rb⟩ := Dp.reads I' _ _ _ b3 b2
        have m1 : x1 ∈ bs := List.mem_of_getElem? a1
        have m2 : x2 ∈ bs := List.mem_of_getElem? b1
        rw [a1, b1] at hq
        have d1 := (hdep x1 m1).1
        exact rcLt_alike (kof x1) (kof x2) X.A.in1 s' ki kj as as' ra rb (hal _ (List.mem_map.mpr ⟨x1, m1, rfl⟩) _ (List.mem_map.mpr ⟨x2, m2, rfl⟩)) (hdep x1 m1).2 (by show X.A.units + 1 + _ < cLine; omega) _ _ _ _ hq
  rw [← eS] at main
  exact main
end
end Gd
set_option Elab.async false
set_option maxRecDepth 100000
set_option maxHeartbeats 2000000
/-! sorted(d); {k: v}. -/
namespace Gd
open PySem PySem.Spec PyProof.Rows L2 PySem.W PySem.Calls
section
variable {X : Cx} {pins : List (Addr × Obj)} {σ : L2.St} {H : Hp} {s : Shared}
/-- sorted(d), the keys data that compare -/
theorem call_sortedG (hc : X.calm = true) (hu : X.A.units + 64 < cLine) : CallR X (.builtin "sorted") (fun vs H Q => ∃ (d : Addr) (xs : List Ent) (ep : Nat) (β : Type) (vof : β → V) (kof : β → PyData) (bs : List β), vs = [.ref d] ∧ H d = some (GD X.w d xs ep) ∧
    xs.map (·.2.1) = bs.map vof ∧ (∀ x ∈ bs, Dp X.K H (vof x) (kof x)) ∧ AllAlike (bs.map kof) ∧ Sortable (bs.map kof) ∧ (∀ x ∈ bs, (kof x).depth ≤ 8) ∧
    ∀ p, H p = none → Q (.ref p) (upd H p (.lst ((bs.mergeSort (dataLe false kof)).map vof)))) := by
  rintro pins s σ H vs us Q I r ⟨d, xs, ep, β, vof, kof, bs, rfl, hd, hxs, hdp, hal, hsk, hdep, q⟩
  obtain ⟨u, rfl, rx⟩ := vals1 r
  cases rx
  obtain ⟨z, lo, us, ⟨⟨o, es, ho, hx, hdt, he⟩, nd⟩, rel⟩ := gd_of I hd
  have l1 : es.size = us.length := size_of he
  have l2 : xs.length = us.length := Paired.length rel
  have l3 : xs.length = bs.length := by rw [← List.length_map (f := fun x : Ent => x.2.1), hxs, List.length_map]
  refine Calls.call_function_entry PyProof.Rows.kind_sorted PyProof.Rows.plain_sorted PyProof.Rows.entry_sorted (PyProof.Rows.args_sorted1 _) ?_
  unfold Builtin.«sorted»
  refine wpAny_bind (m := checkCount "sorted" 1 1 _) (wpAny_pure ?_)
  refine wpAny_bind (PySem.W.kdu_collect (A := X.A.in1) (kdl_raw lo hx hdt) (I.ok.hd hc) ho (by omega) fun h' tk acc hk hacc => ?_)
  have hal' : acc.toList.length = us.length := by rw [Array.length_toList, hacc.1, l1]
  have ea : acc.toList = us.map fun x => x.2.1 := by
    apply List.ext_getElem?
    intro j
    rw [List.getElem?_map]
    cases hj : acc.toList[j]? with
    | none =>
      have h1 := List.getElem?_eq_none_iff.mp hj
      rw [List.getElem?_eq_none (by omega)]
      all_goals rfl
    | some v =>
      obtain ⟨en, hen, hv⟩ := hacc.2 j v (by rw [← Array.getElem?_toList]; exact hj)
      have qe := entry_at he j
      rw [hen] at qe
      cases hb : us[j]? with
      | none =>
        rw [hb] at qe
        exact nomatch (show some en = none from qe)
      | some b =>
        rw [hb] at qe
        have e2 : en = raw X.w b := Option.some.inj qe
        rw [hv, e2]
        all_goals rfl
  have rv : Vals (bs.map vof) acc.toList := by
    rw [ea, ← hxs]
    clear hacc hal' ea q nd he hdt hx ho lo z l1 l2 l3 hk hxs hd
    induction rel with
    | nil => exact .nil
    | cons h t ih => exact .cons h.2.1 ih
  have I1 : Inv X pins σ H { s with heap := h', toks := tk } := I.kept hk
  refine wpAny_bind (wpAny_newList ?_ (by omega))
  have hoL : (h'.push (seqObj "list" acc.toList.toArray 0)).get? h'.objs.size = some (seqObj "list" acc.toList.toArray 0) := Heap.get?_push_size _ rfl
  show wpAny _ _ _ _ _ { s with heap := h'.push (seqObj "list" acc.toList.toArray 0), toks := tk }
  -- the keys, read where the sort runs
  have nt : (seqObj "list" acc.toList.toArray 0).cls ≠ .type "tuple" := by
    intro e
    injection e with e
    exact absurd e (by decide)
  have reads : EachIs (fun v d => ∃ as, Reads (sortingHeap (h'.push (seqObj "list" acc.toList.toArray 0)) h'.objs.size acc.toList) v d as) acc.toList (bs.map kof) := by
    have I2 : Inv X pins σ H { s with heap := sortingHeap (h'.push (seqObj "list" acc.toList.toArray 0)) h'.objs.size acc.toList, toks := tk } :=
      I1.kept (t' := tk) fun b o e => sortingHeap_old (Nat.ne_of_lt (Heap.lt_size e)) (Heap.get?_push_of_some _ e)
    have dall : DpAll X.K H (bs.map vof) (bs.map kof) := by
      clear hal hsk hdep q rv hxs l3
      induction bs with
      | nil => exact .nil
      | cons b bs ih => exact .cons (hdp b List.mem_cons_self) (ih fun x hx => hdp x (List.mem_cons_of_mem _ hx))
    obtain ⟨as, ra⟩ := Dp.readsAll I2 _ _ _ dall rv
    exact each_of_readsAll ra
  have hfin : ∀ d, d ∈ bs.map kof → X.A.in1.in1.units + d.depth < cLine := by
    intro d hd
    obtain ⟨x, hx, rfl⟩ := List.mem_map.mp hd
    have := hdep x hx
    show X.A.units + 1 + 1 + _ < cLine
    omega
  refine wpAny_bind (wpAny_holding (wpAny_call_entry PyProof.Rows.slot_list_sort ⟨_, hoL, rfl⟩ PyProof.Rows.entry_list_sort
    (list_sort_vals (κ := dataKind (sortingHeap (h'.push (seqObj "list" acc.toList.toArray 0)) h'.objs.size acc.toList) (bs.map kof)) (s := { s with heap := h'.push (seqObj "list" acc.toList.toArray 0), toks := tk }) hoL (SortsAt.data (s := { s with heap := sortingHeap (h'.push (seqObj "list" acc.toList.toArray 0)) h'.objs.size acc.toList, toks := tk }) reads hal hsk hfin) (by omega) ⟨_, rfl, ?_⟩)
    (PyProof.Rows.args_list_sort _)))
  have hko : KeyedOut false (bs.map kof) acc.toList (sortVals (dataKind (sortingHeap (h'.push (seqObj "list" acc.toList.toArray 0)) h'.objs.size acc.toList) (bs.map kof)) false acc.toList acc.toList) := ⟨_, acc.toList, hal, rfl, reads⟩
  have zv := vals_each (keyedOut_each (R := fun v b => RelV (vof b) v) kof hko (each_vals rv))
  obtain ⟨e', he'⟩ := PyProof.Rows.sortedHeap_at (vs := acc.toList) (out := (sortVals (dataKind (sortingHeap (h'.push (seqObj "list" acc.toList.toArray 0)) h'.objs.size acc.toList) (bs.map kof)) false acc.toList acc.toList).toArray) hoL
  have hzl : ((bs.mergeSort (dataLe false kof)).map vof).length ≤ sizeLine := by rw [List.length_map, List.length_mergeSort]; omega
  refine wpAny_pure ⟨_, rfl, .ref h'.objs.size, upd H h'.objs.size (.lst ((bs.mergeSort (dataLe false kof)).map vof)), I1.laid (t' := tk) (fun b u e => ?_) (Nat.le_refl _)
    (show ObjOk X.prog X.w _ _ _ (.lst ((bs.mergeSort (dataLe false kof)).map vof)) from ⟨hzl, _, e', zv, he'⟩), rfl, q _ (I1.hok.fresh (Nat.le_refl _))⟩
  have hb : b < h'.objs.size := Heap.lt_size e
  rw [PyProof.Rows.sortedHeap_old (Nat.ne_of_lt hb) (by rw [size_push']; exact Nat.lt_succ_of_lt hb)]
  exact Heap.get?_push_of_some _ e
/-- {k: v} -/
theorem pe_disp1 {k v : Expr} {tk tv : TE} {pos : Pos} (hu : X.A.units + 64 < cLine) (hk : PE X k tk) (hv : PE X v tv) :
    PE X (.Dict [some k] [v] pos) (fun σ H Q => ∀ d, H d = none → tk σ (upd H d (GD X.w d [] 0)) fun x H1 => tv σ H1 fun y H2 => ∃ key, KeyOf X.K H2 key x ∧ H2 d = some (GD X.w d [] 0) ∧ ∀ ep, Q (.ref d) (upd H2 d (GD X.w d [(key, x, y)] ep))) := by
  refine ⟨fun pins s σ H Q I h => ?_⟩
  have hn := I.hok.fresh (Nat.le_refl s.heap.objs.size)
  have I1 : Inv X pins σ (upd H s.heap.objs.size (GD X.w s.heap.objs.size [] 0)) { s with heap := s.heap.push { cls := .type "dict", data := .dict #[] } } := by
    refine I.laid (a := s.heap.objs.size) (o := GD X.w s.heap.objs.size [] 0) (t' := s.toks) (fun _ _ q => Heap.get?_push_of_some _ q) (Nat.le_refl _) ?_
    exact gd_new (X := X) (us := []) (Nat.zero_le _) (beq_eq_false_iff_ne.mpr (Nat.ne_of_gt I.big)) ⟨⟨_, #[], Heap.get?_push_size _ rfl, ⟨rfl, rfl, rfl⟩, rfl, rfl⟩, List.nodup_nil⟩ .nil
  rw [arm_eval_Dict, show (evalEachOpt [some k] X.env).zip ((evalEach [v] X.env).map fun v => do let x ← v; standAt pos; pure x) = ([(eval k X.env, do let x ← eval v X.env; standAt pos; pure x)] : List (Sem Value × Sem Value)).map (fun p => (some p.1, p.2)) from rfl, dictDisplay_pairs _ (by simp) (by simp)]
  refine wpAny_bind (wpAny_standAt (wpAny_bind ?_))
  unfold subDict
  refine wpAny_bind (wpAny_alloc ?_)
  refine wpAny_bind (wpAny_holding ?_)
  rw [if_pos (by simp)]
  refine wpAny_bind ?_
  show wpAny _ _ (eval k X.env >>= _) _ _ _
  refine wpAny_bind (thn (hk.run pins _ σ _ _ I1 (h _ hn)) fun uk s2 ⟨x, H2, I2, rx, q2⟩ => ?_)
  refine wpAny_bind (wpAny_holding ?_)
  show wpAny _ _ (eval v X.env >>= _) _ _ _
  refine wpAny_bind (thn (hv.run pins s2 σ _ _ I2 q2) fun uv s3 ⟨y, H3, I3, ry, key, hk3, hd3, q3⟩ => ?_)
  refine wpAny_bind (wpAny_standAt (wpAny_pure ?_))
  refine wpAny_bind (wpAny_holding ?_)
  show wpAny _ _ (pure []) _ _ _
  refine wpAny_pure (wpAny_pure ?_)
  refine wpAny_holding ?_
  obtain ⟨z, hs, us, m, r⟩ := gd_of I3 hd3
  cases r
  refine wpAny_bind ?_
  rw [List.forIn_cons]
  refine wpAny_bind (wpAny_bind (set_ (by omega) ⟨KeyV.is I3 _ _ _ hk3.1 rx, hk3.2⟩ (hk3.1.ns rx) m (fun x hx => nomatch hx) (fun h' ep' m' hsb => ?_) (Nat.zero_le _)))
  have I4 := gd_write (t' := s3.toks + key.draws) (ys := [(key, x, y)]) I3 hd3 hsb (by show 1 ≤ sizeLine; decide) hs m' (.cons ⟨rfl, rx, ry⟩ .nil)
  refine wpAny_pure ?_
  dsimp only
  rw [List.forIn_nil]
  exact wpAny_pure (wpAny_pure (wpAny_pure (wpAny_pure ⟨.ref s.heap.objs.size, _, I4, rfl, q3 ep'⟩)))
end
end Gd
set_option Elab.async false
set_option maxRecDepth 100000
set_option maxHeartbeats 2000000
/-! The data of the program over the abstract heap: what stands is told over a part D of the heap that nothing changes. -/
namespace Ps
open PySem PySem.Spec PyProof.Rows L2 Gd
/-! ### the part of the heap that nothing changes -/
def Sub (D H : Hp) : Prop := ∀ b o, D b = some o → H b = some o
theorem Sub.refl (H : Hp) : Sub H H := fun _ _ e => e
theorem Sub.trans {A B C : Hp} (h : Sub A B) (k : Sub B C) : Sub A C := fun b o e => k b o (h b o e)
theorem Sub.none {D H : Hp} (h : Sub D H) {b : Addr} (e : H b = none) : D b = none := by
  cases q : D b with
  | none => rfl
  | some o => rw [h b o q] at e; cases e
theorem Sub.rd {D H : Hp} (h : Sub D H) : ∀ b u, Rd D b u → Rd H b u
  | b, u, .inl e => .inl (h b u e)
  | b, u, .inr ⟨o, e⟩ => .inr ⟨o, h b _ e⟩
/-- from (D, H) to (D', H'): all stands but the things M; D grows by new things alone -/
structure Grow (M : List Addr) (D H D' H' : Hp) : Prop where
  h : ∀ b o, b ∉ M → H b = some o → H' b = some o
  m : ∀ b, H b ≠ none → H' b ≠ none
  d : Sub D D'
  s : Sub D' H'
  n : ∀ b, H b ≠ none → D' b = D b
section
variable {M : List Addr} {D H D' H' D2 H2 : Hp} {p : Addr} {o u : HO}
theorem Grow.refl (h : Sub D H) : Grow M D H D H := ⟨fun _ _ _ e => e, fun _ e => e, Sub.refl D, h, fun _ _ => rfl⟩
theorem Grow.trans (a : Grow M D H D' H') (b : Grow M D' H' D2 H2) : Grow M D H D2 H2 :=
  ⟨fun c o hc e => b.h c o hc (a.h c o hc e), fun c e => b.m c (a.m c e), a.d.trans b.d, b.s, fun c e => (b.n c (a.m c e)).trans (a.n c e)⟩
theorem Grow.same (g : Grow [] D H D' H') : Same H H' := fun b o e => g.h b o (by simp) e
theorem Grow.anyM (g : Grow [] D H D' H') : Grow M D H D' H' := ⟨fun b o _ e => g.h b o (by simp) e, g.m, g.d, g.s, g.n⟩
/-- something is made, and is nobody's data -/
theorem Grow.of_same (h : Sub D H) (k : Same H H') : Grow M D H D H' := ⟨fun b o _ e => k b o e, fun b e => by
  cases q : H b with
  | none => exact absurd q e
  | some o => rw [k b o q]; exact Option.some_ne_none o, Sub.refl D, fun b o e => k b o (h b o e), fun _ _ => rfl⟩
theorem ne_none {b : Addr} (e : H b = some o) : H b ≠ none := by rw [e]; exact Option.some_ne_none o
/-- a new thing that is not data (yet) -/
theorem Grow.tmp (g : Grow M D H D' H') (hp : H' p = none) : Grow M D H D' (upd H' p u) := by
  refine ⟨fun b o hb e => ?_, fun b e => ?_, g.d, fun b o e => ?_, g.n⟩
  · rw [upd_ne (ne_of_none (g.h b o hb e) hp)]; exact g.h b o hb e
  · by_cases z : b = p
    · rw [z, upd_same]; exact Option.some_ne_none _
    · rw [upd_ne z]; exact g.m b e
  · rw [upd_ne (ne_of_none (g.s b o e) hp)]; exact g.s b o e
theorem Grow.newOf (g : Grow M D H D' H') (hp : H' p = none) : H p = none := by
  cases q : H p with
  | none => rfl
  | some o => exact absurd hp (g.m p (ne_none q))
/-- a thing of ours becomes data -/
theorem Grow.freeze (g : Grow M D H D' H') (h0 : H p = none) (hp : H' p = some u) (hd : D' p = none) : Grow M D H (upd D' p u) H' := by
  refine ⟨g.h, g.m, fun b o e => ?_, fun b o e => ?_, fun b e => ?_⟩
  · rw [upd_ne (ne_of_none (g.d b o e) hd)]; exact g.d b o e
  · by_cases z : b = p
    · subst z; rw [upd_same] at e; rw [hp]; exact e
    · rw [upd_ne z] at e; exact g.s b o e
  · have z : b ≠ p := fun z => e (by rw [z]; exact h0)
    rw [upd_ne z]; exact g.n b e
/-- a new thing that is data at once -/
theorem Grow.new (g : Grow M D H D' H') (hp : H' p = none) : Grow M D H (upd D' p u) (upd H' p u) :=
  (g.tmp (u := u) hp).freeze (g.newOf hp) upd_same (g.s.none hp)
/-- a thing of ours, or of M, is written -/
theorem Grow.write (g : Grow M D H D' H') (h0 : H p = none ∨ p ∈ M) (hd : D' p = none) : Grow M D H D' (upd H' p u) := by
  refine ⟨fun b o hb e => ?_, fun b e => ?_, g.d, fun b o e => ?_, g.n⟩
  · have z : b ≠ p := fun z => by
      subst z
      rcases h0 with h0 | h0
      · rw [h0] at e; cases e
      · exact hb h0
    rw [upd_ne z]; exact g.h b o hb e
  · by_cases z : b = p
    · rw [z, upd_same]; exact Option.some_ne_none _
    · rw [upd_ne z]; exact g.m b e
  · have z : b ≠ p := fun z => by subst z; rw [hd] at e; cases e
    rw [upd_ne z]; exact g.s b o e
/-- behind a call: what was no data is none -/
theorem Grow.keep (g : Grow M D H D' H') (hp : H p ≠ none) (hd : D p = none) : D' p = none := (g.n p hp).trans hd
end
/-! ### bytes -/
abbrev Tx := Vaflxa.Text
abbrev bv (c : UInt8) : V := .int (c.toNat : Int)
abbrev tv (t : Tx) : List V := t.map bv
/-- a tuple of bytes -/
def BT (K : PySem.W.Frag) (D : Hp) (v : V) (t : Tx) : Prop := ∃ a, v = .ref a ∧ SqT K D a (tv t)
/-- a list of bytes that stands -/
def BL (D : Hp) (v : V) (t : Tx) : Prop := ∃ a, v = .ref a ∧ D a = some (.lst (tv t))
theorem BT.mono {K : PySem.W.Frag} {D D' : Hp} {v : V} {t : Tx} (h : Sub D D') (q : BT K D v t) : BT K D' v t :=
  let ⟨a, e, z⟩ := q; ⟨a, e, Gd.SqT.mono (fun b ys => h.rd b _) z⟩
theorem BL.mono {D D' : Hp} {v : V} {t : Tx} (h : Sub D D') (q : BL D v t) : BL D' v t := let ⟨a, e, z⟩ := q; ⟨a, e, h _ _ z⟩
/-- lists that go together -/
def All2 {α β : Type} (R : α → β → Prop) : List α → List β → Prop
  | [], [] => True
  | a :: as, b :: bs => R a b ∧ All2 R as bs
  | _, _ => False
section
variable {α β : Type} {R R' : α → β → Prop}
theorem All2.mono (h : ∀ a b, R a b → R' a b) : ∀ {as : List α} {bs : List β}, All2 R as bs → All2 R' as bs
  | [], [], _ => trivial
  | _ :: _, _ :: _, ⟨h1, h2⟩ => ⟨h _ _ h1, All2.mono h h2⟩
  | [], _ :: _, z => z.elim
  | _ :: _, [], z => z.elim
theorem All2.length : ∀ {as : List α} {bs : List β}, All2 R as bs → as.length = bs.length
  | [], [], _ => rfl
  | _ :: _, _ :: _, ⟨_, h2⟩ => by rw [List.length_cons, List.length_cons, h2.length]
  | [], _ :: _, z => z.elim
  | _ :: _, [], z => z.elim
theorem All2.get : ∀ {as : List α} {bs : List β} {i : Nat} {a : α}, All2 R as bs → as[i]? = some a → ∃ b, bs[i]? = some b ∧ R a b
  | [], _, _, _, _, e => by simp at e
  | a :: as, b :: bs, 0, _, ⟨h1, _⟩, e => by simp at e; subst e; exact ⟨b, rfl, h1⟩
  | a :: as, b :: bs, i + 1, _, ⟨_, h2⟩, e => All2.get (i := i) h2 (by simpa using e)
  | _ :: _, [], _, _, z, _ => z.elim
theorem All2.get' : ∀ {as : List α} {bs : List β} {i : Nat} {b : β}, All2 R as bs → bs[i]? = some b → ∃ a, as[i]? = some a ∧ R a b
  | _, [], _, _, _, e => by simp at e
  | a :: as, b :: bs, 0, _, ⟨h1, _⟩, e => by simp at e; subst e; exact ⟨a, rfl, h1⟩
  | a :: as, b :: bs, i + 1, _, ⟨_, h2⟩, e => All2.get' (i := i) h2 (by simpa using e)
  | [], _ :: _, _, _, z, _ => z.elim
theorem All2.snoc {a : α} {b : β} (h : R a b) : ∀ {as : List α} {bs : List β}, All2 R as bs → All2 R (as ++ [a]) (bs ++ [b])
  | [], [], _ => ⟨h, trivial⟩
  | _ :: _, _ :: _, ⟨h1, h2⟩ => ⟨h1, h2.snoc h⟩
  | [], _ :: _, z => z.elim
  | _ :: _, [], z => z.elim
theorem All2.app : ∀ {as : List α} {bs : List β} {as' : List α} {bs' : List β}, All2 R as bs → All2 R as' bs' → All2 R (as ++ as') (bs ++ bs')
  | [], [], _, _, _, z => z
  | _ :: _, _ :: _, _, _, ⟨h1, h2⟩, z => ⟨h1, h2.app z⟩
  | [], _ :: _, _, _, z, _ => z.elim
  | _ :: _, [], _, _, z, _ => z.elim
end
/-- a class; a pair of classes -/
abbrev Kl := Vaflxa.Cls
def PrV (K : PySem.W.Frag) (D : Hp) (v : V) (l r : Kl) : Prop := ∃ a x y, v = .ref a ∧ SqT K D a [x, y] ∧ BT K D x (Vaflxa.clsText l) ∧ BT K D y (Vaflxa.clsText r)
theorem PrV.mono {K : PySem.W.Frag} {D D' : Hp} {v : V} {l r : Kl} (h : Sub D D') (q : PrV K D v l r) : PrV K D' v l r :=
  let ⟨a, x, y, e, z, b, c⟩ := q; ⟨a, x, y, e, Gd.SqT.mono (fun b ys => h.rd b _) z, b.mono h, c.mono h⟩
/-- a text as a key, as data -/
def kT (t : Tx) : NestedKey := .tup (t.map fun c => .num (c.toNat : Int))
def kP (l r : Kl) : NestedKey := .tup [kT (Vaflxa.clsText l), kT (Vaflxa.clsText r)]
def dT (t : Tx) : PyData := .tuple (t.map fun c => .int (c.toNat : Int))
def dL (t : Tx) : PyData := .list (t.map fun c => .int (c.toNat : Int))
theorem keyVs_tv {K : PySem.W.Frag} {D : Hp} : ∀ t : Tx, KeyVs K D (t.map fun c => .num (c.toNat : Int)) (tv t)
  | [] => .nil
  | c :: t => .cons (.int _) (keyVs_tv t)
theorem dpAll_tv {K : PySem.W.Frag} {D : Hp} : ∀ t : Tx, DpAll K D (tv t) (t.map fun c => .int (c.toNat : Int))
  | [] => .nil
  | c :: t => .cons (.int _) (dpAll_tv t)
theorem depth_nums : ∀ t : Tx, NestedKey.depthAll (t.map fun c => .num (c.toNat : Int)) = 0
  | [] => rfl
  | c :: t => by
    show max 0 (NestedKey.depthAll (t.map fun c => .num (c.toNat : Int))) = 0
    rw [depth_nums t]; rfl
theorem BT.key {K : PySem.W.Frag} {D : Hp} {v : V} {t : Tx} (q : BT K D v t) : KeyOf K D (kT t) v := by
  obtain ⟨a, rfl, h⟩ := q
  refine ⟨.tup h (keyVs_tv t), ?_⟩
  show NestedKey.depthAll (t.map fun c => .num (c.toNat : Int)) + 1 ≤ 8
  rw [depth_nums]; decide
theorem BT.dp {K : PySem.W.Frag} {D : Hp} {v : V} {t : Tx} (q : BT K D v t) : Dp K D v (dT t) := by
  obtain ⟨a, rfl, h⟩ := q
  exact .tup h (dpAll_tv t)
theorem PrV.key {K : PySem.W.Frag} {D : Hp} {v : V} {l r : Kl} (q : PrV K D v l r) : KeyOf K D (kP l r) v := by
  obtain ⟨a, x, y, rfl, h, hx, hy⟩ := q
  refine ⟨.tup h (.cons hx.key.1 (.cons hy.key.1 .nil)), ?_⟩
  have e : (kP l r).depth = max (kT (Vaflxa.clsText l)).depth (max (kT (Vaflxa.clsText r)).depth 0) + 1 := rfl
  have e1 : ∀ t, (kT t).depth = 1 := fun t => by
    show NestedKey.depthAll (t.map fun c => .num (c.toNat : Int)) + 1 = 1
    rw [depth_nums]
  rw [e, e1, e1]; decide
theorem u8_inj {c d : UInt8} (h : (c.toNat : Int) = (d.toNat : Int)) : c = d := UInt8.toNat_inj.mp (by omega)
theorem nums_inj : ∀ {s t : Tx}, s.map (fun c : UInt8 => NestedKey.num (c.toNat : Int)) = t.map (fun c => .num (c.toNat : Int)) → s = t
  | [], [], _ => rfl
  | [], _ :: _, e => by simp at e
  | _ :: _, [], e => by simp at e
  | c :: s, d :: t, e => by
    rw [List.map_cons, List.map_cons] at e
    injection e with e1 e2
    injection e1 with e1
    rw [u8_inj e1, nums_inj e2]
theorem kT_inj {s t : Tx} (h : kT s = kT t) : s = t := by
  unfold kT at h
  injection h with h
  exact nums_inj h
theorem shaped_ints : ∀ t : Tx, PyData.canLayAll0 (t.map fun c => .int (c.toNat : Int)) = true ∧ PyData.depthAll (t.map fun c => .int (c.toNat : Int)) = 0
  | [] => ⟨rfl, rfl⟩
  | c :: t => by
    obtain ⟨h1, h2⟩ := shaped_ints t
    refine ⟨?_, ?_⟩
    · show (PyData.canLay0 (.int _) && PyData.canLayAll0 (t.map fun c => .int (c.toNat : Int))) = true
      rw [h1]; rfl
    · show max (PyData.depth (.int _)) (PyData.depthAll (t.map fun c => .int (c.toNat : Int))) = 0
      rw [h2]; rfl
theorem shaped_dT (t : Tx) : SeqAt.shaped (dT t) = true := by
  obtain ⟨h1, h2⟩ := shaped_ints t
  unfold SeqAt.shaped dT
  rw [show (PyData.tuple (t.map fun c => .int (c.toNat : Int))).canLay0 = PyData.canLayAll0 (t.map fun c => .int (c.toNat : Int)) from rfl, h1,
    show (PyData.tuple (t.map fun c => .int (c.toNat : Int))).depth = PyData.depthAll (t.map fun c => .int (c.toNat : Int)) + 1 from rfl, h2]
  decide
theorem shaped_dL (t : Tx) : SeqAt.shaped (dL t) = true := by
  obtain ⟨h1, h2⟩ := shaped_ints t
  unfold SeqAt.shaped dL
  rw [show (PyData.list (t.map fun c => .int (c.toNat : Int))).canLay0 = PyData.canLayAll0 (t.map fun c => .int (c.toNat : Int)) from rfl, h1,
    show (PyData.list (t.map fun c => .int (c.toNat : Int))).depth = PyData.depthAll (t.map fun c => .int (c.toNat : Int)) + 1 from rfl, h2]
  decide
theorem eqv_ints : ∀ s t : Tx, PyData.eqvAll (s.map fun c => .int (c.toNat : Int)) (t.map fun c => .int (c.toNat : Int)) = decide (s = t)
  | [], [] => rfl
  | [], _ :: _ => rfl
  | _ :: _, [] => rfl
  | c :: s, d :: t => by
    show (PyData.eqv (.int (c.toNat : Int)) (.int (d.toNat : Int)) && PyData.eqvAll (s.map fun c => .int (c.toNat : Int)) (t.map fun c => .int (c.toNat : Int))) = _
    rw [eqv_ints s t]
    have e : PyData.eqv (.int (c.toNat : Int)) (.int (d.toNat : Int)) = decide (c = d) := by
      show ((c.toNat : Int) == (d.toNat : Int)) = decide (c = d)
      by_cases h : c = d
      · subst h; simp
      · rw [decide_eq_false h]
        exact beq_eq_false_iff_ne.mpr fun z => h (u8_inj z)
    rw [e]
    by_cases h1 : c = d
    · by_cases h2 : s = t
      · simp [h1, h2]
      · simp [h1, h2]
    · simp [h1]
theorem eqv_dT (s t : Tx) : PyData.eqv (dT s) (dT t) = decide (s = t) := eqv_ints s t
theorem eqv_dL (s t : Tx) : PyData.eqv (dL s) (dL t) = decide (s = t) := eqv_ints s t
end Ps
set_option Elab.async false
set_option maxRecDepth 100000
set_option maxHeartbeats 2000000
/-! Defs, classes, constants and built-ins of the text, as rules. -/
namespace Ps
open PySem PySem.Spec PyProof.Rows L2 Gd
/-- the i-th statement of the top -/
def topS (i : Nat) : Stmt := PySem.Challenge.pw_placesets_s01_answers.main.body.getD i (.Pass ⟨0, 0, 0, 0⟩)
/-- a def of the text keeps its promise -/
structure Def (P : Program) (w : World) (K : PySem.W.Frag) (mg : Str → Option Value) (base : Heap) (k : Nat) (x : Str) (ps : List Str) (sp : Sp) : Prop where
  ex : ∃ f fd, FnOk P w K mg base CX0 k f fd ps sp ∧ mg x = some (.ref f) ∧ PySem.W.keepIn K (.ref f) = true ∧ L2.Binds K fd ps []
/-- a class of the text, made by its fields -/
structure NewD (P : Program) (w : World) (K : PySem.W.Frag) (mg : Str → Option Value) (base : Heap) (k : Nat) (x : Str) (C : Addr) (ps : List Str) (sp : Sp) : Prop where
  ex : ∃ f fd, Mk K C f ∧ FnOk P w K mg base CX0 k f fd ps sp ∧ mg x = some (.ref C) ∧ L2.Binds K fd ps []
/-- a constant of the text -/
def GC (mg : Str → Option Value) (x : Str) (v : V) : Prop := ∃ u, mg x = some u ∧ RelV v u
section
variable {X : Cx} {k : Nat} {x : Str} {ps : List Str} {sp : Sp} {C : Addr} {t : TA} {e : Expr} {es : List Expr} {p pos : Pos}
theorem pe_callD (D : Def X.prog X.w X.K X.mg X.base k x ps sp) (hr : Room k X.A) (hg : Gl X x) (ha : PA X (e :: es) t) (hdb : (x == ("__debug__" : Str)) = false := by decide)
    (he : starEach (e :: es) X.env = (false, eval e X.env) :: starEach es X.env := by rfl) (hpl : (backTo pos (starEach es X.env)).any (·.1) = false := by rfl) : PE X (.Call (.Name x p) (e :: es) [] pos) (tCall sp [] E0 t) := by
  obtain ⟨f, fd, G, m, kp, b⟩ := D.ex
  exact pe_call G hr hg m kp b .nil pass0 ha hdb he hpl
theorem pe_newD (D : NewD X.prog X.w X.K X.mg X.base k x C ps sp) (hr : Room (k + 1) X.A) (hg : Gl X x) (ha : PA X (e :: es) t) (hdb : (x == ("__debug__" : Str)) = false := by decide)
    (he : starEach (e :: es) X.env = (false, eval e X.env) :: starEach es X.env := by rfl) (hpl : (backTo pos (starEach es X.env)).any (·.1) = false := by rfl) : PE X (.Call (.Name x p) (e :: es) [] pos) (tMake C sp [] E0 t) := by
  obtain ⟨f, fd, M, G, m, b⟩ := D.ex
  exact pe_make M G hr hg m b .nil pass0 ha hdb he hpl
theorem pe_new0D (D : NewD X.prog X.w X.K X.mg X.base k x C ps sp) (hr : Room (k + 1) X.A) (hg : Gl X x) (hdb : (x == ("__debug__" : Str)) = false := by decide) : PE X (.Call (.Name x p) [] [] pos) (tMake C sp [] E0 tNil) := by
  obtain ⟨f, fd, M, G, m, b⟩ := D.ex
  exact pe_make0 M G hr hg m b .nil pass0 hdb
theorem pe_const {v : V} (hg : Gl X x) (h : GC X.mg x v) (hd : (x == ("__debug__" : Str)) = false := by decide) : PE X (.Name x pos) (tC v) := by
  obtain ⟨u, m, r⟩ := h
  exact pe_glob hg m r hd
end
/-! ### built-ins by their names -/
theorem b_tuple : bootBuiltins "tuple" = some (.type "tuple") := by decide +kernel
theorem b_list : bootBuiltins "list" = some (.type "list") := by decide +kernel
theorem b_int : bootBuiltins "int" = some (.type "int") := by decide +kernel
theorem b_str : bootBuiltins "str" = some (.type "str") := by decide +kernel
theorem b_ord : bootBuiltins "ord" = some (.builtin "ord") := by decide +kernel
theorem b_len : bootBuiltins "len" = some (.builtin "len") := by decide +kernel
theorem b_sum : bootBuiltins "sum" = some (.builtin "sum") := by decide +kernel
theorem b_min : bootBuiltins "min" = some (.builtin "min") := by decide +kernel
theorem b_all : bootBuiltins "all" = some (.builtin "all") := by decide +kernel
theorem b_any : bootBuiltins "any" = some (.builtin "any") := by decide +kernel
theorem b_sorted : bootBuiltins "sorted" = some (.builtin "sorted") := by decide +kernel
theorem b_isinstance : bootBuiltins "isinstance" = some (.builtin "isinstance") := by decide +kernel
/-- what the text's top has written besides its defs; CPs: the class Pieces -/
structure Txt (K : PySem.W.Frag) (mg : Str → Option Value) (CP CB CPs CPc CS CC : Addr) : Prop where
  m_tuple : mg "tuple" = none
  m_list : mg "list" = none
  m_int : mg "int" = none
  m_str : mg "str" = none
  m_ord : mg "ord" = none
  m_len : mg "len" = none
  m_sum : mg "sum" = none
  m_min : mg "min" = none
  m_all : mg "all" = none
  m_any : mg "any" = none
  m_sorted : mg "sorted" = none
  m_isinstance : mg "isinstance" = none
  m_range : mg "range" = none
  m_enumerate : mg "enumerate" = none
  g_EMPTY : GC mg "EMPTY" (.str ".")
  g_BLANK : GC mg "BLANK" (.int 32)
  g_LAST_SIGN : GC mg "LAST_SIGN" (.int 126)
  g_MOST_BORDER : GC mg "MOST_BORDER" (.int 40)
  g_MOST_FIELD : GC mg "MOST_FIELD" (.int 40)
  g_END_COST : GC mg "END_COST" (.int 1)
  g_PLACE_COST : GC mg "PLACE_COST" (.int 5)
  g_CLASS_COST : GC mg "CLASS_COST" (.int 2)
  g_MOST_CONSTANT : GC mg "MOST_CONSTANT" (.int 12)
  g_QUOTE : GC mg "QUOTE" (.int 34)
  g_CASE_STEP : GC mg "CASE_STEP" (.int 32)
  g_CONSTANT_COST : GC mg "CONSTANT_COST" (.int 3)
  g_BYTE_COST : GC mg "BYTE_COST" (.int 2)
  g_PART_COST : GC mg "PART_COST" (.int 2)
  g_CASE_COST : GC mg "CASE_COST" (.int 3)
  g_NO_NAME : GC mg "NO_NAME" (.int (-1))
  g_NO_SET : GC mg "NO_SET" (.int (-2))
  g_FULL : GC mg "FULL" (.int (-3))
  g_WRONG_SORT : GC mg "WRONG_SORT" (.int (-4))
  g_NO_TEXT : GC mg "NO_TEXT" (.int (-5))
  g_NOT_THERE : GC mg "NOT_THERE" (.int (-6))
  g_TOO_MANY : GC mg "TOO_MANY" (.int (-7))
  g_MOST_SETS : GC mg "MOST_SETS" (.int 20)
  g_MOST_NAME : GC mg "MOST_NAME" (.int 12)
  g_MOST_FIELDS : GC mg "MOST_FIELDS" (.int 4)
  g_MOST_LISTED : GC mg "MOST_LISTED" (.int 1000)
  g_MOST_GIVEN : GC mg "MOST_GIVEN" (.int 100)
  g_DIGITS : ∃ a, GC mg "DIGITS" (.ref a) ∧ ∀ H, SqT K H a [.int 48, .int 57]
  g_SMALL : ∃ a, GC mg "SMALL" (.ref a) ∧ ∀ H, SqT K H a [.int 97, .int 122]
  g_CAPITALS : ∃ a, GC mg "CAPITALS" (.ref a) ∧ ∀ H, SqT K H a [.int 65, .int 90]
  g_CASES : ∃ a, GC mg "CASES" (.ref a) ∧ ∀ H, SqT K H a [.str "", .str "^", .str "_", .str "~"]
  c_Pieces : mg "Pieces" = some (.ref CPs)
  clP : Cls K CP
  clB : Cls K CB
  clPs : Cls K CPs
  clPc : Cls K CPc
  clS : Cls K CS
  clC : Cls K CC
  nP : ∀ f ∈ (["text", "cost", "classes", "from_left", "number"] : List Str), NoAttr K CP f
  nB : ∀ f ∈ (["field", "case", "left", "right"] : List Str), NoAttr K CB f
  nPs : ∀ f ∈ (["constant", "boxes"] : List Str), NoAttr K CPs f
  nPc : ∀ f ∈ (["text", "cost"] : List Str), NoAttr K CPc f
  nS : NoAttr K CS "held"
  nC : ∀ f ∈ (["numbers", "at"] : List Str), NoAttr K CC f
  iP1 : PySem.W.findIn K (.ref CPs) "__class__" = some (some (.builtin "object.__class__"))
  iP2 : PySem.W.specialIn K (.builtin "object.__class__") "__get__" = some (some (.builtin "getset_descriptor.__get__"))
  iP3 : PySem.W.takesIn K (.builtin "object.__class__") = some true
  iP4 : PySem.W.mroIn K CPs (.type "object") = some true
  iP5 : PySem.W.kitOne K (.ref CPs) (.ref CPs) = some true
  iP6 : PySem.W.kitOne K (.type "dict") (.ref CPs) = some false
section
variable {X : Cx} {CP CB CPs CPc CS CC : Addr}
/-- isinstance(x, Pieces): of a set of pieces, of a dict -/
theorem call_isiP (T : Txt X.K X.mg CP CB CPs CPc CS CC) : CallR X (.builtin "isinstance") (fun vs H Q => ∃ a, vs = [.ref a, .ref CPs] ∧
    ((∃ dx fs, H a = some (.ins CPs dx fs) ∧ Q (.bl true) H) ∨ ∃ xs ep, H a = some (GD X.w a xs ep) ∧ Q (.bl false) H)) := by
  rintro pins s σ H vs us Q I r ⟨a, rfl, h⟩
  rcases h with ⟨dx, fs, e, q⟩ | ⟨xs, ep, e, q⟩
  · exact call_isi pins s σ H _ us Q I r ⟨.ref a, .ref CPs, .ref CPs, .ref CPs, true, rfl, .own CPs, .base (.ins e T.clPs T.iP1 T.iP2 T.iP3 T.iP4), T.iP5, q⟩
  · exact call_isiG pins s σ H _ us Q I r ⟨a, xs, ep, CPs, false, rfl, e, T.iP6, q⟩
/-- xs == [], xs of anything -/
theorem op_eqNil (hu : X.A.units + 64 < cLine) : OpR X (compareOp .Eq) (fun x y H Q => ∃ a b xs, x = .ref a ∧ y = .ref b ∧ H a = some (.lst xs) ∧ H b = some (.lst []) ∧ Q (.bl xs.isEmpty) H) := by
  rintro pins s σ H x y v u Q I rx ry ⟨a, b, xs, rfl, rfl, h1, h2, q⟩
  have h1' := h1
  cases rx
  cases ry
  cases xs with
  | nil => exact op_eqD hu pins s σ H (.ref a) (.ref b) _ _ Q I rfl rfl ⟨.list [], .list [], .lst (SqL.of h1) .nil, .lst (SqL.of h2) .nil, by decide, by decide, q⟩
  | cons z zs =>
    obtain ⟨its, rv, hl, hz⟩ := I.list (SqL.of (K := X.K) h1)
    obtain ⟨its', rv', hl', hz'⟩ := I.list (SqL.of (K := X.K) h2)
    cases rv'
    refine SeqAt.eq_list_lengthsAt hl.isList hl'.isList ?_ (by omega) ⟨.bl false, H, I, rfl, q⟩
    have := rv.length
    cases its with
    | nil => simp at this
    | cons _ _ => rfl
theorem walk_G {w : World} {d : Addr} {xs : List Ent} {ep : Nat} : Walk (ItG w d xs ep) xs.length (fun H => H d = some (GD w d xs ep)) (fun i H x H' => H' = H ∧ ∃ e, xs[i]? = some e ∧ x = e.2.1) :=
  ⟨fun _ _ hi q => ⟨q, hi⟩, fun _ q => ⟨q, Nat.le_refl _⟩, fun _ _ _ _ _ _ y => y⟩
end
/-! ### fields -/
theorem lk_here {k : Str} {v : V} {r : List (Str × V)} : List.lookup k ((k, v) :: r) = some v := by
  have e : (k == k) = true := beq_self_eq_true k
  simp only [List.lookup, e]
theorem lk_past {k g : Str} {v : V} {r : List (Str × V)} (h : (k == g) = false) : List.lookup k ((g, v) :: r) = List.lookup k r := by
  simp only [List.lookup, h]
theorem put_here {f : Str} {v x : V} {r : List (Str × V)} : putF f v ((f, x) :: r) = (f, v) :: r := if_pos rfl
theorem put_past {f g : Str} {v x : V} {r : List (Str × V)} (h : ¬ g = f) : putF f v ((g, x) :: r) = (g, x) :: putF f v r := if_neg h
end Ps
set_option Elab.async false
set_option maxRecDepth 100000
set_option maxHeartbeats 2000000
namespace Ps
open PySem PySem.Spec PyProof.Rows L2 Gd
section
variable {P : Program} {w : World} {K : PySem.W.Frag} {mg : Str → Option Value} {base : Heap} {CP CB CPs CPc CS CC : Addr} {f : Addr} {fd : FuncData}
/-! ### bytes_of -/
def cpsV (x : Str) : List V := x.cps.toList.map fun (c : Nat) => V.int (c : Int)
def sp_bytes_of : Sp := fun vs H Q _ => ∃ x : Str, vs = [.str x] ∧ x.cps.size ≤ 1000 ∧ ∀ H' p, Same H H' → H p = none → H' p = some (.tup (cpsV x)) → Q (.ref p) H'
abbrev s_bytes_of : Stmt := topS 13
theorem sc_bytes_of : FnScope ["text", "sign"] ["text"] (defScope s_bytes_of) := ⟨rfl, rfl, rfl, by decide +kernel, rfl, by decide +kernel, by decide +kernel⟩
theorem ok_bytes_of (F : Fun K "bytes_of" "bytes_of" s_bytes_of f fd) (T : Txt K mg CP CB CPs CPc CS CC) : FnOk P w K mg base CX0 1 f fd ["text"] sp_bytes_of := by
  refine F.ok sc_bytes_of (fun vs H Q E h => ?_) (fun cdv A outer s H vs Q E hr h => ?_)
  · obtain ⟨x, rfl, _⟩ := h
    rfl
  · obtain ⟨x, rfl, hx, k⟩ := h
    refine ⟨_, (pss_one (ps_ret (pe_callTy call_tuple_of (by rfl) T.m_tuple b_tuple (pa_cons (pe_lc (own := [("sign", 1)]) (g := gName 1) rfl sc_bytes_of.nd (pi_str (pv 0)) (blkOk_by (own := [("sign", 1)]) (N := ["text", "sign"]) (sc := defScope s_bytes_of) (by decide +kernel)) (fun _ _ _ _ _ => pg_name (i := 1) sc_bytes_of.nd rfl (Or.inl rfl)) (fun _ _ _ _ _ => pts_nil) (fun _ _ _ _ _ => (pe_callB call_ord (by rfl) T.m_ord b_ord (pa_cons (pv 1) pa_nil)))) pa_nil)))), ?_⟩
    refine ⟨_, rfl, x, rfl, fun D hD => lc_it walk_str (fun i H' => H' = upd H D (.lst ((cpsV x).take i))) rfl (fun _ _ _ _ => trivial) ?_ ?_⟩
    · rintro i v H' H2 hi rfl ⟨rfl, c, hc, rfl⟩
      refine ⟨rfl, _, rfl, _, rfl, rfl, _, upd_same, ?_, ?_⟩
      · rw [List.length_take]
        exact Nat.lt_of_le_of_lt (Nat.min_le_left _ _) (Nat.lt_of_lt_of_le hi (Nat.le_trans hx (by decide)))
      · rw [upd_upd]
        congr 2
        have e : (cpsV x)[i]? = some (V.int (c : Int)) := by
          unfold cpsV
          rw [List.getElem?_map, Array.getElem?_toList, hc]
          rfl
        rw [List.take_add_one, e]
        rfl
    · rintro H' rfl
      refine ⟨D, _, rfl, .inl ⟨SqL.of upd_same, fun l hl => ?_⟩⟩
      have nl : H l = none := by
        by_cases z : l = D
        · rw [z]; exact hD
        · rw [upd_ne z] at hl; exact hl
      have e : (cpsV x).take x.cps.size = cpsV x := List.take_of_length_le (by unfold cpsV; rw [List.length_map, Array.length_toList]; exact Nat.le_refl _)
      rw [e] at *
      refine k _ l (fun b o h => ?_) nl upd_same
      rw [upd_ne (ne_of_none h nl), upd_ne (ne_of_none h hD)]
      exact h
/-! ### is_between -/
def sp_is_between (K : PySem.W.Frag) : Sp := fun vs H Q _ => ∃ (b lo hi : Int) (a : Addr), vs = [.int b, .ref a] ∧ SqT K H a [.int lo, .int hi] ∧ Q (.bl (decide (lo ≤ b) && decide (b ≤ hi))) H
abbrev s_is_between : Stmt := topS 14
theorem sc_is_between : FnScope ["byte", "bounds"] ["byte", "bounds"] (defScope s_is_between) := ⟨rfl, rfl, rfl, by decide +kernel, rfl, by decide +kernel, by decide +kernel⟩
theorem ok_is_between (F : Fun K "is_between" "is_between" s_is_between f fd) : FnOk P w K mg base CX0 1 f fd ["byte", "bounds"] (sp_is_between K) := by
  refine F.ok sc_is_between (fun vs H Q E h => ?_) (fun cdv A outer s H vs Q E hr h => ?_)
  · obtain ⟨_, _, _, _, rfl, _⟩ := h
    rfl
  · obtain ⟨b, lo, hi, a, rfl, ha, k⟩ := h
    refine ⟨_, (pss_one (ps_ret (pe_chain op_le op_le (pe_ix ix_tup (pv 1) pe_int (fun _ _ => rfl)) (pv 0) (pe_ix ix_tup (pv 1) pe_int (fun _ _ => rfl))))), ?_⟩
    refine ⟨_, rfl, a, _, 0, _, rfl, rfl, ha, rfl, _, rfl, lo, b, rfl, rfl, _, rfl, ?_⟩
    by_cases h1 : lo ≤ b
    · rw [decide_eq_true h1] at k ⊢
      exact iteT ⟨_, rfl, a, _, 1, _, rfl, rfl, ha, rfl, _, _, rfl, rfl, k⟩
    · rw [decide_eq_false h1] at k ⊢
      exact iteF k
end
end Ps
set_option Elab.async false
set_option maxRecDepth 100000
set_option maxHeartbeats 2000000
/-! Positions, sets of them, boxes, sets of pieces, as they stand. -/
namespace Ps
open PySem PySem.Spec PyProof.Rows L2 Gd
abbrev Pos := Vaflxa.Pos
def numOf : Pos → Nat
  | .start k => k
  | .finish k => k
  | .left _ _ c => c
  | .right _ _ c => c
def fromLeft : Pos → Bool
  | .start _ => true
  | .finish _ => false
  | .left _ _ _ => true
  | .right _ _ _ => false
def ClsOf (K : PySem.W.Frag) (D : Hp) (v : V) : Pos → Prop
  | .start _ => v = .non
  | .finish _ => v = .non
  | .left l r _ => PrV K D v l r
  | .right l r _ => PrV K D v l r
def posFs (tt cv : V) (p : Pos) : List (Str × V) := [("text", tt), ("cost", .int (Vaflxa.posCost p : Nat)), ("classes", cv), ("from_left", .bl (fromLeft p)), ("number", .int (numOf p : Nat))]
def PosAt (K : PySem.W.Frag) (CP : Addr) (D : Hp) (v : V) (p : Pos) : Prop := ∃ a dx tt cv, v = .ref a ∧ D a = some (.ins CP dx (posFs tt cv p)) ∧ BT K D tt (Vaflxa.posText p) ∧ ClsOf K D cv p
def EntP (K : PySem.W.Frag) (CP : Addr) (D : Hp) (e : Ent) (p : Pos) : Prop := e.1 = kT (Vaflxa.posText p) ∧ BT K D e.2.1 (Vaflxa.posText p) ∧ PosAt K CP D e.2.2 p
def PSet (K : PySem.W.Frag) (w : World) (CP : Addr) (D : Hp) (v : V) (ps : List Pos) : Prop := ∃ d xs ep, v = .ref d ∧ D d = some (GD w d xs ep) ∧ All2 (EntP K CP D) xs ps
section
variable {K : PySem.W.Frag} {w : World} {CP CB CPs : Addr} {D D' : Hp} {v : V}
theorem ClsOf.mono {p : Pos} (h : Sub D D') (q : ClsOf K D v p) : ClsOf K D' v p := by
  cases p with
  | start k => exact q
  | finish k => exact q
  | left l r c => exact PrV.mono h q
  | right l r c => exact PrV.mono h q
theorem PosAt.mono {p : Pos} (h : Sub D D') (q : PosAt K CP D v p) : PosAt K CP D' v p :=
  let ⟨a, dx, tt, cv, e, z, b, c⟩ := q; ⟨a, dx, tt, cv, e, h _ _ z, b.mono h, c.mono h⟩
theorem EntP.mono {e : Ent} {p : Pos} (h : Sub D D') (q : EntP K CP D e p) : EntP K CP D' e p := ⟨q.1, q.2.1.mono h, q.2.2.mono h⟩
theorem PSet.mono {ps : List Pos} (h : Sub D D') (q : PSet K w CP D v ps) : PSet K w CP D' v ps :=
  let ⟨d, xs, ep, e, z, b⟩ := q; ⟨d, xs, ep, e, h _ _ z, b.mono fun _ _ q => q.mono h⟩
theorem gkeys_of {xs : List Ent} {ps : List Pos} (q : All2 (EntP K CP D) xs ps) : GKeys K D xs := by
  intro e he
  obtain ⟨i, hi⟩ := List.mem_iff_getElem?.mp he
  obtain ⟨p, _, e1, e2, _⟩ := q.get hi
  rw [e1]
  exact e2.key
end
/-! ### classes -/
abbrev isByte := Vaflxa.isByte
/-- a field -/
def good (t : Tx) : Prop := t.length ≤ 40 ∧ ∀ c ∈ t, isByte c = true
theorem good_iff {t : Tx} : Vaflxb.goodField t = true ↔ good t := by
  unfold Vaflxb.goodField Vaflxa.goodText good
  rw [Bool.and_eq_true, decide_eq_true_eq, List.all_eq_true]
  exact Iff.rfl
theorem bt_all (f g : UInt8 → Bool) (h : ∀ n : Fin 256, f (UInt8.ofNat n) = g (UInt8.ofNat n)) (c : UInt8) : f c = g c := by
  have e : UInt8.ofNat c.toNat = c := UInt8.ofNat_toNat
  have := h ⟨c.toNat, c.toNat_lt⟩
  simpa only [e] using this
theorem bt_digit (c : UInt8) : (decide ((48 : Int) ≤ (c.toNat : Int)) && decide ((c.toNat : Int) ≤ 57)) = Vaflxa.isDigit c :=
  bt_all (fun c => (decide ((48 : Int) ≤ (c.toNat : Int)) && decide ((c.toNat : Int) ≤ 57))) Vaflxa.isDigit (by decide +kernel) c
theorem bt_small (c : UInt8) : (decide ((97 : Int) ≤ (c.toNat : Int)) && decide ((c.toNat : Int) ≤ 122)) = Vaflxa.isSmall c :=
  bt_all (fun c => (decide ((97 : Int) ≤ (c.toNat : Int)) && decide ((c.toNat : Int) ≤ 122))) Vaflxa.isSmall (by decide +kernel) c
theorem bt_capital (c : UInt8) : (decide ((65 : Int) ≤ (c.toNat : Int)) && decide ((c.toNat : Int) ≤ 90)) = Vaflxa.isCapital c :=
  bt_all (fun c => (decide ((65 : Int) ≤ (c.toNat : Int)) && decide ((c.toNat : Int) ≤ 90))) Vaflxa.isCapital (by decide +kernel) c
theorem bt_byte (c : UInt8) : (decide ((32 : Int) ≤ (c.toNat : Int)) && decide ((c.toNat : Int) ≤ 126)) = Vaflxa.isByte c :=
  bt_all (fun c => (decide ((32 : Int) ≤ (c.toNat : Int)) && decide ((c.toNat : Int) ≤ 126))) Vaflxa.isByte (by decide +kernel) c
theorem u8_eq (n : Nat) (c : UInt8) (hn : n < 256) : ((c.toNat : Int) = (n : Int)) ↔ c = UInt8.ofNat n := by
  constructor
  · intro h
    apply UInt8.toNat_inj.mp
    rw [UInt8.toNat_ofNat_of_lt' hn]; omega
  · intro h
    rw [h, UInt8.toNat_ofNat_of_lt' hn]
/-- which of the five kinds a byte is of -/
theorem kinds (c : UInt8) : (Vaflxa.isDigit c = true → Vaflxa.isSmall c = false ∧ Vaflxa.isCapital c = false ∧ (c == 32) = false) ∧ (Vaflxa.isSmall c = true → Vaflxa.isCapital c = false ∧ (c == 32) = false) ∧ (Vaflxa.isCapital c = true → (c == 32) = false) := by
  have key : ∀ n : Fin 256, (Vaflxa.isDigit (UInt8.ofNat n) = true → Vaflxa.isSmall (UInt8.ofNat n) = false ∧ Vaflxa.isCapital (UInt8.ofNat n) = false ∧ (UInt8.ofNat n == 32) = false) ∧ (Vaflxa.isSmall (UInt8.ofNat n) = true → Vaflxa.isCapital (UInt8.ofNat n) = false ∧ (UInt8.ofNat n == 32) = false) ∧ (Vaflxa.isCapital (UInt8.ofNat n) = true → (UInt8.ofNat n == 32) = false) := by decide +kernel
  have e : UInt8.ofNat c.toNat = c := UInt8.ofNat_toNat
  have := key ⟨c.toNat, c.toNat_lt⟩
  simpa only [e] using this
theorem classes_digit {c : UInt8} (h : Vaflxa.isDigit c = true) : Vaflxb.classesOf c = [.digits, .words] := by
  obtain ⟨h1, h2, h3⟩ := (kinds c).1 h
  simp [Vaflxb.classesOf, Vaflxa.inClass, Vaflxa.isLetter, Vaflxa.isSign, h, h1, h2, h3]
theorem classes_small {c : UInt8} (h0 : Vaflxa.isDigit c = false) (h : Vaflxa.isSmall c = true) : Vaflxb.classesOf c = [.small, .letters, .words] := by
  obtain ⟨h2, h3⟩ := (kinds c).2.1 h
  simp [Vaflxb.classesOf, Vaflxa.inClass, Vaflxa.isLetter, Vaflxa.isSign, h, h0, h2, h3]
theorem classes_capital {c : UInt8} (h0 : Vaflxa.isDigit c = false) (h1 : Vaflxa.isSmall c = false) (h : Vaflxa.isCapital c = true) : Vaflxb.classesOf c = [.capitals, .letters, .words] := by
  have h3 := (kinds c).2.2 h
  simp [Vaflxb.classesOf, Vaflxa.inClass, Vaflxa.isLetter, Vaflxa.isSign, h, h0, h1, h3]
theorem classes_blank : Vaflxb.classesOf 32 = [.blanks] := by
  simp [Vaflxb.classesOf, Vaflxa.inClass, Vaflxa.isLetter, Vaflxa.isSign, Vaflxa.isDigit, Vaflxa.isSmall, Vaflxa.isCapital]
theorem classes_sign {c : UInt8} (hb : Vaflxa.isByte c = true) (h0 : Vaflxa.isDigit c = false) (h1 : Vaflxa.isSmall c = false) (h2 : Vaflxa.isCapital c = false) (h3 : ¬ c = 32) : Vaflxb.classesOf c = [.sign c] := by
  simp [Vaflxb.classesOf, Vaflxa.inClass, Vaflxa.isLetter, Vaflxa.isSign, hb, h0, h1, h2, h3]
/-- the classes of the byte behind a place -/
def clsAtI (t : Tx) (z : Int) : List Kl := if 0 ≤ z then ((t[z.toNat]?).map Vaflxb.classesOf).getD [] else []
/-- a list of classes that stands -/
def CLs (K : PySem.W.Frag) (D : Hp) (v : V) (ks : List Kl) : Prop := ∃ a xs, v = .ref a ∧ D a = some (.lst xs) ∧ All2 (fun v k => BT K D v (Vaflxa.clsText k)) xs ks
theorem CLs.mono {K : PySem.W.Frag} {D D' : Hp} {v : V} {ks : List Kl} (h : Sub D D') (q : CLs K D v ks) : CLs K D' v ks :=
  let ⟨a, xs, e, z, b⟩ := q; ⟨a, xs, e, h _ _ z, b.mono fun _ _ q => q.mono h⟩
/-- the pairs of classes of which a place is a border -/
def prs (t : Tx) (p : Nat) : List (Kl × Kl) := (Vaflxb.endings t p).flatMap fun l => ((Vaflxb.beginnings t p).filter fun r => !(Vaflxa.isEmptyClass l && Vaflxa.isEmptyClass r)).map fun r => (l, r)
def CPrs (K : PySem.W.Frag) (D : Hp) (v : V) (ks : List (Kl × Kl)) : Prop := ∃ a xs, v = .ref a ∧ D a = some (.lst xs) ∧ All2 (fun v k => PrV K D v k.1 k.2) xs ks
theorem CPrs.mono {K : PySem.W.Frag} {D D' : Hp} {v : V} {ks : List (Kl × Kl)} (h : Sub D D') (q : CPrs K D v ks) : CPrs K D' v ks :=
  let ⟨a, xs, e, z, b⟩ := q; ⟨a, xs, e, h _ _ z, b.mono fun _ _ q => q.mono h⟩
end Ps
set_option Elab.async false
set_option maxRecDepth 100000
set_option maxHeartbeats 2000000
/-! Helpers for the defs' proofs. -/
namespace Ps
open PySem PySem.Spec PyProof.Rows L2 Gd
section
variable {K : PySem.W.Frag} {M : List Addr} {D H D' H' D1 H1 D2 H2 : Hp} {b p q : Addr} {o u u' v : HO} {E : XK} {Q : VK} {t : Tx}
/-- all that is new becomes data -/
def Fz (H D H' : Hp) : Hp := fun b => match H b with
  | none => H' b
  | some _ => D b
theorem Fz.new (e : H b = none) : Fz H D H' b = H' b := by unfold Fz; rw [e]
theorem Fz.old (e : H b = some o) : Fz H D H' b = D b := by unfold Fz; rw [e]
theorem Grow.all (h0 : Sub D H) (g : Grow M D H D' H') : Grow M D H (Fz H D H') H' := by
  refine ⟨g.h, g.m, fun b o e => ?_, fun b o e => ?_, fun b e => ?_⟩
  · rw [Fz.old (h0 b o e)]; exact e
  · cases z : H b with
    | none => rw [Fz.new z] at e; exact e
    | some w => rw [Fz.old z] at e; exact g.s b o (g.d b o e)
  · cases z : H b with
    | none => exact absurd z e
    | some w => exact Fz.old z
theorem Grow.sub (g : Grow M D H D' H') : Sub D' (Fz H D H') := fun b o e => by
  cases z : H b with
  | none => rw [Fz.new z]; exact g.s b o e
  | some w => rw [Fz.old z, ← g.n b (ne_none z)]; exact e
/-- a thing of ours that is not data yet -/
structure Own (D H D' H' : Hp) (p : Addr) (u : HO) : Prop where
  g : Grow [] D H D' H'
  n : H p = none
  at_ : H' p = some u
  nd : D' p = none
theorem Own.mk' (g : Grow [] D H D1 H1) (hp : H1 p = none) : Own D H D1 (upd H1 p u) p u := ⟨g.tmp hp, g.newOf hp, upd_same, g.s.none hp⟩
theorem Own.call (a : Own D H D1 H1 p u) (g : Grow [] D1 H1 D2 H2) : Own D H D2 H2 p u :=
  ⟨a.g.trans g, a.n, g.h p u (by simp) a.at_, g.keep (ne_none a.at_) a.nd⟩
theorem Own.set (a : Own D H D1 H1 p u) : Own D H D1 (upd H1 p u') p u' := ⟨a.g.write (.inl a.n) a.nd, a.n, upd_same, a.nd⟩
theorem Own.tmp (a : Own D H D1 H1 p u) (hq : H1 q = none) : Own D H D1 (upd H1 q v) p u :=
  ⟨a.g.tmp hq, a.n, by rw [upd_ne (ne_of_none a.at_ hq)]; exact a.at_, a.nd⟩
theorem Own.new (a : Own D H D1 H1 p u) (hq : H1 q = none) : Own D H (upd D1 q v) (upd H1 q v) p u :=
  ⟨a.g.new hq, a.n, by rw [upd_ne (ne_of_none a.at_ hq)]; exact a.at_, by rw [upd_ne (ne_of_none a.at_ hq)]; exact a.nd⟩
theorem Own.other (a : Own D H D1 H1 p u) (b : Own D H D1 H1 q v) (ne : q ≠ p) : Own D H D1 (upd H1 p u') q v :=
  ⟨a.set.g, b.n, by rw [upd_ne ne]; exact b.at_, b.nd⟩
theorem Own.ne {w : HO} (a : Own D H D1 H1 p u) (hq : H1 q = none) : p ≠ q := ne_of_none a.at_ hq
/-- it becomes data -/
theorem Own.fin (h0 : Sub D H) (a : Own D H D1 H1 p u) : Grow [] D H (Fz H D H1) H1 ∧ Sub D1 (Fz H D H1) ∧ Fz H D H1 p = some u :=
  ⟨a.g.all h0, a.g.sub, by rw [Fz.new a.n]; exact a.at_⟩
/-- bytes_of of a text: new data -/
theorem bytes_new {x : Str} (hx : cpsV x = tv t) (hs : Sub D H) (s : Same H H') (n : H p = none) (e : H' p = some (.tup (cpsV x))) : ∃ D', Grow [] D H D' H' ∧ BT K D' (.ref p) t :=
  ⟨_, (Grow.of_same hs s).freeze n e (hs.none n), p, rfl, by rw [← hx]; exact SqT.of upd_same⟩
theorem sz0 : 0 ≤ sizeLine := by decide
theorem sz1 : 1 ≤ sizeLine := by decide
theorem sz2 : 2 ≤ sizeLine := by decide
theorem sz3 : 3 ≤ sizeLine := by decide
theorem sz4 : 4 ≤ sizeLine := by decide
theorem sz5 : 5 ≤ sizeLine := by decide
theorem bt_dot : cpsV "." = tv [46] := rfl
theorem All2.cons {α β : Type} {R : α → β → Prop} {a : α} {b : β} {as : List α} {bs : List β} (h : R a b) (t : All2 R as bs) : All2 R (a :: as) (b :: bs) := ⟨h, t⟩
theorem All2.nil {α β : Type} {R : α → β → Prop} : All2 R [] [] := trivial
/-- a list of classes as data -/
theorem CLs.dp {v : V} {ks : List Kl} (q : CLs K D v ks) : Dp K D v (.list (ks.map fun k => dT (Vaflxa.clsText k))) := by
  obtain ⟨a, xs, rfl, e, z⟩ := q
  refine .lst (SqL.of e) ?_
  clear e
  induction xs generalizing ks with
  | nil => cases ks with
    | nil => exact .nil
    | cons _ _ => exact z.elim
  | cons x xs ih => cases ks with
    | nil => exact z.elim
    | cons k ks => exact .cons (BT.dp z.1) (ih z.2)
theorem shaped_cls : ∀ ks : List Kl, PyData.canLayAll0 (ks.map fun k => dT (Vaflxa.clsText k)) = true ∧ PyData.depthAll (ks.map fun k => dT (Vaflxa.clsText k)) ≤ 1
  | [] => ⟨rfl, Nat.zero_le _⟩
  | k :: ks => by
    obtain ⟨h1, h2⟩ := shaped_cls ks
    obtain ⟨i1, i2⟩ := shaped_ints (Vaflxa.clsText k)
    refine ⟨?_, ?_⟩
    · show (PyData.canLayAll0 _ && PyData.canLayAll0 (ks.map fun k => dT (Vaflxa.clsText k))) = true
      rw [h1, i1]; rfl
    · show max (PyData.depthAll _ + 1) (PyData.depthAll (ks.map fun k => dT (Vaflxa.clsText k))) ≤ 1
      rw [i2]; omega
theorem shaped_CL (ks : List Kl) : SeqAt.shaped (.list (ks.map fun k => dT (Vaflxa.clsText k))) = true := by
  obtain ⟨h1, h2⟩ := shaped_cls ks
  unfold SeqAt.shaped
  rw [show (PyData.list (ks.map fun k => dT (Vaflxa.clsText k))).canLay0 = PyData.canLayAll0 (ks.map fun k => dT (Vaflxa.clsText k)) from rfl, h1,
    show (PyData.list (ks.map fun k => dT (Vaflxa.clsText k))).depth = PyData.depthAll (ks.map fun k => dT (Vaflxa.clsText k)) + 1 from rfl]
  simp only [Bool.true_and, decide_eq_true_eq]
  omega
theorem Dp.up {v : V} {d : PyData} (h : Sub D H) (q : Dp K D v d) : Dp K H v d := Dp.mono (fun b u => h.rd b u) _ _ q
theorem KeyOf.up {v : V} {k : NestedKey} (h : Sub D H) (q : KeyOf K D k v) : KeyOf K H k v := Gd.KeyOf.mono (fun b ys => h.rd b _) q
theorem GKeys.up {xs : List Ent} (h : Sub D H) (q : GKeys K D xs) : GKeys K H xs := Gd.GKeys.mono (fun b ys => h.rd b _) q
theorem SqT.up {a : Addr} {xs : List V} (h : Sub D H) (q : SqT K D a xs) : SqT K H a xs := Gd.SqT.mono (fun b ys => h.rd b _) q
theorem BT.sq {v : V} {t : Tx} (h : Sub D H) (q : BT K D v t) : ∃ a, v = .ref a ∧ SqT K H a (tv t) := let ⟨a, e, z⟩ := q; ⟨a, e, SqT.up h z⟩
theorem cls_inj : ∀ {k m : Kl}, Vaflxa.clsText k = Vaflxa.clsText m → k = m := by
  intro k m h
  cases k <;> cases m <;> simp [Vaflxa.clsText] at h <;> first | rfl | (subst h; rfl)
theorem kP_inj {l r l' r' : Kl} (h : kP l r = kP l' r') : l = l' ∧ r = r' := by
  unfold kP at h
  injection h with h
  injection h with h1 h2
  injection h2 with h2 _
  exact ⟨cls_inj (kT_inj h1), cls_inj (kT_inj h2)⟩
end
end Ps
namespace Ps
open PySem PySem.Spec PyProof.Rows L2 Gd
section
variable {K : PySem.W.Frag} {M : List Addr} {D H D' H' D1 H1 D2 H2 : Hp} {b p q : Addr} {o u u' v : HO} {t : Tx}
theorem walk_range0 {n : Nat} : Walk (Itr 0 n) n (fun _ => True) (fun i H x H' => H' = H ∧ x = .int (i : Nat)) :=
  ⟨fun _ _ hi _ => hi, fun _ _ => Nat.le_refl _, fun i _ _ _ _ _ y => ⟨y.1, by rw [y.2, show (0 : Int) + (i : Int) = (i : Int) by omega]⟩⟩
theorem pe_ref {X : Cx} {x : Str} {a : Addr} {pos : PySem.Pos} (hg : Gl X x) (h : X.mg x = some (.ref a)) (hd : (x == ("__debug__" : Str)) = false := by decide) : PE X (.Name x pos) (tC (.ref a)) := pe_glob hg h rfl hd
/-! rules within comprehensions: their reading names no thing of the block -/
theorem op_notInR {X : Cx} {K : PySem.W.Frag} {k : Nat} (hr : Room k X.A) (hK : X.K = K := by rfl) : OpR X (compareOp .NotIn) (rNotInD K) := hK ▸ op_notInD (by have := hr.un; omega)
theorem op_neR {X : Cx} {K : PySem.W.Frag} {k : Nat} (hr : Room k X.A) (hK : X.K = K := by rfl) : OpR X (compareOp .NotEq) (rNeD K) := hK ▸ op_neD hr.units
theorem pe_fldR {X : Cx} {K : PySem.W.Frag} {e : Expr} {ta : TE} {f : Str} {pos : PySem.Pos} (he : PE X e ta) (hb : attributeBase e f X.env (eval e X.env) = eval e X.env) (hK : X.K = K := by rfl) : PE X (.Attribute e f pos) (tFld K ta f) := by
  subst hK
  exact pe_fld he hb
def tGetG (K : PySem.W.Frag) (w : World) (td ty : TE) : TE := fun σ H Q => td σ H fun x H1 => ty σ H1 fun y H2 => ∃ d xs ep k v, GGet K w H2 x y d xs ep k ∧ getE xs k = some v ∧ Q v H2
theorem pe_getR {X : Cx} {K : PySem.W.Frag} {w : World} {k : Nat} {o i : Expr} {td ty : TE} {pos : PySem.Pos} (hr : Room k X.A) (ho : PE X o td) (hi : PE X i ty) (hs : NoSl i) (hK : X.K = K := by rfl) (hw : X.w = w := by rfl) :
    PE X (.Subscript o i pos) (tGetG K w td ty) := by
  subst hK hw
  exact pe_getG hr.units ho hi hs
theorem Grow.fresh (hs : Sub D H) (hp : H p = none) : Grow M D H (upd D p u) (upd H p u) := (Grow.refl hs).new hp
theorem mem_classes {c : UInt8} {k : Kl} (h : k ∈ Vaflxb.classesOf c) : Vaflxa.inClass k c = true ∧ Vaflxa.isEmptyClass k = false ∧ (∀ d, k ∈ Vaflxb.classesOf d ↔ Vaflxa.inClass k d = true) := by
  unfold Vaflxb.classesOf at h
  rw [List.mem_append, List.mem_filter] at h
  have key : ∀ d, ∀ k ∈ ([.digits, .small, .capitals, .letters, .words, .blanks] : List Kl), k ∈ Vaflxb.classesOf d ↔ Vaflxa.inClass k d = true := by
    intro d k hk
    unfold Vaflxb.classesOf
    rw [List.mem_append, List.mem_filter]
    constructor
    · rintro (h | h)
      · exact h.2
      · exfalso
        by_cases z : Vaflxa.isSign d = true
        · rw [if_pos z] at h
          simp at h
          subst h
          simp at hk
        · rw [if_neg z] at h; exact nomatch h
    · intro h; exact .inl ⟨hk, h⟩
  rcases h with ⟨h1, h2⟩ | h
  · refine ⟨h2, ?_, fun d => key d k h1⟩
    simp at h1
    rcases h1 with rfl | rfl | rfl | rfl | rfl | rfl <;> rfl
  · by_cases z : Vaflxa.isSign c = true
    · rw [if_pos z] at h
      simp at h
      subst h
      refine ⟨by simp [Vaflxa.inClass], rfl, fun d => ?_⟩
      unfold Vaflxb.classesOf
      rw [List.mem_append]
      constructor
      · rintro (h | h)
        · simp at h
        · by_cases z : Vaflxa.isSign d = true
          · rw [if_pos z] at h
            simp at h
            subst h
            simp [Vaflxa.inClass]
          · rw [if_neg z] at h; exact nomatch h
      · intro h
        simp [Vaflxa.inClass] at h
        subst h
        right
        rw [if_pos z]
        simp
    · rw [if_neg z] at h; exact nomatch h
theorem any_cls (ks : List Kl) (k : Kl) : ((ks.map fun k => dT (Vaflxa.clsText k)).any fun z => PyData.eqv z (dT (Vaflxa.clsText k))) = true ↔ k ∈ ks := by
  rw [List.any_map, List.any_eq_true]
  constructor
  · rintro ⟨m, hm, h⟩
    have h : PyData.eqv (dT (Vaflxa.clsText m)) (dT (Vaflxa.clsText k)) = true := h
    rw [eqv_dT, decide_eq_true_eq] at h
    rw [← cls_inj h]; exact hm
  · intro h
    exact ⟨k, h, by show PyData.eqv _ _ = true; rw [eqv_dT]; simp⟩
theorem clsAt_nat (t : Tx) (p : Nat) : clsAtI t (p : Int) = ((t[p]?).map Vaflxb.classesOf).getD [] := by
  unfold clsAtI; rw [if_pos (by omega)]; rfl
theorem clsAt_pred (t : Tx) (p : Nat) : clsAtI t ((p : Int) - 1) = if p = 0 then [] else ((t[p - 1]?).map Vaflxb.classesOf).getD [] := by
  unfold clsAtI
  by_cases h : p = 0
  · rw [if_pos h, if_neg (by omega)]
  · rw [if_neg h, if_pos (by omega), show ((p : Int) - 1).toNat = p - 1 by omega]
/-- a class that is there begins where it was not before, ends where it is no more -/
theorem in_at {t : Tx} {k : Kl} {c : UInt8} (h : k ∈ Vaflxb.classesOf c) (p : Nat) : Vaflxa.byteIn k t p = true ↔ k ∈ clsAtI t p := by
  rw [clsAt_nat]
  unfold Vaflxa.byteIn
  cases e : t[p]? with
  | none => simp
  | some d => exact ((mem_classes h).2.2 d).symm
theorem in_before {t : Tx} {k : Kl} {c : UInt8} (h : k ∈ Vaflxb.classesOf c) (p : Nat) : Vaflxa.beforeIn k t p = true ↔ k ∈ clsAtI t ((p : Int) - 1) := by
  rw [clsAt_pred]
  unfold Vaflxa.beforeIn
  by_cases hp : p = 0
  · rw [if_pos hp]; simp [hp]
  · rw [if_neg hp, ← clsAt_nat, ← in_at h]
    rw [Bool.and_eq_true, decide_eq_true_eq]
    exact ⟨fun z => z.2, fun z => ⟨by omega, z⟩⟩
theorem mem_at {t : Tx} {z : Int} {k : Kl} (h : k ∈ clsAtI t z) : ∃ c, k ∈ Vaflxb.classesOf c := by
  unfold clsAtI at h
  split at h
  · cases e : t[z.toNat]? with
    | none => rw [e] at h; exact nomatch h
    | some c => rw [e] at h; exact ⟨c, h⟩
  · exact nomatch h
theorem endings_eq (t : Tx) (p : Nat) : Vaflxb.endings t p = .empty :: (clsAtI t ((p : Int) - 1)).filter fun k => !((clsAtI t p).map fun k => dT (Vaflxa.clsText k)).any fun z => PyData.eqv z (dT (Vaflxa.clsText k)) := by
  unfold Vaflxb.endings
  rw [clsAt_pred]
  by_cases hp : p = 0
  · rw [if_pos hp, if_pos hp]; rfl
  · rw [if_neg hp, if_neg hp]
    congr 1
    refine List.filter_congr fun k hk => ?_
    have hk' : k ∈ clsAtI t ((p : Int) - 1) := by rw [clsAt_pred, if_neg hp]; exact hk
    obtain ⟨c, hc⟩ := mem_at hk'
    unfold Vaflxa.ends
    rw [(mem_classes hc).2.1, (in_before hc p).mpr hk', Bool.false_or, Bool.true_and]
    congr 1
    rw [Bool.eq_iff_iff, any_cls]
    exact in_at hc p
theorem beginnings_eq (t : Tx) (p : Nat) : Vaflxb.beginnings t p = .empty :: (clsAtI t p).filter fun k => !((clsAtI t ((p : Int) - 1)).map fun k => dT (Vaflxa.clsText k)).any fun z => PyData.eqv z (dT (Vaflxa.clsText k)) := by
  unfold Vaflxb.beginnings
  rw [← clsAt_nat]
  congr 1
  refine List.filter_congr fun k hk => ?_
  obtain ⟨c, hc⟩ := mem_at hk
  unfold Vaflxa.begins
  rw [(mem_classes hc).2.1, (in_at hc p).mpr hk, Bool.false_or, Bool.true_and]
  congr 1
  rw [Bool.eq_iff_iff, any_cls]
  exact in_before hc p
/-- few classes -/
theorem clsAt_le (t : Tx) (z : Int) : (clsAtI t z).length ≤ 7 := by
  unfold clsAtI
  split
  · cases e : t[z.toNat]? with
    | none => simp
    | some c =>
      show (Vaflxb.classesOf c).length ≤ 7
      unfold Vaflxb.classesOf
      rw [List.length_append]
      have h1 := List.length_filter_le (fun k => Vaflxa.inClass k c) ([.digits, .small, .capitals, .letters, .words, .blanks] : List Kl)
      have h2 : (if Vaflxa.isSign c = true then [Vaflxa.Cls.sign c] else []).length ≤ 1 := by split <;> simp
      simp only [List.length_cons, List.length_nil] at h1
      omega
  · simp
theorem filter_take {α : Type} (f : α → Bool) (xs : List α) (i : Nat) (x : α) (h : xs[i]? = some x) : (xs.take (i + 1)).filter f = (xs.take i).filter f ++ if f x = true then [x] else [] := by
  rw [List.take_add_one, h, List.filter_append]
  congr 1
  simp [List.filter_cons]
/-- what is written was new at the start -/
theorem Grow.own (a : Grow [] D H D1 H1) (b : Grow [p] D1 H1 D2 H2) (hp : H p = none) : Grow [] D H D2 H2 := by
  refine ⟨fun c o _ e => b.h c o ?_ (a.h c o (by simp) e), fun c e => b.m c (a.m c e), a.d.trans b.d, b.s, fun c e => (b.n c (a.m c e)).trans (a.n c e)⟩
  rw [List.mem_singleton]
  exact ne_of_none e hp
theorem isE_dot (k : Kl) : (!PyData.eqv (dT (Vaflxa.clsText k)) (dT [46])) = !Vaflxa.isEmptyClass k := by
  rw [eqv_dT]
  congr 1
  cases k <;> first | rfl | (simp [Vaflxa.clsText, Vaflxa.isEmptyClass])
theorem ends_le (t : Tx) (p : Nat) : (Vaflxb.endings t p).length ≤ 8 := by
  rw [endings_eq]
  have h1 := List.length_filter_le (fun k => !((clsAtI t p).map fun k => dT (Vaflxa.clsText k)).any fun z => PyData.eqv z (dT (Vaflxa.clsText k))) (clsAtI t ((p : Int) - 1))
  have h3 := clsAt_le t ((p : Int) - 1)
  simp only [List.length_cons]; omega
theorem begs_le (t : Tx) (p : Nat) : (Vaflxb.beginnings t p).length ≤ 8 := by
  rw [beginnings_eq]
  have h1 := List.length_filter_le (fun k => !((clsAtI t ((p : Int) - 1)).map fun k => dT (Vaflxa.clsText k)).any fun z => PyData.eqv z (dT (Vaflxa.clsText k))) (clsAtI t p)
  have h3 := clsAt_le t p
  simp only [List.length_cons]; omega
theorem flatMap_take {α β : Type} (f : α → List β) (xs : List α) (i : Nat) (x : α) (h : xs[i]? = some x) : (xs.take (i + 1)).flatMap f = (xs.take i).flatMap f ++ f x := by
  rw [List.take_add_one, h, List.flatMap_append]
  congr 1
  simp
theorem small_le {n : Nat} (h : n ≤ 1000000) : n ≤ sizeLine := Nat.le_trans h (by decide)
theorem small_lt {n : Nat} (h : n ≤ 1000000) : n < sizeLine := Nat.lt_of_le_of_lt h (by decide)
end
end Ps
set_option Elab.async false
set_option linter.all false
set_option maxRecDepth 100000
set_option maxHeartbeats 2000000
namespace Ps
open PySem PySem.Spec PyProof.Rows L2 Gd
def sp_classes_of (w : World) (K : PySem.W.Frag) (CP CB CPs CPc CS CC : Addr) : Sp := fun vs H Q _ => ∃ D c, vs = [bv c] ∧ isByte c = true ∧ Sub D H ∧ ∀ D' H' v, Grow [] D H D' H' → CLs K D' v (Vaflxb.classesOf c) → Q v H'
def sp_classes_at (w : World) (K : PySem.W.Frag) (CP CB CPs CPc CS CC : Addr) : Sp := fun vs H Q _ => ∃ D t z fv, vs = [fv, .int z] ∧ Sub D H ∧ BL D fv t ∧ good t ∧ ∀ D' H' v, Grow [] D H D' H' → CLs K D' v (clsAtI t z) → Q v H'
def sp_ending_at (w : World) (K : PySem.W.Frag) (CP CB CPs CPc CS CC : Addr) : Sp := fun vs H Q _ => ∃ (D : Hp) (t : Tx) (p : Nat) (fv : V), vs = [fv, .int p] ∧ Sub D H ∧ BL D fv t ∧ good t ∧ ∀ D' H' v, Grow [] D H D' H' → CLs K D' v (Vaflxb.endings t p) → Q v H'
def sp_beginning_at (w : World) (K : PySem.W.Frag) (CP CB CPs CPc CS CC : Addr) : Sp := fun vs H Q _ => ∃ (D : Hp) (t : Tx) (p : Nat) (fv : V), vs = [fv, .int p] ∧ Sub D H ∧ BL D fv t ∧ good t ∧ ∀ D' H' v, Grow [] D H D' H' → CLs K D' v (Vaflxb.beginnings t p) → Q v H'
def sp_class_pairs (w : World) (K : PySem.W.Frag) (CP CB CPs CPc CS CC : Addr) : Sp := fun vs H Q _ => ∃ (D : Hp) (t : Tx) (p : Nat) (fv : V), vs = [fv, .int p] ∧ Sub D H ∧ BL D fv t ∧ good t ∧ ∀ D' H' v, Grow [] D H D' H' → CPrs K D' v (prs t p) → Q v H'
section
variable {P : Program} {w : World} {K : PySem.W.Frag} {mg : Str → Option Value} {base : Heap} {CP CB CPs CPc CS CC : Addr} {f : Addr} {fd : FuncData}
abbrev s_classes_of : Stmt := topS 15
theorem sc_classes_of : FnScope ["byte"] ["byte"] (defScope s_classes_of) := ⟨rfl, rfl, rfl, by decide +kernel, rfl, by decide +kernel, by decide +kernel⟩
theorem ok_classes_of (F : Fun K "classes_of" "classes_of" s_classes_of f fd) (T : Txt K mg CP CB CPs CPc CS CC) (C_bytes_of : Def P w K mg base 1 "bytes_of" ["text"] sp_bytes_of) (C_is_between : Def P w K mg base 1 "is_between" ["byte", "bounds"] (sp_is_between K)) : FnOk P w K mg base CX0 2 f fd ["byte"] (sp_classes_of w K CP CB CPs CPc CS CC) := by
  obtain ⟨aDIGITS, g_DIGITS, qDIGITS⟩ := T.g_DIGITS
  obtain ⟨aSMALL, g_SMALL, qSMALL⟩ := T.g_SMALL
  obtain ⟨aCAPITALS, g_CAPITALS, qCAPITALS⟩ := T.g_CAPITALS
  refine F.ok sc_classes_of (fun vs H Q E h => ?_) (fun cdv A outer s H vs Q E hr h => ?_)
  · obtain ⟨_, _, rfl, _⟩ := h; rfl
  · obtain ⟨D, c, rfl, hb, hs, k⟩ := h
    refine ⟨_, (pss_cons (ps_if (pt_val (pe_callD C_is_between (hr.mono (by decide)) (by rfl) (pa_cons (pv 0) (pa_cons (pe_const (by rfl) g_DIGITS) pa_nil)))) (pss_one (ps_ret (pe_lst (pa_cons (pe_callD C_bytes_of (hr.mono (by decide)) (by rfl) (pa_cons pe_str pa_nil)) (pa_cons (pe_callD C_bytes_of (hr.mono (by decide)) (by rfl) (pa_cons pe_str pa_nil)) pa_nil))))) pss_nil)
      (pss_cons (ps_if (pt_val (pe_callD C_is_between (hr.mono (by decide)) (by rfl) (pa_cons (pv 0) (pa_cons (pe_const (by rfl) g_SMALL) pa_nil)))) (pss_one (ps_ret (pe_lst (pa_cons (pe_callD C_bytes_of (hr.mono (by decide)) (by rfl) (pa_cons pe_str pa_nil)) (pa_cons (pe_callD C_bytes_of (hr.mono (by decide)) (by rfl) (pa_cons pe_str pa_nil)) (pa_cons (pe_callD C_bytes_of (hr.mono (by decide)) (by rfl) (pa_cons pe_str pa_nil)) pa_nil)))))) pss_nil)
      (pss_cons (ps_if (pt_val (pe_callD C_is_between (hr.mono (by decide)) (by rfl) (pa_cons (pv 0) (pa_cons (pe_const (by rfl) g_CAPITALS) pa_nil)))) (pss_one (ps_ret (pe_lst (pa_cons (pe_callD C_bytes_of (hr.mono (by decide)) (by rfl) (pa_cons pe_str pa_nil)) (pa_cons (pe_callD C_bytes_of (hr.mono (by decide)) (by rfl) (pa_cons pe_str pa_nil)) (pa_cons (pe_callD C_bytes_of (hr.mono (by decide)) (by rfl) (pa_cons pe_str pa_nil)) pa_nil)))))) pss_nil)
      (pss_cons (ps_if (pt_cmpR op_eq (pv 0) (pe_const (by rfl) T.g_BLANK) (nomark _)) (pss_one (ps_ret (pe_lst (pa_cons (pe_callD C_bytes_of (hr.mono (by decide)) (by rfl) (pa_cons pe_str pa_nil)) pa_nil)))) pss_nil)
      (pss_one (ps_ret (pe_lst (pa_cons (pe_op op_catA (pe_callD C_bytes_of (hr.mono (by decide)) (by rfl) (pa_cons pe_str pa_nil)) (pe_tup (pa_cons (pv 0) pa_nil))) pa_nil)))))))), ?_⟩
    refine ⟨_, rfl, _, _, _, _, rfl, qDIGITS H, _, rfl, ?_⟩
    rw [bt_digit]
    cases hd : Vaflxa.isDigit c with
    | true =>
      refine iteT ?_
      refine ⟨_, rfl, by decide, fun H1 p1 s1 n1 e1 => ?_⟩
      obtain ⟨D1, g1, b1⟩ := bytes_new (K := K) (t := [68]) rfl hs s1 n1 e1
      refine ⟨_, rfl, by decide, fun H2 p2 s2 n2 e2 => ?_⟩
      obtain ⟨D2, g2, b2⟩ := bytes_new (K := K) (t := [78]) rfl g1.s s2 n2 e2
      refine ⟨sz2, fun p hp => ?_⟩
      rw [classes_digit hd] at k
      have g3 := Grow.fresh (M := []) (u := .lst [V.ref p1, V.ref p2]) g2.s hp
      exact k _ _ _ ((g1.trans g2).trans g3) ⟨p, _, rfl, upd_same, b1.mono (g2.d.trans g3.d), b2.mono g3.d, trivial⟩
    | false =>
      refine iteF ⟨_, rfl, _, _, _, _, rfl, qSMALL H, _, rfl, ?_⟩
      rw [bt_small]
      cases hd1 : Vaflxa.isSmall c with
      | true =>
        refine iteT ?_
        refine ⟨_, rfl, by decide, fun H1 p1 s1 n1 e1 => ?_⟩
        obtain ⟨D1, g1, b1⟩ := bytes_new (K := K) (t := [76]) rfl hs s1 n1 e1
        refine ⟨_, rfl, by decide, fun H2 p2 s2 n2 e2 => ?_⟩
        obtain ⟨D2, g2, b2⟩ := bytes_new (K := K) (t := [65]) rfl g1.s s2 n2 e2
        refine ⟨_, rfl, by decide, fun H3 p3 s3 n3 e3 => ?_⟩
        obtain ⟨D3, g3, b3⟩ := bytes_new (K := K) (t := [78]) rfl g2.s s3 n3 e3
        refine ⟨sz3, fun p hp => ?_⟩
        rw [classes_small hd hd1] at k
        have g4 := Grow.fresh (M := []) (u := .lst [V.ref p1, V.ref p2, V.ref p3]) g3.s hp
        exact k _ _ _ (((g1.trans g2).trans g3).trans g4) ⟨p, _, rfl, upd_same, b1.mono ((g2.d.trans g3.d).trans g4.d), b2.mono (g3.d.trans g4.d), b3.mono g4.d, trivial⟩
      | false =>
        refine iteF ⟨_, rfl, _, _, _, _, rfl, qCAPITALS H, _, rfl, ?_⟩
        rw [bt_capital]
        cases hd2 : Vaflxa.isCapital c with
        | true =>
          refine iteT ?_
          refine ⟨_, rfl, by decide, fun H1 p1 s1 n1 e1 => ?_⟩
          obtain ⟨D1, g1, b1⟩ := bytes_new (K := K) (t := [85]) rfl hs s1 n1 e1
          refine ⟨_, rfl, by decide, fun H2 p2 s2 n2 e2 => ?_⟩
          obtain ⟨D2, g2, b2⟩ := bytes_new (K := K) (t := [65]) rfl g1.s s2 n2 e2
          refine ⟨_, rfl, by decide, fun H3 p3 s3 n3 e3 => ?_⟩
          obtain ⟨D3, g3, b3⟩ := bytes_new (K := K) (t := [78]) rfl g2.s s3 n3 e3
          refine ⟨sz3, fun p hp => ?_⟩
          rw [classes_capital hd hd1 hd2] at k
          have g4 := Grow.fresh (M := []) (u := .lst [V.ref p1, V.ref p2, V.ref p3]) g3.s hp
          exact k _ _ _ (((g1.trans g2).trans g3).trans g4) ⟨p, _, rfl, upd_same, b1.mono ((g2.d.trans g3.d).trans g4.d), b2.mono (g3.d.trans g4.d), b3.mono g4.d, trivial⟩
        | false =>
          refine iteF ⟨_, rfl, rfl, _, rfl, ?_⟩
          by_cases h32 : c = 32
          · subst h32
            refine iteT ?_
            refine ⟨_, rfl, by decide, fun H1 p1 s1 n1 e1 => ?_⟩
            obtain ⟨D1, g1, b1⟩ := bytes_new (K := K) (t := [66]) rfl hs s1 n1 e1
            refine ⟨sz1, fun p hp => ?_⟩
            rw [classes_blank] at k
            have g2 := Grow.fresh (M := []) (u := .lst [V.ref p1]) g1.s hp
            exact k _ _ _ (g1.trans g2) ⟨p, _, rfl, upd_same, b1.mono g2.d, trivial⟩
          · have hne : decide (bv c = .int 32) = false := decide_eq_false fun z => h32 (by
              have z : (c.toNat : Int) = 32 := V.int.inj z
              exact UInt8.toNat_inj.mp (by show c.toNat = 32; omega))
            rw [hne]
            refine iteF ?_
            refine ⟨_, rfl, by decide, fun H1 p1 s1 n1 e1 => ?_⟩
            obtain ⟨D1, g1, b1⟩ := bytes_new (K := K) (t := [39]) rfl hs s1 n1 e1
            refine ⟨_, rfl, sz1, fun p hp => ?_⟩
            obtain ⟨a1, e1', s1⟩ := b1
            cases e1'
            have g2 := Grow.fresh (M := []) (u := .tup [bv c]) g1.s hp
            refine ⟨p1, p, _, _, rfl, rfl, SqT.up g2.s (SqT.up g2.d s1), SqT.of upd_same, sz2, fun z => (List.cons_ne_nil _ _ z).elim, fun _ z => (List.cons_ne_nil _ _ z).elim, fun _ _ q3 hp3 => ⟨sz1, fun q4 hp4 => ?_⟩⟩
            have g3 := Grow.fresh (M := []) (u := .tup (tv [39] ++ [bv c])) g2.s hp3
            have g4 := Grow.fresh (M := []) (u := .lst [V.ref q3]) g3.s hp4
            rw [classes_sign hb hd hd1 hd2 h32] at k
            exact k _ _ _ (((g1.trans g2).trans g3).trans g4) ⟨q4, _, rfl, upd_same, ⟨q3, rfl, SqT.up g4.d (SqT.of upd_same)⟩, trivial⟩
abbrev s_classes_at : Stmt := topS 16
theorem sc_classes_at : FnScope ["field", "place"] ["field", "place"] (defScope s_classes_at) := ⟨rfl, rfl, rfl, by decide +kernel, rfl, by decide +kernel, by decide +kernel⟩
theorem ok_classes_at (F : Fun K "classes_at" "classes_at" s_classes_at f fd) (T : Txt K mg CP CB CPs CPc CS CC) (C_classes_of : Def P w K mg base 2 "classes_of" ["byte"] (sp_classes_of w K CP CB CPs CPc CS CC)) : FnOk P w K mg base CX0 3 f fd ["field", "place"] (sp_classes_at w K CP CB CPs CPc CS CC) := by
  refine F.ok sc_classes_at (fun vs H Q E h => ?_) (fun cdv A outer s H vs Q E hr h => ?_)
  · obtain ⟨_, _, _, _, rfl, _⟩ := h; rfl
  · obtain ⟨D, t, z, fv, rfl, hs, ⟨a, rfl, ha⟩, hg, k⟩ := h
    refine ⟨_, (pss_cons (ps_if (pt_chain op_le op_lt pe_int (pv 1) (pe_callB call_len (by rfl) T.m_len b_len (pa_cons (pv 0) pa_nil))) (pss_one (ps_ret (pe_callD C_classes_of (hr.mono (by decide)) (by rfl) (pa_cons (pe_ix ix_list (pv 0) (pv 1) (fun _ _ => rfl)) pa_nil)))) pss_nil)
      (pss_one (ps_ret (pe_lst pa_nil)))), ?_⟩
    have final : ¬ (0 ≤ z ∧ z < t.length) → ∀ p, H p = none → Q (.ref p) (upd H p (.lst [])) := fun hz p hp => by
      have g := Grow.fresh (M := []) (u := .lst []) hs hp
      refine k _ _ _ g ⟨p, _, rfl, upd_same, ?_⟩
      have e : clsAtI t z = [] := by
        unfold clsAtI
        by_cases h1 : 0 ≤ z
        · rw [if_pos h1, List.getElem?_eq_none (by omega)]; rfl
        · rw [if_neg h1]
      rw [e]; trivial
    refine ⟨_, rfl, 0, z, rfl, rfl, _, rfl, ?_⟩
    by_cases h1 : 0 ≤ z
    · rw [decide_eq_true h1]
      refine iteT ⟨_, rfl, _, t.length, rfl, .inl ⟨tv t, SqL.of (hs _ _ ha), by simp⟩, z, t.length, rfl, rfl, _, rfl, ?_⟩
      by_cases h2 : z < t.length
      · rw [decide_eq_true h2]
        have h3 : t[z.toNat]? = some (t[z.toNat]'(by omega)) := by simp
        refine iteT ⟨_, rfl, _, rfl, a, tv t, z, bv (t[z.toNat]'(by omega)), rfl, rfl, SqL.of (hs _ _ ha), ?_, D, _, rfl, hg.2 _ (List.getElem_mem _), hs, fun D' H' v g c => k _ _ _ g ?_⟩
        · have : atI (tv t) ((z.toNat : Nat) : Int) = some (bv (t[z.toNat]'(by omega))) := atI_nat (by rw [List.getElem?_map, h3]; rfl)
          rw [show ((z.toNat : Nat) : Int) = z by omega] at this
          exact this
        · unfold clsAtI
          rw [if_pos h1, h3]
          exact c
      · rw [decide_eq_false h2]
        exact iteF ⟨sz0, final (fun z => h2 z.2)⟩
    · rw [decide_eq_false h1]
      exact iteF ⟨_, rfl, iteF ⟨sz0, final (fun z => h1 z.1)⟩⟩
end
end Ps
set_option Elab.async false
set_option linter.all false
set_option maxRecDepth 100000
set_option maxHeartbeats 2000000
namespace Ps
open PySem PySem.Spec PyProof.Rows L2 Gd
section
variable {P : Program} {w : World} {K : PySem.W.Frag} {mg : Str → Option Value} {base : Heap} {CP CB CPs CPc CS CC : Addr} {f : Addr} {fd : FuncData}
abbrev s_ending_at : Stmt := topS 17
theorem sc_ending_at : FnScope ["field", "place", "behind", "one"] ["field", "place"] (defScope s_ending_at) := ⟨rfl, rfl, rfl, by decide +kernel, rfl, by decide +kernel, by decide +kernel⟩
theorem ok_ending_at (F : Fun K "ending_at" "ending_at" s_ending_at f fd) (T : Txt K mg CP CB CPs CPc CS CC) (C_bytes_of : Def P w K mg base 1 "bytes_of" ["text"] sp_bytes_of) (C_classes_at : Def P w K mg base 3 "classes_at" ["field", "place"] (sp_classes_at w K CP CB CPs CPc CS CC)) : FnOk P w K mg base CX0 4 f fd ["field", "place"] (sp_ending_at w K CP CB CPs CPc CS CC) := by
  refine F.ok sc_ending_at (fun vs H Q E h => ?_) (fun cdv A outer s H vs Q E hr h => ?_)
  · obtain ⟨_, _, _, _, rfl, _⟩ := h; rfl
  · obtain ⟨D, t, n, fv, rfl, hs, hb, hg, k⟩ := h
    refine ⟨_, (pss_cons (ps_set (i := 2) sc_ending_at.nd rfl (by first | exact Or.inl rfl | exact Or.inr rfl) (pe_callD C_classes_at (hr.mono (by decide)) (by rfl) (pa_cons (pv 0) (pa_cons (pv 1) pa_nil))))
      (pss_one (ps_ret (pe_op op_cat (pe_lst (pa_cons (pe_callD C_bytes_of (hr.mono (by decide)) (by rfl) (pa_cons (pe_const (by rfl) T.g_EMPTY) pa_nil)) pa_nil)) (pe_lc (own := [("one", 3)]) (g := gName 3) rfl sc_ending_at.nd (pi_list (pe_callD C_classes_at (hr.mono (by decide)) (by rfl) (pa_cons (pv 0) (pa_cons (pe_op op_sub (pv 1) pe_int) pa_nil)))) (blkOk_by (own := [("one", 3)]) (N := ["field", "place", "behind", "one"]) (sc := defScope s_ending_at) (by decide +kernel)) (fun _ _ _ _ _ => pg_name (i := 3) sc_ending_at.nd rfl (Or.inl rfl)) (fun _ _ _ _ _ => (pts_one (pt_cmpR (op_notInR (K := K) hr) (pv 3) (pv 2) (by rfl)))) (fun _ _ _ _ _ => (pv 3))))))), ?_⟩
    refine ⟨_, rfl, _, rfl, D, t, (n : Int), fv, rfl, hs, hb, hg, fun D1 H1 v1 g1 c1 => ?_⟩
    refine ⟨_, rfl, by decide, fun H2 p2 s2 n2 e2 => ?_⟩
    obtain ⟨D2, g2, b2⟩ := bytes_new (K := K) (t := [46]) rfl g1.s s2 n2 e2
    refine ⟨sz1, fun q hq => ?_⟩
    have g3 : Grow [] D2 H2 D2 (upd H2 q (.lst [V.ref p2])) := (Grow.refl g2.s).tmp hq
    refine ⟨_, rfl, _, rfl, _, _, rfl, rfl, D2, t, (n : Int) - 1, fv, rfl, g3.s, (hb.mono g1.d).mono g2.d, hg, fun D4 H4 v4 g4 c4 => ?_⟩
    obtain ⟨a4, xs4, rfl, e4, z4⟩ := c4
    refine ⟨a4, rfl, ⟨xs4, SqL.of (g4.s _ _ e4)⟩, fun L hL => lc_it (walk_list (xs := xs4)) (fun i H' => ∃ acc, H' = upd H4 L (.lst acc) ∧ All2 (fun v k => BT K D4 v (Vaflxa.clsText k)) acc (((clsAtI t ((n : Int) - 1)).take i).filter fun k => !((clsAtI t n).map fun k => dT (Vaflxa.clsText k)).any fun z => PyData.eqv z (dT (Vaflxa.clsText k)))) ⟨[], rfl, trivial⟩ ?_ ?_ ?_⟩
    · rintro i H' hi ⟨acc, rfl, _⟩
      exact SqL.of (by rw [upd_ne (ne_of_none (g4.s _ _ e4) hL)]; exact g4.s _ _ e4)
    · rintro i x H' H2' hi ⟨acc, rfl, hacc⟩ ⟨rfl, hx⟩
      obtain ⟨kl, hkl, bkl⟩ := z4.get hx
      have sub : Sub D4 (upd H4 L (.lst acc)) := ((Grow.refl (M := []) g4.s).tmp hL).s
      refine ⟨rfl, _, rfl, _, rfl, _, _, Dp.up sub bkl.dp, Dp.up sub ((((c1.mono g2.d).mono g3.d).mono g4.d).dp), shaped_dT _, shaped_CL _, _, rfl, ?_⟩
      cases hc : !((clsAtI t n).map fun k => dT (Vaflxa.clsText k)).any fun z => PyData.eqv z (dT (Vaflxa.clsText kl)) with
      | true =>
        refine iteT ⟨_, rfl, acc, upd_same, ?_, acc ++ [x], by rw [upd_upd], ?_⟩
        · have h1 := hacc.length
          have h2 := List.length_filter_le (fun k => !((clsAtI t n).map fun k => dT (Vaflxa.clsText k)).any fun z => PyData.eqv z (dT (Vaflxa.clsText k))) ((clsAtI t ((n : Int) - 1)).take i)
          have h3 := clsAt_le t ((n : Int) - 1)
          rw [List.length_take] at h2
          rw [h1]; exact Nat.lt_of_le_of_lt (Nat.le_trans h2 (Nat.le_trans (Nat.min_le_right _ _) h3)) (by decide)
        · rw [filter_take _ _ _ _ hkl, hc, if_pos rfl]
          exact All2.snoc (R := fun v k => BT K D4 v (Vaflxa.clsText k)) bkl hacc
      | false =>
        refine iteF ⟨acc, rfl, ?_⟩
        rw [filter_take _ _ _ _ hkl, hc, if_neg Bool.false_ne_true, List.append_nil]
        exact hacc
    · rintro H' ⟨acc, rfl, hacc⟩
      have hlen : xs4.length = (clsAtI t ((n : Int) - 1)).length := z4.length
      rw [List.take_of_length_le (by rw [hlen]; exact Nat.le_refl _)] at hacc
      have eq4 : H4 q = some (.lst [V.ref p2]) := g4.h q _ (by simp) upd_same
      have g5 : Grow [] D4 H4 D4 (upd H4 L (.lst acc)) := (Grow.refl g4.s).tmp hL
      refine ⟨q, L, _, _, rfl, rfl, by rw [upd_ne (ne_of_none eq4 hL)]; exact eq4, upd_same, ?_, fun p hp => ?_⟩
      · have h1 := hacc.length
        have h2 := List.length_filter_le (fun k => !((clsAtI t n).map fun k => dT (Vaflxa.clsText k)).any fun z => PyData.eqv z (dT (Vaflxa.clsText k))) (clsAtI t ((n : Int) - 1))
        have h3 := clsAt_le t ((n : Int) - 1)
        rw [h1]
        exact Nat.le_trans (Nat.add_le_add_left (Nat.le_trans h2 h3) 1) (by decide)
      · have g6 := Grow.fresh (M := []) (u := .lst ([V.ref p2] ++ acc)) g5.s hp
        refine k _ _ _ (((((g1.trans g2).trans g3).trans g4).trans g5).trans g6) ⟨p, _, rfl, upd_same, ?_⟩
        rw [endings_eq]
        exact ⟨(b2.mono g4.d).mono g6.d, hacc.mono fun _ _ z => z.mono g6.d⟩
abbrev s_beginning_at : Stmt := topS 18
theorem sc_beginning_at : FnScope ["field", "place", "before", "one"] ["field", "place"] (defScope s_beginning_at) := ⟨rfl, rfl, rfl, by decide +kernel, rfl, by decide +kernel, by decide +kernel⟩
theorem ok_beginning_at (F : Fun K "beginning_at" "beginning_at" s_beginning_at f fd) (T : Txt K mg CP CB CPs CPc CS CC) (C_bytes_of : Def P w K mg base 1 "bytes_of" ["text"] sp_bytes_of) (C_classes_at : Def P w K mg base 3 "classes_at" ["field", "place"] (sp_classes_at w K CP CB CPs CPc CS CC)) : FnOk P w K mg base CX0 4 f fd ["field", "place"] (sp_beginning_at w K CP CB CPs CPc CS CC) := by
  refine F.ok sc_beginning_at (fun vs H Q E h => ?_) (fun cdv A outer s H vs Q E hr h => ?_)
  · obtain ⟨_, _, _, _, rfl, _⟩ := h; rfl
  · obtain ⟨D, t, n, fv, rfl, hs, hb, hg, k⟩ := h
    refine ⟨_, (pss_cons (ps_set (i := 2) sc_beginning_at.nd rfl (by first | exact Or.inl rfl | exact Or.inr rfl) (pe_callD C_classes_at (hr.mono (by decide)) (by rfl) (pa_cons (pv 0) (pa_cons (pe_op op_sub (pv 1) pe_int) pa_nil))))
      (pss_one (ps_ret (pe_op op_cat (pe_lst (pa_cons (pe_callD C_bytes_of (hr.mono (by decide)) (by rfl) (pa_cons (pe_const (by rfl) T.g_EMPTY) pa_nil)) pa_nil)) (pe_lc (own := [("one", 3)]) (g := gName 3) rfl sc_beginning_at.nd (pi_list (pe_callD C_classes_at (hr.mono (by decide)) (by rfl) (pa_cons (pv 0) (pa_cons (pv 1) pa_nil)))) (blkOk_by (own := [("one", 3)]) (N := ["field", "place", "before", "one"]) (sc := defScope s_beginning_at) (by decide +kernel)) (fun _ _ _ _ _ => pg_name (i := 3) sc_beginning_at.nd rfl (Or.inl rfl)) (fun _ _ _ _ _ => (pts_one (pt_cmpR (op_notInR (K := K) hr) (pv 3) (pv 2) (by rfl)))) (fun _ _ _ _ _ => (pv 3))))))), ?_⟩
    refine ⟨_, rfl, _, rfl, _, _, rfl, rfl, D, t, (n : Int) - 1, fv, rfl, hs, hb, hg, fun D1 H1 v1 g1 c1 => ?_⟩
    refine ⟨_, rfl, by decide, fun H2 p2 s2 n2 e2 => ?_⟩
    obtain ⟨D2, g2, b2⟩ := bytes_new (K := K) (t := [46]) rfl g1.s s2 n2 e2
    refine ⟨sz1, fun q hq => ?_⟩
    have g3 : Grow [] D2 H2 D2 (upd H2 q (.lst [V.ref p2])) := (Grow.refl g2.s).tmp hq
    refine ⟨_, rfl, _, rfl, D2, t, (n : Int), fv, rfl, g3.s, (hb.mono g1.d).mono g2.d, hg, fun D4 H4 v4 g4 c4 => ?_⟩
    obtain ⟨a4, xs4, rfl, e4, z4⟩ := c4
    refine ⟨a4, rfl, ⟨xs4, SqL.of (g4.s _ _ e4)⟩, fun L hL => lc_it (walk_list (xs := xs4)) (fun i H' => ∃ acc, H' = upd H4 L (.lst acc) ∧ All2 (fun v k => BT K D4 v (Vaflxa.clsText k)) acc (((clsAtI t n).take i).filter fun k => !((clsAtI t ((n : Int) - 1)).map fun k => dT (Vaflxa.clsText k)).any fun z => PyData.eqv z (dT (Vaflxa.clsText k)))) ⟨[], rfl, trivial⟩ ?_ ?_ ?_⟩
    · rintro i H' hi ⟨acc, rfl, _⟩
      exact SqL.of (by rw [upd_ne (ne_of_none (g4.s _ _ e4) hL)]; exact g4.s _ _ e4)
    · rintro i x H' H2' hi ⟨acc, rfl, hacc⟩ ⟨rfl, hx⟩
      obtain ⟨kl, hkl, bkl⟩ := z4.get hx
      have sub : Sub D4 (upd H4 L (.lst acc)) := ((Grow.refl (M := []) g4.s).tmp hL).s
      refine ⟨rfl, _, rfl, _, rfl, _, _, Dp.up sub bkl.dp, Dp.up sub ((((c1.mono g2.d).mono g3.d).mono g4.d).dp), shaped_dT _, shaped_CL _, _, rfl, ?_⟩
      cases hc : !((clsAtI t ((n : Int) - 1)).map fun k => dT (Vaflxa.clsText k)).any fun z => PyData.eqv z (dT (Vaflxa.clsText kl)) with
      | true =>
        refine iteT ⟨_, rfl, acc, upd_same, ?_, acc ++ [x], by rw [upd_upd], ?_⟩
        · have h1 := hacc.length
          have h2 := List.length_filter_le (fun k => !((clsAtI t ((n : Int) - 1)).map fun k => dT (Vaflxa.clsText k)).any fun z => PyData.eqv z (dT (Vaflxa.clsText k))) ((clsAtI t n).take i)
          have h3 := clsAt_le t n
          rw [List.length_take] at h2
          rw [h1]; exact Nat.lt_of_le_of_lt (Nat.le_trans h2 (Nat.le_trans (Nat.min_le_right _ _) h3)) (by decide)
        · rw [filter_take _ _ _ _ hkl, hc, if_pos rfl]
          exact All2.snoc (R := fun v k => BT K D4 v (Vaflxa.clsText k)) bkl hacc
      | false =>
        refine iteF ⟨acc, rfl, ?_⟩
        rw [filter_take _ _ _ _ hkl, hc, if_neg Bool.false_ne_true, List.append_nil]
        exact hacc
    · rintro H' ⟨acc, rfl, hacc⟩
      have hlen : xs4.length = (clsAtI t n).length := z4.length
      rw [List.take_of_length_le (by rw [hlen]; exact Nat.le_refl _)] at hacc
      have eq4 : H4 q = some (.lst [V.ref p2]) := g4.h q _ (by simp) upd_same
      have g5 : Grow [] D4 H4 D4 (upd H4 L (.lst acc)) := (Grow.refl g4.s).tmp hL
      refine ⟨q, L, _, _, rfl, rfl, by rw [upd_ne (ne_of_none eq4 hL)]; exact eq4, upd_same, ?_, fun p hp => ?_⟩
      · have h1 := hacc.length
        have h2 := List.length_filter_le (fun k => !((clsAtI t ((n : Int) - 1)).map fun k => dT (Vaflxa.clsText k)).any fun z => PyData.eqv z (dT (Vaflxa.clsText k))) (clsAtI t n)
        have h3 := clsAt_le t n
        rw [h1]
        exact Nat.le_trans (Nat.add_le_add_left (Nat.le_trans h2 h3) 1) (by decide)
      · have g6 := Grow.fresh (M := []) (u := .lst ([V.ref p2] ++ acc)) g5.s hp
        refine k _ _ _ (((((g1.trans g2).trans g3).trans g4).trans g5).trans g6) ⟨p, _, rfl, upd_same, ?_⟩
        rw [beginnings_eq]
        exact ⟨(b2.mono g4.d).mono g6.d, hacc.mono fun _ _ z => z.mono g6.d⟩
end
end Ps
set_option Elab.async false
set_option linter.all false
set_option maxRecDepth 100000
set_option maxHeartbeats 2000000
namespace Ps
open PySem PySem.Spec PyProof.Rows L2 Gd
section
variable {P : Program} {w : World} {K : PySem.W.Frag} {mg : Str → Option Value} {base : Heap} {CP CB CPs CPc CS CC : Addr} {f : Addr} {fd : FuncData}
def prs1 (t : Tx) (p : Nat) (l : Kl) : List (Kl × Kl) := ((Vaflxb.beginnings t p).filter fun r => !(Vaflxa.isEmptyClass l && Vaflxa.isEmptyClass r)).map fun r => (l, r)
abbrev s_class_pairs : Stmt := topS 19
theorem sc_class_pairs : FnScope ["field", "place", "empty", "found", "one", "other"] ["field", "place"] (defScope s_class_pairs) := ⟨rfl, rfl, rfl, by decide +kernel, rfl, by decide +kernel, by decide +kernel⟩
theorem ok_class_pairs (F : Fun K "class_pairs" "class_pairs" s_class_pairs f fd) (T : Txt K mg CP CB CPs CPc CS CC) (C_beginning_at : Def P w K mg base 4 "beginning_at" ["field", "place"] (sp_beginning_at w K CP CB CPs CPc CS CC)) (C_bytes_of : Def P w K mg base 1 "bytes_of" ["text"] sp_bytes_of) (C_ending_at : Def P w K mg base 4 "ending_at" ["field", "place"] (sp_ending_at w K CP CB CPs CPc CS CC)) : FnOk P w K mg base CX0 5 f fd ["field", "place"] (sp_class_pairs w K CP CB CPs CPc CS CC) := by
  refine F.ok sc_class_pairs (fun vs H Q E h => ?_) (fun cdv A outer s H vs Q E hr h => ?_)
  · obtain ⟨_, _, _, _, rfl, _⟩ := h; rfl
  · obtain ⟨D, t, n, fv, rfl, hs, hb, hg, k⟩ := h
    refine ⟨_, (pss_cons (ps_set (i := 2) sc_class_pairs.nd rfl (by first | exact Or.inl rfl | exact Or.inr rfl) (pe_callD C_bytes_of (hr.mono (by decide)) (by rfl) (pa_cons (pe_const (by rfl) T.g_EMPTY) pa_nil)))
      (pss_cons (ps_set (i := 3) sc_class_pairs.nd rfl (by first | exact Or.inl rfl | exact Or.inr rfl) (pe_lst pa_nil))
      (pss_cons (ps_for PassesOwn.never rfl (pi_list (pe_callD C_ending_at (hr.mono (by decide)) (by rfl) (pa_cons (pv 0) (pa_cons (pv 1) pa_nil)))) (pg_name (i := 4) sc_class_pairs.nd rfl (by first | exact Or.inl rfl | exact Or.inr rfl)) (pss_one (ps_expr (pe_bm PySem.F.plainAttrs_list PySem.F.slot_list_extend PySem.F.type_list_extend mt_extend (pv 3) (pa_cons (pe_lc (own := [("other", 5)]) (g := gName 5) rfl sc_class_pairs.nd (pi_list (pe_callD C_beginning_at (hr.mono (by decide)) (by rfl) (pa_cons (pv 0) (pa_cons (pv 1) pa_nil)))) (blkOk_by (own := [("other", 5)]) (N := ["field", "place", "empty", "found", "one", "other"]) (sc := defScope s_class_pairs) (by decide +kernel)) (fun _ _ _ _ _ => pg_name (i := 5) sc_class_pairs.nd rfl (Or.inl rfl)) (fun _ _ _ _ _ => (pts_one (PW.pt (pw_or (pt_cmpR (op_neR (K := K) hr) (pv 4) (pv 2) (nomark _)) (pw_or1 (pt_cmpR (op_neR (K := K) hr) (pv 5) (pv 2) (nomark _))))))) (fun _ _ _ _ _ => (pe_tup (pa_cons (pv 4) (pa_cons (pv 5) pa_nil))))) pa_nil)))))
      (pss_one (ps_ret (pv 3)))))), ?_⟩
    refine ⟨_, rfl, by decide, fun H1 p1 s1 n1 e1 => ?_⟩
    obtain ⟨D1, g1, b1⟩ := bytes_new (K := K) (t := [46]) rfl hs s1 n1 e1
    refine ⟨sz0, fun p hp => ?_⟩
    have g2 : Grow [] D1 H1 D1 (upd H1 p (.lst [])) := (Grow.refl g1.s).tmp hp
    refine ⟨_, rfl, _, rfl, D1, t, n, fv, rfl, g2.s, hb.mono g1.d, hg, fun D3 H3 v3 g3 c3 => ?_⟩
    obtain ⟨a3, xs3, rfl, e3, z3⟩ := c3
    have gp : Grow [] D H D3 H3 := (g1.trans g2).trans g3
    have hpn : H p = none := g1.newOf hp
    have hp3 : H3 p = some (.lst []) := g3.h p _ (by simp) upd_same
    have hd3 : D3 p = none := g3.keep (by rw [upd_same]; exact Option.some_ne_none _) (g1.s.none hp)
    refine ⟨a3, rfl, ⟨xs3, SqL.of (g3.s _ _ e3)⟩, for_it (walk_list (xs := xs3)) (fun i σ H' => ∃ x4 x5 D' acc, σ = [some fv, some (.int n), some (.ref p1), some (.ref p), x4, x5] ∧ Grow [p] D3 H3 D' H' ∧ H' p = some (.lst acc) ∧ acc.length ≤ 8 * i ∧ All2 (fun v k => PrV K D' v k.1 k.2) acc (((Vaflxb.endings t n).take i).flatMap (prs1 t n))) ?_ ?_ ?_ ?_⟩
    · exact ⟨_, _, D3, [], rfl, Grow.refl gp.s, hp3, Nat.zero_le _, trivial⟩
    · rintro i σ H' hi ⟨x4, x5, D', acc, rfl, g, _⟩
      exact SqL.of (g.s _ _ (g.d _ _ e3))
    · rintro i x σ H0 H' hi ⟨x4, x5, D', acc, rfl, g, hacc, hlen, z⟩ ⟨rfl, hx⟩
      obtain ⟨kl, hkl, bkl⟩ := z3.get hx
      refine ⟨_, rfl, .inl ⟨rfl, acc, SqL.of hacc⟩, _, rfl, _, rfl, D', t, n, fv, rfl, g.s, (hb.mono gp.d).mono g.d, hg, fun D4 H4 v4 g4 c4 => ?_⟩
      obtain ⟨a4, xs4, rfl, e4, z4⟩ := c4
      have b1' : BT K D4 (.ref p1) [46] := ((b1.mono (g2.d.trans g3.d)).mono g.d).mono g4.d
      have bkl' : BT K D4 x (Vaflxa.clsText kl) := (bkl.mono g.d).mono g4.d
      refine ⟨a4, rfl, ⟨xs4, SqL.of (g4.s _ _ e4)⟩, fun L hL => lc_it (walk_list (xs := xs4)) (fun j H' => ∃ D' acc, Own D4 H4 D' H' L (.lst acc) ∧ acc.length ≤ j ∧ All2 (fun v k => PrV K D' v k.1 k.2) acc ((((Vaflxb.beginnings t n).take j).filter fun r => !(Vaflxa.isEmptyClass kl && Vaflxa.isEmptyClass r)).map fun r => (kl, r))) ?_ ?_ ?_ ?_⟩
      · exact ⟨D4, [], Own.mk' (Grow.refl g4.s) hL, Nat.le_refl _, trivial⟩
      · rintro j H5 hj ⟨D5, acc5, o5, _⟩
        exact SqL.of (o5.g.s _ _ (o5.g.d _ _ e4))
      · rintro j y H0' H5 hj ⟨D5, acc5, o5, l5, z5⟩ ⟨rfl, hy⟩
        obtain ⟨kr, hkr, bkr⟩ := z4.get hy
        have hj8 : j < 8 := by
          have h1 := z4.length
          have h2 := begs_le t n
          omega
        refine ⟨rfl, _, rfl, _, rfl, _, _, Dp.up o5.g.s (bkl'.mono o5.g.d).dp, Dp.up o5.g.s (b1'.mono o5.g.d).dp, shaped_dT _, shaped_dT _, _, rfl, ?_⟩
        rw [isE_dot]
        have fin : (Vaflxa.isEmptyClass kl && Vaflxa.isEmptyClass kr) = false → ∀ q, H5 q = none → ∃ acc, upd H5 q (.tup [x, y]) L = some (.lst acc) ∧ acc.length < sizeLine ∧ ∃ D' acc', Own D4 H4 D' (upd (upd H5 q (.tup [x, y])) L (.lst (acc ++ [.ref q]))) L (.lst acc') ∧ acc'.length ≤ j + 1 ∧
            All2 (fun v k => PrV K D' v k.1 k.2) acc' ((((Vaflxb.beginnings t n).take (j + 1)).filter fun r => !(Vaflxa.isEmptyClass kl && Vaflxa.isEmptyClass r)).map fun r => (kl, r)) := by
          intro hc q hq
          have o6 := o5.new (v := .tup [x, y]) hq
          have s6 : Sub D5 (upd D5 q (.tup [x, y])) := (Grow.fresh (M := []) o5.g.s hq).d
          refine ⟨acc5, o6.at_, small_lt (by omega), _, acc5 ++ [.ref q], o6.set, by rw [List.length_append]; simp; omega, ?_⟩
          rw [filter_take _ _ _ _ hkr, hc, Bool.not_false, if_pos rfl, List.map_append]
          refine (z5.mono fun _ _ z => PrV.mono s6 z).app ⟨⟨q, x, y, rfl, SqT.of upd_same, (bkl'.mono o5.g.d).mono s6, ((bkr.mono o5.g.d).mono s6)⟩, trivial⟩
        cases hc : Vaflxa.isEmptyClass kl with
        | false =>
          rw [hc] at fin
          refine iteT (iteT ⟨_, rfl, _, rfl, sz2, fun q hq => ?_⟩)
          exact fin rfl q hq
        | true =>
          refine iteF ⟨_, rfl, _, rfl, _, _, Dp.up o5.g.s (bkr.mono o5.g.d).dp, Dp.up o5.g.s (b1'.mono o5.g.d).dp, shaped_dT _, shaped_dT _, _, rfl, ?_⟩
          rw [isE_dot]
          rw [hc] at fin
          cases hc' : Vaflxa.isEmptyClass kr with
          | false =>
            rw [hc'] at fin
            exact iteT ⟨_, rfl, _, rfl, sz2, fun q hq => fin rfl q hq⟩
          | true =>
            refine iteF ⟨D5, acc5, o5, by omega, ?_⟩
            rw [hc] at z5
            rw [filter_take _ _ _ _ hkr, hc', Bool.and_self, Bool.not_true, if_neg Bool.false_ne_true, List.append_nil]
            exact z5
      · rintro H5 ⟨D5, acc5, o5, l5, z5⟩
        have l4 := z4.length
        have l4' := begs_le t n
        rw [List.take_of_length_le (by omega)] at z5
        have hp4 : H4 p = some (.lst acc) := g4.h p _ (by simp) hacc
        have g5 : Grow [] D' H' D5 H5 := g4.trans o5.g
        have hp5 : H5 p = some (.lst acc) := o5.g.h p _ (by simp) hp4
        have hi8 : i < 8 := by
          have h1 := z3.length
          have h2 := ends_le t n
          omega
        refine ⟨p, L, acc, acc5, rfl, rfl, hp5, o5.at_, small_le (by omega), ?_⟩
        have g6 : Grow [p] D3 H3 D5 H5 := g.trans g5.anyM
        have hd6 : D5 p = none := (g6.n p (by rw [hp3]; exact Option.some_ne_none _)).trans hd3
        refine ⟨_, _, D5, acc ++ acc5, rfl, g6.write (.inr (List.mem_singleton.mpr rfl)) hd6, upd_same, by rw [List.length_append]; omega, ?_⟩
        rw [flatMap_take _ _ _ _ hkl]
        exact (z.mono fun _ _ q => PrV.mono g5.d q).app z5
    · rintro σ H' ⟨x4, x5, D', acc, rfl, g, hacc, hlen, z⟩
      refine ⟨_, rfl, ?_⟩
      rw [List.take_of_length_le (by have h1 := z3.length; omega)] at z
      have G := gp.own g hpn
      exact k _ _ _ (G.all hs) ⟨p, acc, rfl, by rw [Fz.new hpn]; exact hacc, z.mono fun _ _ q => PrV.mono G.sub q⟩
end
end Ps
set_option Elab.async false
set_option linter.all false
set_option maxRecDepth 100000
set_option maxHeartbeats 2000000
/-! Plain laws: borders, by the pairs of classes at each place. -/
namespace Ps
open PySem PySem.Spec PyProof.Rows L2 Gd
def wfC : Kl → Prop
  | .sign c => Vaflxa.isSign c = true
  | _ => True
theorem wf_mem {k : Kl} {c : UInt8} (h : k ∈ Vaflxb.classesOf c) : wfC k := by
  unfold Vaflxb.classesOf at h
  rw [List.mem_append, List.mem_filter] at h
  rcases h with ⟨h, _⟩ | h
  · simp at h
    rcases h with rfl | rfl | rfl | rfl | rfl | rfl <;> trivial
  · by_cases z : Vaflxa.isSign c = true
    · rw [if_pos z] at h; simp at h; subst h; exact z
    · rw [if_neg z] at h; exact nomatch h
theorem mem_wf {k : Kl} {c : UInt8} (hw : wfC k) (h : Vaflxa.inClass k c = true) : k ∈ Vaflxb.classesOf c := by
  unfold Vaflxb.classesOf
  rw [List.mem_append, List.mem_filter]
  cases k with
  | empty => simp [Vaflxa.inClass] at h
  | sign d =>
    simp [Vaflxa.inClass] at h
    subst h
    right
    rw [if_pos (show Vaflxa.isSign c = true from hw)]; simp
  | _ => left; exact ⟨by simp, h⟩
theorem mem_endings {t : Tx} {p : Nat} {l : Kl} (hw : wfC l) : l ∈ Vaflxb.endings t p ↔ Vaflxa.ends l t p = true := by
  unfold Vaflxb.endings
  rw [List.mem_cons]
  constructor
  · rintro (rfl | h)
    · rfl
    · by_cases hp : p = 0
      · rw [if_pos hp] at h; exact nomatch h
      · rw [if_neg hp, List.mem_filter] at h; exact h.2
  · intro h
    cases he : Vaflxa.isEmptyClass l with
    | true => left; cases l <;> first | rfl | (simp [Vaflxa.isEmptyClass] at he)
    | false =>
      right
      have h' := h
      unfold Vaflxa.ends at h'
      rw [he, Bool.false_or, Bool.and_eq_true] at h'
      have hb := h'.1
      unfold Vaflxa.beforeIn at hb
      rw [Bool.and_eq_true, decide_eq_true_eq] at hb
      rw [if_neg (by omega), List.mem_filter]
      refine ⟨?_, h⟩
      have hb2 := hb.2
      unfold Vaflxa.byteIn at hb2
      cases e : t[p - 1]? with
      | none => rw [e] at hb2; exact absurd hb2 Bool.false_ne_true
      | some c => rw [e] at hb2; exact mem_wf hw hb2
theorem mem_beginnings {t : Tx} {p : Nat} {l : Kl} (hw : wfC l) : l ∈ Vaflxb.beginnings t p ↔ Vaflxa.begins l t p = true := by
  unfold Vaflxb.beginnings
  rw [List.mem_cons]
  constructor
  · rintro (rfl | h)
    · rfl
    · rw [List.mem_filter] at h; exact h.2
  · intro h
    cases he : Vaflxa.isEmptyClass l with
    | true => left; cases l <;> first | rfl | (simp [Vaflxa.isEmptyClass] at he)
    | false =>
      right
      have h' := h
      unfold Vaflxa.begins at h'
      rw [he, Bool.false_or, Bool.and_eq_true] at h'
      have hb2 := h'.1
      rw [List.mem_filter]
      refine ⟨?_, h⟩
      unfold Vaflxa.byteIn at hb2
      cases e : t[p]? with
      | none => rw [e] at hb2; exact absurd hb2 Bool.false_ne_true
      | some c => rw [e] at hb2; exact mem_wf hw hb2
theorem wf_endings {t : Tx} {p : Nat} {l : Kl} (h : l ∈ Vaflxb.endings t p) : wfC l := by
  unfold Vaflxb.endings at h
  rw [List.mem_cons] at h
  rcases h with rfl | h
  · trivial
  · by_cases hp : p = 0
    · rw [if_pos hp] at h; exact nomatch h
    · rw [if_neg hp, List.mem_filter] at h
      cases e : t[p - 1]? with
      | none => rw [e] at h; exact nomatch h.1
      | some c => rw [e] at h; exact wf_mem h.1
theorem wf_beginnings {t : Tx} {p : Nat} {l : Kl} (h : l ∈ Vaflxb.beginnings t p) : wfC l := by
  unfold Vaflxb.beginnings at h
  rw [List.mem_cons] at h
  rcases h with rfl | h
  · trivial
  · rw [List.mem_filter] at h
    cases e : t[p]? with
    | none => rw [e] at h; exact nomatch h.1
    | some c => rw [e] at h; exact wf_mem h.1
theorem mem_prs {t : Tx} {p : Nat} {l r : Kl} : (l, r) ∈ prs t p ↔ l ∈ Vaflxb.endings t p ∧ r ∈ Vaflxb.beginnings t p ∧ (Vaflxa.isEmptyClass l && Vaflxa.isEmptyClass r) = false := by
  unfold prs
  rw [List.mem_flatMap]
  constructor
  · rintro ⟨l', h1, h2⟩
    rw [List.mem_map] at h2
    obtain ⟨r', h3, h4⟩ := h2
    cases h4
    rw [List.mem_filter] at h3
    refine ⟨h1, h3.1, ?_⟩
    have := h3.2
    cases z : (Vaflxa.isEmptyClass l && Vaflxa.isEmptyClass r) with
    | false => rfl
    | true => rw [z] at this; exact absurd this Bool.false_ne_true
  · rintro ⟨h1, h2, h3⟩
    refine ⟨l, h1, List.mem_map.mpr ⟨r, List.mem_filter.mpr ⟨h2, ?_⟩, rfl⟩⟩
    rw [h3]; rfl
theorem nodup_filter {α : Type} (p : α → Bool) {xs : List α} (h : xs.Nodup) : (xs.filter p).Nodup := List.Pairwise.filter p h
theorem nodup_classes (c : UInt8) : (Vaflxb.classesOf c).Nodup := by
  unfold Vaflxb.classesOf
  rw [List.nodup_append]
  refine ⟨nodup_filter _ (by simp), ?_, ?_⟩
  · split <;> simp
  · intro a ha b hb
    rw [List.mem_filter] at ha
    have ha := ha.1
    split at hb
    · simp at hb; subst hb
      rintro rfl
      simp at ha
    · exact nomatch hb
theorem nodup_endings (t : Tx) (p : Nat) : (Vaflxb.endings t p).Nodup := by
  unfold Vaflxb.endings
  rw [List.nodup_cons]
  have key : ∀ (o : Option UInt8), ((o.map Vaflxb.classesOf).getD []).Nodup ∧ ∀ k ∈ ((o.map Vaflxb.classesOf).getD []), Vaflxa.isEmptyClass k = false := by
    intro o
    cases o with
    | none => exact ⟨List.nodup_nil, fun _ h => nomatch h⟩
    | some c => exact ⟨nodup_classes c, fun k h => (mem_classes h).2.1⟩
  by_cases hp : p = 0
  · rw [if_pos hp]; exact ⟨fun h => (nomatch h), List.nodup_nil⟩
  · rw [if_neg hp]
    refine ⟨fun h => ?_, nodup_filter _ (key _).1⟩
    rw [List.mem_filter] at h
    exact absurd ((key _).2 _ h.1) (by simp [Vaflxa.isEmptyClass])
theorem nodup_beginnings (t : Tx) (p : Nat) : (Vaflxb.beginnings t p).Nodup := by
  unfold Vaflxb.beginnings
  rw [List.nodup_cons]
  have key : ∀ (o : Option UInt8), ((o.map Vaflxb.classesOf).getD []).Nodup ∧ ∀ k ∈ ((o.map Vaflxb.classesOf).getD []), Vaflxa.isEmptyClass k = false := by
    intro o
    cases o with
    | none => exact ⟨List.nodup_nil, fun _ h => nomatch h⟩
    | some c => exact ⟨nodup_classes c, fun k h => (mem_classes h).2.1⟩
  refine ⟨fun h => ?_, nodup_filter _ (key _).1⟩
  rw [List.mem_filter] at h
  exact absurd ((key _).2 _ h.1) (by simp [Vaflxa.isEmptyClass])
theorem nodup_map {α β : Type} {f : α → β} (hf : ∀ a b, f a = f b → a = b) {xs : List α} (h : xs.Nodup) : (xs.map f).Nodup := by
  unfold List.Nodup at *
  rw [List.pairwise_map]
  exact h.imp fun {a b} h e => h (hf a b e)
theorem nodup_flatMap {α β : Type} {f : α → List β} {xs : List α} (h : xs.Nodup) (h1 : ∀ a ∈ xs, (f a).Nodup) (h2 : ∀ a ∈ xs, ∀ b ∈ xs, a ≠ b → ∀ x ∈ f a, x ∉ f b) : (xs.flatMap f).Nodup := by
  induction xs with
  | nil => exact List.nodup_nil
  | cons a xs ih =>
    rw [List.nodup_cons] at h
    rw [List.flatMap_cons, List.nodup_append]
    refine ⟨h1 a (by simp), ih h.2 (fun b hb => h1 b (by simp [hb])) (fun b hb c hc => h2 b (by simp [hb]) c (by simp [hc])), ?_⟩
    intro x hx y hy e
    subst e
    rw [List.mem_flatMap] at hy
    obtain ⟨b, hb, hxb⟩ := hy
    exact h2 a (by simp) b (by simp [hb]) (fun e => h.1 (e ▸ hb)) x hx hxb
theorem nodup_prs (t : Tx) (p : Nat) : (prs t p).Nodup := by
  unfold prs
  refine nodup_flatMap (nodup_endings t p) (fun l _ => nodup_map (fun a b h => by cases h; rfl) (nodup_filter _ (nodup_beginnings t p))) ?_
  intro a _ b _ hab x hx hy
  rw [List.mem_map] at hx hy
  obtain ⟨_, _, rfl⟩ := hx
  obtain ⟨_, _, h⟩ := hy
  cases h
  exact hab rfl
/-- the places at which a key is met -/
def hit (evs : List (NestedKey × Nat)) (k : NestedKey) : List Nat := (evs.filter fun e => decide (e.1 = k)).map (·.2)
theorem hit_snoc (evs : List (NestedKey × Nat)) (k k' : NestedKey) (n : Nat) : hit (evs ++ [(k, n)]) k' = if k = k' then hit evs k' ++ [n] else hit evs k' := by
  unfold hit
  rw [List.filter_append, List.map_append]
  by_cases h : k = k'
  · subst h; simp [List.filter_cons]
  · rw [if_neg h]; simp [List.filter_cons, h]
def evAt (t : Tx) (p : Nat) : List (NestedKey × Nat) := (prs t p).map fun k => (kP k.1 k.2, p)
def evsTo (t : Tx) (i : Nat) : List (NestedKey × Nat) := (List.range i).flatMap (evAt t)
theorem evsTo_succ (t : Tx) (i : Nat) : evsTo t (i + 1) = evsTo t i ++ evAt t i := by
  unfold evsTo
  rw [List.range_succ, List.flatMap_append]
  simp
theorem filter_one {α : Type} (q : α → Bool) (a : α) (hq : ∀ x, q x = true ↔ x = a) : ∀ {xs : List α}, xs.Nodup → (a ∈ xs → xs.filter q = [a]) ∧ (a ∉ xs → xs.filter q = [])
  | [], _ => ⟨fun h => (nomatch h), fun _ => rfl⟩
  | x :: xs, h => by
    rw [List.nodup_cons] at h
    obtain ⟨h1, h2⟩ := filter_one q a hq h.2
    by_cases e : x = a
    · subst e
      refine ⟨fun _ => ?_, fun z => absurd (List.mem_cons_self) z⟩
      rw [List.filter_cons, if_pos ((hq x).mpr rfl), h2 h.1]
    · have hx : q x = false := by
        cases hqx : q x with
        | false => rfl
        | true => exact absurd ((hq x).mp hqx) e
      rw [List.filter_cons, if_neg (by rw [hx]; exact Bool.false_ne_true)]
      refine ⟨fun z => h1 ?_, fun z => h2 fun y => z (List.mem_cons_of_mem _ y)⟩
      rcases List.mem_cons.mp z with rfl | z
      · exact absurd rfl e
      · exact z
theorem hit_at (t : Tx) (p : Nat) (l r : Kl) (hl : wfC l) (hr : wfC r) (hne : (Vaflxa.isEmptyClass l && Vaflxa.isEmptyClass r) = false) : hit (evAt t p) (kP l r) = if (Vaflxa.ends l t p && Vaflxa.begins r t p) = true then [p] else [] := by
  unfold hit evAt
  rw [List.filter_map, List.map_map]
  have e := filter_one (fun k : Kl × Kl => decide (kP k.1 k.2 = kP l r)) (l, r) (fun x => by
    rw [decide_eq_true_eq]
    constructor
    · intro h; obtain ⟨h1, h2⟩ := kP_inj h; exact Prod.ext h1 h2
    · rintro rfl; rfl) (nodup_prs t p)
  have e2 : ((fun e : NestedKey × Nat => decide (e.1 = kP l r)) ∘ fun k : Kl × Kl => (kP k.1 k.2, p)) = fun k : Kl × Kl => decide (kP k.1 k.2 = kP l r) := rfl
  rw [e2]
  by_cases hm : (Vaflxa.ends l t p && Vaflxa.begins r t p) = true
  · rw [if_pos hm]
    rw [Bool.and_eq_true] at hm
    rw [e.1 (mem_prs.mpr ⟨(mem_endings hl).mpr hm.1, (mem_beginnings hr).mpr hm.2, hne⟩)]
    rfl
  · rw [if_neg hm, e.2 fun z => hm ?_]
    · rfl
    · obtain ⟨z1, z2, _⟩ := mem_prs.mp z
      rw [(mem_endings hl).mp z1, (mem_beginnings hr).mp z2]; rfl
theorem hit_append (a b : List (NestedKey × Nat)) (k : NestedKey) : hit (a ++ b) k = hit a k ++ hit b k := by
  unfold hit; rw [List.filter_append, List.map_append]
theorem hit_to (t : Tx) (l r : Kl) (hl : wfC l) (hr : wfC r) (hne : (Vaflxa.isEmptyClass l && Vaflxa.isEmptyClass r) = false) : ∀ i, hit (evsTo t i) (kP l r) = (List.range i).filter fun p => Vaflxa.ends l t p && Vaflxa.begins r t p
  | 0 => rfl
  | i + 1 => by
    rw [evsTo_succ, hit_append, hit_to t l r hl hr hne i, hit_at t i l r hl hr hne, List.range_succ, List.filter_append]
    congr 1
    simp only [List.filter_cons, List.filter_nil]
theorem hit_all (t : Tx) (l r : Kl) (hl : wfC l) (hr : wfC r) (hne : (Vaflxa.isEmptyClass l && Vaflxa.isEmptyClass r) = false) : hit (evsTo t (t.length + 1)) (kP l r) = Vaflxa.borders l r t := hit_to t l r hl hr hne _
theorem prs_le (t : Tx) (p : Nat) : (prs t p).length ≤ 64 := by
  unfold prs
  have : ∀ xs : List Kl, (xs.flatMap fun l => ((Vaflxb.beginnings t p).filter fun r => !(Vaflxa.isEmptyClass l && Vaflxa.isEmptyClass r)).map fun r => (l, r)).length ≤ 8 * xs.length := by
    intro xs
    induction xs with
    | nil => simp
    | cons x xs ih =>
      rw [List.flatMap_cons, List.length_append, List.length_map, List.length_cons]
      have h1 := List.length_filter_le (fun r => !(Vaflxa.isEmptyClass x && Vaflxa.isEmptyClass r)) (Vaflxb.beginnings t p)
      have h2 := begs_le t p
      omega
  have h1 := this (Vaflxb.endings t p)
  have h2 := ends_le t p
  exact Nat.le_trans h1 (by omega)
theorem evsTo_le (t : Tx) (i : Nat) : (evsTo t i).length ≤ 64 * i := by
  induction i with
  | zero => simp [evsTo]
  | succ i ih =>
    rw [evsTo_succ, List.length_append]
    have := prs_le t i
    unfold evAt
    rw [List.length_map]; omega
/-! ### dicts as lists of entries -/
theorem getE_put (xs : List Ent) (k k' : NestedKey) (kv v : V) : getE (putE xs k kv v) k' = if k = k' then some v else getE xs k' := by
  unfold putE
  by_cases hs : (getE xs k).isSome = true
  · rw [if_pos hs]
    unfold getE at hs ⊢
    clear kv
    induction xs with
    | nil => simp at hs
    | cons x xs ih =>
      rw [List.map_cons, List.find?_cons, List.find?_cons]
      rw [List.find?_cons] at hs
      have hx : (setV k v x).1 = x.1 := by unfold setV; split <;> rfl
      rw [hx]
      by_cases h1 : x.1 = k'
      · rw [decide_eq_true h1]
        by_cases h2 : k = k'
        · rw [if_pos h2]
          unfold setV
          rw [if_pos (h1.trans h2.symm)]; rfl
        · rw [if_neg h2]
          unfold setV
          rw [if_neg (fun z => h2 (z.symm.trans h1))]
      · rw [decide_eq_false h1]
        by_cases h2 : k = k'
        · have h3 : ¬ x.1 = k := fun z => h1 (z.trans h2)
          rw [decide_eq_false h3] at hs
          exact ih hs
        · by_cases h3 : x.1 = k
          · rw [if_neg h2]
            show Option.map _ (List.find? _ _) = Option.map _ (List.find? _ _)
            clear ih hs
            induction xs with
            | nil => rfl
            | cons y ys ih =>
              rw [List.map_cons, List.find?_cons, List.find?_cons]
              have hy : (setV k v y).1 = y.1 := by unfold setV; split <;> rfl
              rw [hy]
              by_cases h4 : y.1 = k'
              · rw [decide_eq_true h4]
                unfold setV
                rw [if_neg (fun z => h2 (z.symm.trans h4))]
              · rw [decide_eq_false h4]; exact ih
          · rw [decide_eq_false h3] at hs
            exact ih hs
  · rw [if_neg hs]
    have hn : getE xs k = none := by
      cases q : getE xs k with
      | none => rfl
      | some _ => rw [q] at hs; exact absurd rfl hs
    unfold getE at hn ⊢
    rw [List.find?_append]
    cases q : xs.find? fun x => decide (x.1 = k') with
    | none =>
      simp only [Option.none_or, List.find?_cons, List.find?_nil]
      by_cases h : k = k'
      · rw [if_pos h, decide_eq_true h]; rfl
      · rw [if_neg h, decide_eq_false h]
    | some e =>
      have h : ¬ k = k' := by
        rintro rfl
        rw [q] at hn
        exact nomatch hn
      rw [if_neg h]; rfl
theorem gkeys_put {K : PySem.W.Frag} {H : Hp} {xs : List Ent} {k : NestedKey} {kv v : V} (h : GKeys K H xs) (q : KeyOf K H k kv) : GKeys K H (putE xs k kv v) := by
  unfold putE
  split
  · intro e he
    rw [List.mem_map] at he
    obtain ⟨x, hx, rfl⟩ := he
    have := h x hx
    unfold setV
    split
    · exact this
    · exact this
  · intro e he
    rw [List.mem_append] at he
    rcases he with he | he
    · exact h e he
    · simp at he; subst he; exact q
end Ps
set_option Elab.async false
set_option linter.all false
set_option maxRecDepth 100000
set_option maxHeartbeats 2000000
namespace Ps
open PySem PySem.Spec PyProof.Rows L2 Gd
abbrev nv (n : Nat) : V := .int (n : Nat)
abbrev nvs (l : List Nat) : List V := l.map nv
/-- the borders in a text, by the pairs of classes -/
def BDict (K : PySem.W.Frag) (w : World) (D : Hp) (v : V) (t : Tx) : Prop := ∃ d xs ep, v = .ref d ∧ D d = some (GD w d xs ep) ∧ GKeys K D xs ∧
  ∀ l r, wfC l → wfC r → (Vaflxa.isEmptyClass l && Vaflxa.isEmptyClass r) = false → (Vaflxa.borders l r t = [] ∧ getE xs (kP l r) = none) ∨ ∃ a, getE xs (kP l r) = some (.ref a) ∧ D a = some (.lst (nvs (Vaflxa.borders l r t)))
theorem BDict.mono {K : PySem.W.Frag} {w : World} {D D' : Hp} {v : V} {t : Tx} (h : Sub D D') (q : BDict K w D v t) : BDict K w D' v t := by
  obtain ⟨d, xs, ep, e, e1, g, z⟩ := q
  refine ⟨d, xs, ep, e, h _ _ e1, GKeys.up h g, fun l r hl hr hn => ?_⟩
  rcases z l r hl hr hn with z | ⟨a, z1, z2⟩
  · exact .inl z
  · exact .inr ⟨a, z1, h _ _ z2⟩
/-- the dict and its lists under way -/
structure BW (K : PySem.W.Frag) (w : World) (D1 H1 : Hp) (p : Addr) (evs : List (NestedKey × Nat)) (D' H' : Hp) (xs : List Ent) (ep : Nat) : Prop where
  g : Grow [p] D1 H1 D' H'
  at_ : H' p = some (GD w p xs ep)
  keys : GKeys K D' xs
  len : xs.length ≤ evs.length
  got : ∀ k, (hit evs k = [] ∧ getE xs k = none) ∨ ∃ a, getE xs k = some (.ref a) ∧ a ≠ p ∧ H1 a = none ∧ D' a = none ∧ H' a = some (.lst (nvs (hit evs k)))
  inj : ∀ k k' a, getE xs k = some (.ref a) → getE xs k' = some (.ref a) → k = k'
section
variable {P : Program} {w : World} {K : PySem.W.Frag} {mg : Str → Option Value} {base : Heap} {CP CB CPs CPc CS CC : Addr} {f : Addr} {fd : FuncData}
variable {D1 H1 D' H' D2 H2 : Hp} {p q : Addr} {evs : List (NestedKey × Nat)} {xs : List Ent} {ep : Nat}
theorem BW.call (b : BW K w D1 H1 p evs D' H' xs ep) (g : Grow [] D' H' D2 H2) : BW K w D1 H1 p evs D2 H2 xs ep := by
  refine ⟨b.g.trans g.anyM, g.h p _ (by simp) b.at_, GKeys.up g.d b.keys, b.len, fun k => ?_, b.inj⟩
  rcases b.got k with z | ⟨a, z1, z2, z3, z4, z5⟩
  · exact .inl z
  · exact .inr ⟨a, z1, z2, z3, g.keep (ne_none z5) z4, g.h a _ (by simp) z5⟩
theorem BW.add (b : BW K w D1 H1 p evs D' H' xs ep) {k : NestedKey} {a : Addr} {n : Nat} (h : getE xs k = some (.ref a)) (hn : (H1 p ≠ none)) (ha : H' a = some (.lst (nvs (hit evs k)))) :
    BW K w D1 H1 p (evs ++ [(k, n)]) D' (upd H' a (.lst (nvs (hit evs k) ++ [nv n]))) xs ep := by
  have key : a ≠ p ∧ H1 a = none ∧ D' a = none := by
    rcases b.got k with ⟨_, z⟩ | ⟨a', z1, z2, z3, z4, z5⟩
    · rw [h] at z; cases z
    · rw [h] at z1; cases z1; exact ⟨z2, z3, z4⟩
  obtain ⟨k1, k2, k3⟩ := key
  refine ⟨b.g.write (.inl k2) k3, by rw [upd_ne (Ne.symm k1)]; exact b.at_, b.keys, by rw [List.length_append]; have := b.len; omega, fun k' => ?_, b.inj⟩
  rcases b.got k' with ⟨z1, z2⟩ | ⟨a', z1, z2, z3, z4, z5⟩
  · have ne : ¬ k = k' := fun e => by rw [← e, h] at z2; cases z2
    left
    rw [hit_snoc, if_neg ne]
    exact ⟨z1, z2⟩
  · right
    refine ⟨a', z1, z2, z3, z4, ?_⟩
    rw [hit_snoc]
    by_cases e : k = k'
    · subst e
      rw [h] at z1; cases z1
      rw [if_pos rfl, upd_same]
      unfold nvs
      rw [List.map_append]; rfl
    · rw [if_neg e, upd_ne fun e' => e (b.inj _ _ a h (by rw [← e']; exact z1))]
      exact z5
theorem BW.new (b : BW K w D1 H1 p evs D' H' xs ep) {k : NestedKey} {kv : V} {n : Nat} {ep' : Nat} (h : getE xs k = none) (hk : KeyOf K D' k kv) (hp1 : H1 p ≠ none) (hd : D' p = none) (hq : H' q = none) :
    BW K w D1 H1 p (evs ++ [(k, n)]) D' (upd (upd (upd H' q (.lst [])) p (GD w p (putE xs k kv (.ref q)) ep')) q (.lst ([] ++ [nv n]))) (putE xs k kv (.ref q)) ep' := by
  have ne : q ≠ p := fun e => by rw [e, b.at_] at hq; cases hq
  have hq1 : H1 q = none := by
    cases z : H1 q with
    | none => rfl
    | some o => exact absurd hq (b.g.m q (ne_none z))
  have g1 := (b.g.tmp (u := .lst []) hq).write (u := GD w p (putE xs k kv (.ref q)) ep') (.inr (List.mem_singleton.mpr rfl)) hd
  refine ⟨g1.write (.inl hq1) (b.g.s.none hq), ?_, gkeys_put b.keys hk, ?_, fun k' => ?_, fun k1 k2 a h1 h2 => ?_⟩
  · rw [upd_ne (Ne.symm ne), upd_same]
  · have h1 := putE_le xs k kv (.ref q)
    have h2 := b.len
    rw [List.length_append]
    exact Nat.le_trans h1 (Nat.add_le_add_right h2 1)
  · rw [getE_put, hit_snoc]
    by_cases e : k = k'
    · subst e
      rw [if_pos rfl, if_pos rfl]
      have h0 : hit evs k = [] := by
        rcases b.got k with ⟨z, _⟩ | ⟨_, z1, _⟩
        · exact z
        · rw [h] at z1; cases z1
      exact .inr ⟨q, rfl, ne, hq1, b.g.s.none hq, by rw [upd_same, h0]; rfl⟩
    · rw [if_neg e, if_neg e]
      rcases b.got k' with z | ⟨a', z1, z2, z3, z4, z5⟩
      · exact .inl z
      · refine .inr ⟨a', z1, z2, z3, z4, ?_⟩
        have na : a' ≠ q := ne_of_none z5 hq
        rw [upd_ne na, upd_ne z2, upd_ne na]
        exact z5
  · have old : ∀ k', getE xs k' = some (.ref q) → False := fun k' z => by
      rcases b.got k' with ⟨_, y⟩ | ⟨a', z1, z2, z3, z4, z5⟩
      · rw [z] at y; cases y
      · rw [z] at z1; cases z1; rw [hq] at z5; cases z5
    rw [getE_put] at h1 h2
    by_cases e1 : k = k1
    · by_cases e2 : k = k2
      · exact e1.symm.trans e2
      · rw [if_pos e1] at h1; cases h1
        rw [if_neg e2] at h2
        exact (old _ h2).elim
    · rw [if_neg e1] at h1
      by_cases e2 : k = k2
      · rw [if_pos e2] at h2; cases h2
        exact (old _ h1).elim
      · rw [if_neg e2] at h2
        exact b.inj _ _ _ h1 h2
def sp_borders_of (w : World) (K : PySem.W.Frag) (CP CB CPs CPc CS CC : Addr) : Sp := fun vs H Q _ => ∃ D t fv, vs = [fv] ∧ Sub D H ∧ BL D fv t ∧ good t ∧ ∀ D' H' v, Grow [] D H D' H' → BDict K w D' v t → Q v H'
abbrev s_borders_of : Stmt := topS 20
theorem sc_borders_of : FnScope ["field", "found", "place", "classes"] ["field"] (defScope s_borders_of) := ⟨rfl, rfl, rfl, by decide +kernel, rfl, by decide +kernel, by decide +kernel⟩
theorem ok_borders_of (F : Fun K "borders_of" "borders_of" s_borders_of f fd) (T : Txt K mg CP CB CPs CPc CS CC) (C_class_pairs : Def P w K mg base 5 "class_pairs" ["field", "place"] (sp_class_pairs w K CP CB CPs CPc CS CC)) : FnOk P w K mg base CX0 6 f fd ["field"] (sp_borders_of w K CP CB CPs CPc CS CC) := by
  refine F.ok sc_borders_of (fun vs H Q E h => ?_) (fun cdv A outer s H vs Q E hr h => ?_)
  · obtain ⟨_, _, _, rfl, _⟩ := h; rfl
  · obtain ⟨D, t, fv, rfl, hs, hb, hg, k⟩ := h
    refine ⟨_, (pss_cons (ps_set (i := 1) sc_borders_of.nd rfl (by first | exact Or.inl rfl | exact Or.inr rfl) pe_newG)
      (pss_cons (ps_for PassesOwn.never rfl (pi_range1 (by rfl) T.m_range (pa_cons (pe_op op_add (pe_callB call_len (by rfl) T.m_len b_len (pa_cons (pv 0) pa_nil)) pe_int) pa_nil)) (pg_name (i := 2) sc_borders_of.nd rfl (by first | exact Or.inl rfl | exact Or.inr rfl)) (pss_one (ps_for PassesOwn.never rfl (pi_list (pe_callD C_class_pairs (hr.mono (by decide)) (by rfl) (pa_cons (pv 0) (pa_cons (pv 2) pa_nil)))) (pg_name (i := 3) sc_borders_of.nd rfl (by first | exact Or.inl rfl | exact Or.inr rfl)) (pss_one (ps_expr (pe_bm PySem.F.plainAttrs_list PySem.F.slot_list_append PySem.F.type_list_append mt_append (pe_bmG PySem.F.slot_dict_setdefault PySem.F.type_dict_setdefault (mt_setdefaultG hr.units) (pv 1) (pa_cons (pv 3) (pa_cons (pe_lst pa_nil) pa_nil))) (pa_cons (pv 2) pa_nil)))))))
      (pss_one (ps_ret (pv 1))))), ?_⟩
    obtain ⟨af, rfl, haf⟩ := id hb
    intro p hp
    have g1 : Grow [] D H D (upd H p (GD w p [] 0)) := (Grow.refl hs).tmp hp
    have hd : D p = none := hs.none hp
    have hpn : upd H p (GD w p [] 0) p ≠ none := by rw [upd_same]; exact Option.some_ne_none _
    have hl := hg.1
    refine ⟨_, rfl, _, t.length, rfl, .inl ⟨tv t, SqL.of (g1.s _ _ haf), by simp⟩, _, _, rfl, rfl, _, rfl, by omega, by omega, ?_⟩
    have ej : ((t.length : Int) + 1).toNat = t.length + 1 := by omega
    rw [ej]
    refine for_it walk_range0 (fun i σ H' => ∃ x2 x3 D' xs ep, σ = [some (.ref af), some (.ref p), x2, x3] ∧ BW K w D (upd H p (GD w p [] 0)) p (evsTo t i) D' H' xs ep) ?_ ?_ ?_ ?_
    · refine ⟨_, _, D, [], 0, rfl, Grow.refl g1.s, upd_same, fun e he => (nomatch he), Nat.zero_le _, fun k => .inl ⟨rfl, rfl⟩, fun k k' a h => (nomatch h)⟩
    · intros; trivial
    · rintro i x σ H0 H' hi ⟨x2, x3, D', xs, ep, rfl, b⟩ ⟨rfl, rfl⟩
      refine ⟨_, rfl, _, rfl, D', t, i, .ref af, rfl, b.g.s, hb.mono b.g.d, hg, fun D2 H2 v2 g2 c2 => ?_⟩
      obtain ⟨a2, xs2, rfl, e2, z2⟩ := c2
      have hpl := prs_le t i
      have hll := z2.length
      have hev := evsTo_le t i
      refine ⟨a2, rfl, ⟨xs2, SqL.of (g2.s _ _ e2)⟩, for_it (walk_list (xs := xs2)) (fun j σ H' => ∃ x3 D' xs ep, σ = [some (.ref af), some (.ref p), some (.int (i : Nat)), x3] ∧ Sub D2 D' ∧ BW K w D (upd H p (GD w p [] 0)) p (evsTo t i ++ (evAt t i).take j) D' H' xs ep) ?_ ?_ ?_ ?_⟩
      · exact ⟨_, D2, xs, ep, rfl, Sub.refl _, by rw [List.take_zero, List.append_nil]; exact b.call g2⟩
      · rintro j σ H3 hj ⟨x3, D3, xs3, ep3, rfl, sb, b3⟩
        exact SqL.of (b3.g.s _ _ (sb _ _ e2))
      · rintro j y σ H3' H3 hj ⟨x3, D3, xs3, ep3, rfl, sb, b3⟩ ⟨rfl, hy⟩
        obtain ⟨lr, hlr, blr⟩ := z2.get hy
        have blr3 := PrV.mono sb blr
        have hev1 : (evAt t i).take (j + 1) = (evAt t i).take j ++ [(kP lr.1 lr.2, i)] := by
          rw [List.take_add_one]
          unfold evAt
          rw [List.getElem?_map, hlr]; rfl
        have hd3 : D3 p = none := (b3.g.n p hpn).trans hd
        have hsz : xs3.length < sizeLine := by
          have h1 := b3.len
          rw [List.length_append, List.length_take] at h1
          exact small_lt (by omega)
        rw [hev1, ← List.append_assoc]
        refine ⟨_, rfl, ⟨p, xs3, ep3, rfl, b3.at_⟩, _, rfl, sz0, fun q hq => ?_⟩
        have hpq : p ≠ q := ne_of_none b3.at_ hq
        have g4 : Grow [] D3 H3 D3 (upd H3 q (.lst [])) := (Grow.refl b3.g.s).tmp hq
        refine ⟨y, .ref q, p, xs3, ep3, kP lr.1 lr.2, rfl, ⟨rfl, by rw [upd_ne hpq]; exact b3.at_, GKeys.up g4.s b3.keys, KeyOf.up g4.s blr3.key⟩, hsz, fun v hv => ?_, fun hn ep' => ?_⟩
        · have b4 := b3.call g4
          obtain ⟨a, rfl, ha⟩ : ∃ a, v = .ref a ∧ upd H3 q (.lst []) a = some (.lst (nvs (hit (evsTo t i ++ (evAt t i).take j) (kP lr.1 lr.2)))) := by
            rcases b4.got (kP lr.1 lr.2) with ⟨_, z⟩ | ⟨a, z1, _, _, _, z5⟩
            · rw [hv] at z; cases z
            · rw [hv] at z1; cases z1; exact ⟨a, rfl, z5⟩
          refine ⟨.inl ⟨rfl, _, SqL.of ha⟩, _, rfl, a, _, _, rfl, rfl, ha, ?_, ?_⟩
          · have h1 := b3.len
            have h2 := List.length_filter_le (fun e => decide (e.1 = kP lr.1 lr.2)) (evsTo t i ++ (evAt t i).take j)
            unfold nvs hit
            rw [List.length_map, List.length_map]
            rw [List.length_append, List.length_take] at h2
            unfold evAt at h2
            rw [List.length_map] at h2
            exact Nat.lt_of_le_of_lt h2 (small_lt (by omega))
          · exact ⟨_, D3, xs3, ep3, rfl, sb, b4.add hv (by rw [upd_same]; exact Option.some_ne_none _) ha⟩
        · refine ⟨.inl ⟨rfl, _, SqL.of (by rw [upd_ne (Ne.symm hpq)]; exact upd_same)⟩, _, rfl, q, [], _, rfl, rfl, by rw [upd_ne (Ne.symm hpq)]; exact upd_same, by decide, ?_⟩
          exact ⟨_, D3, _, _, rfl, sb, b3.new hn blr3.key hpn hd3 hq⟩
      · rintro σ H3 ⟨x3, D3, xs3, ep3, rfl, sb, b3⟩
        rw [List.take_of_length_le (by unfold evAt; rw [List.length_map, hll]; exact Nat.le_refl _), ← evsTo_succ] at b3
        exact ⟨_, _, D3, xs3, ep3, rfl, b3⟩
    · rintro σ H' ⟨x2, x3, D', xs, ep, rfl, b⟩
      refine ⟨_, rfl, ?_⟩
      have G := g1.own b.g hp
      refine k _ _ _ (G.all hs) ⟨p, xs, ep, rfl, by rw [Fz.new hp]; exact b.at_, GKeys.up G.sub b.keys, fun l r hl hr hn => ?_⟩
      have e := hit_all t l r hl hr hn
      rcases b.got (kP l r) with ⟨z1, z2⟩ | ⟨a, z1, z2, z3, z4, z5⟩
      · exact .inl ⟨e ▸ z1, z2⟩
      · have z3' : H a = none := by rw [upd_ne z2] at z3; exact z3
        exact .inr ⟨a, z1, by rw [Fz.new z3', z5, e]⟩
end
end Ps
set_option Elab.async false
set_option linter.all false
set_option maxRecDepth 100000
set_option maxHeartbeats 2000000
namespace Ps
open PySem PySem.Spec PyProof.Rows L2 Gd
/-- __init__ that sets its fields -/
def spInit (C : Addr) (names : List Str) : Sp := fun vs H Q _ => ∃ x dx vals, vs = .ref x :: vals ∧ vals.length = names.length ∧ H x = some (.ins C dx []) ∧ Q .non (upd H x (.ins C dx (names.zip vals)))
theorem make_use {C : Addr} {fs : List (Str × V)} {D H1 : Hp} {x dx : Addr} (hs : Sub D H1) (hx : H1 x = none) (hdx : H1 dx = none) (ne : dx ≠ x) :
    Grow [] D H1 (upd D x (.ins C dx fs)) (upd (upd (upd H1 dx (.own x)) x (.ins C dx [])) x (.ins C dx fs)) := by
  rw [upd_upd]
  have g1 : Grow [] D H1 D (upd H1 dx (.own x)) := (Grow.refl hs).tmp hdx
  exact g1.new (by rw [upd_ne (Ne.symm ne)]; exact hx)
def PLs (K : PySem.W.Frag) (CP : Addr) (D : Hp) (v : V) (ps : List Pos) : Prop := ∃ a xs, v = .ref a ∧ D a = some (.lst xs) ∧ All2 (PosAt K CP D) xs ps
theorem PLs.mono {K : PySem.W.Frag} {CP : Addr} {D D' : Hp} {v : V} {ps : List Pos} (h : Sub D D') (q : PLs K CP D v ps) : PLs K CP D' v ps :=
  let ⟨a, xs, e, z, b⟩ := q; ⟨a, xs, e, h _ _ z, b.mono fun _ _ q => q.mono h⟩
theorem dec_ok (n : Nat) (h : n ≤ 60) : (cpsV ("+" ++ toString ((n : Nat) : Int)) = tv (43 :: Vaflxa.decimal n) ∧ cpsV ("-" ++ toString ((n : Nat) : Int)) = tv (45 :: Vaflxa.decimal n)) ∧
    (("+" ++ toString ((n : Nat) : Int) : Str).cps.size ≤ 1000 ∧ ("-" ++ toString ((n : Nat) : Int) : Str).cps.size ≤ 1000) ∧ (("+" : Str).length + (toString ((n : Nat) : Int) : Str).length ≤ sizeLine ∧ ("-" : Str).length + (toString ((n : Nat) : Int) : Str).length ≤ sizeLine) ∧ ((n : Nat) : Int).natAbs.log2 < 1920 := by
  have key : ∀ n : Fin 61, (cpsV ("+" ++ toString ((n.val : Nat) : Int)) = tv (43 :: Vaflxa.decimal n.val) ∧ cpsV ("-" ++ toString ((n.val : Nat) : Int)) = tv (45 :: Vaflxa.decimal n.val)) ∧
    (("+" ++ toString ((n.val : Nat) : Int) : Str).cps.size ≤ 1000 ∧ ("-" ++ toString ((n.val : Nat) : Int) : Str).cps.size ≤ 1000) ∧ (("+" : Str).length + (toString ((n.val : Nat) : Int) : Str).length ≤ sizeLine ∧ ("-" : Str).length + (toString ((n.val : Nat) : Int) : Str).length ≤ sizeLine) ∧ ((n.val : Nat) : Int).natAbs.log2 < 1920 := by decide +kernel
  exact key ⟨n, by omega⟩
theorem cat_ok {A B C : Prop} {xs ys : List V} (hx : xs ≠ []) (hy : ys ≠ []) (c : C) : (xs = [] → A) ∧ (xs ≠ [] → ys = [] → B) ∧ (xs ≠ [] → ys ≠ [] → C) :=
  ⟨fun z => (hx z).elim, fun _ z => (hy z).elim, fun _ _ => c⟩
section
variable {P : Program} {w : World} {K : PySem.W.Frag} {mg : Str → Option Value} {base : Heap} {CP CB CPs CPc CS CC : Addr} {f : Addr} {fd : FuncData}
abbrev s_Position : Stmt := inClass (topS 12) 0
theorem sc_Position : FnScope ["self", "text", "cost", "classes", "from_left", "number"] ["self", "text", "cost", "classes", "from_left", "number"] (defScope s_Position) := ⟨rfl, rfl, rfl, by decide +kernel, rfl, by decide +kernel, by decide +kernel⟩
theorem ok_Position (F : Fun K "__init__" "Position.__init__" s_Position f fd) (T : Txt K mg CP CB CPs CPc CS CC) : FnOk P w K mg base CX0 1 f fd ["self", "text", "cost", "classes", "from_left", "number"] (spInit CP ["text", "cost", "classes", "from_left", "number"]) := by
  refine F.ok sc_Position (fun vs H Q E h => ?_) (fun cdv A outer s H vs Q E hr h => ?_)
  · obtain ⟨x, dx, vals, rfl, hl, _⟩ := h
    rw [List.length_cons, hl]; rfl
  · obtain ⟨x, dx, vals, rfl, hl, hx, k⟩ := h
    match vals, hl with
    | [v0, v1, v2, v3, v4], _ =>
      refine ⟨_, (pss_cons (ps_fld (pv 0) (pv 1) rfl)
      (pss_cons (ps_fld (pv 0) (pv 2) rfl)
      (pss_cons (ps_fld (pv 0) (pv 3) rfl)
      (pss_cons (ps_fld (pv 0) (pv 4) rfl)
      (pss_one (ps_fld (pv 0) (pv 5) rfl)))))), ?_⟩
      refine ⟨_, rfl, _, rfl, x, _, dx, _, rfl, hx, T.clP, T.nP _ (by simp), (show 0 < 1000 by decide), ?_⟩
      refine ⟨_, rfl, _, rfl, x, _, dx, _, rfl, upd_same, T.clP, T.nP _ (by simp), (show 1 < 1000 by decide), ?_⟩
      refine ⟨_, rfl, _, rfl, x, _, dx, _, rfl, upd_same, T.clP, T.nP _ (by simp), (show 2 < 1000 by decide), ?_⟩
      refine ⟨_, rfl, _, rfl, x, _, dx, _, rfl, upd_same, T.clP, T.nP _ (by simp), (show 3 < 1000 by decide), ?_⟩
      refine ⟨_, rfl, _, rfl, x, _, dx, _, rfl, upd_same, T.clP, T.nP _ (by simp), (show 4 < 1000 by decide), ?_⟩
      simp only [upd_upd]
      exact k
abbrev s_Box : Stmt := inClass (topS 42) 0
theorem sc_Box : FnScope ["self", "field", "case", "left", "right"] ["self", "field", "case", "left", "right"] (defScope s_Box) := ⟨rfl, rfl, rfl, by decide +kernel, rfl, by decide +kernel, by decide +kernel⟩
theorem ok_Box (F : Fun K "__init__" "Box.__init__" s_Box f fd) (T : Txt K mg CP CB CPs CPc CS CC) : FnOk P w K mg base CX0 1 f fd ["self", "field", "case", "left", "right"] (spInit CB ["field", "case", "left", "right"]) := by
  refine F.ok sc_Box (fun vs H Q E h => ?_) (fun cdv A outer s H vs Q E hr h => ?_)
  · obtain ⟨x, dx, vals, rfl, hl, _⟩ := h
    rw [List.length_cons, hl]; rfl
  · obtain ⟨x, dx, vals, rfl, hl, hx, k⟩ := h
    match vals, hl with
    | [v0, v1, v2, v3], _ =>
      refine ⟨_, (pss_cons (ps_fld (pv 0) (pv 1) rfl)
      (pss_cons (ps_fld (pv 0) (pv 2) rfl)
      (pss_cons (ps_fld (pv 0) (pv 3) rfl)
      (pss_one (ps_fld (pv 0) (pv 4) rfl))))), ?_⟩
      refine ⟨_, rfl, _, rfl, x, _, dx, _, rfl, hx, T.clB, T.nB _ (by simp), (show 0 < 1000 by decide), ?_⟩
      refine ⟨_, rfl, _, rfl, x, _, dx, _, rfl, upd_same, T.clB, T.nB _ (by simp), (show 1 < 1000 by decide), ?_⟩
      refine ⟨_, rfl, _, rfl, x, _, dx, _, rfl, upd_same, T.clB, T.nB _ (by simp), (show 2 < 1000 by decide), ?_⟩
      refine ⟨_, rfl, _, rfl, x, _, dx, _, rfl, upd_same, T.clB, T.nB _ (by simp), (show 3 < 1000 by decide), ?_⟩
      simp only [upd_upd]
      exact k
abbrev s_Pieces : Stmt := inClass (topS 43) 0
theorem sc_Pieces : FnScope ["self", "constant", "boxes"] ["self", "constant", "boxes"] (defScope s_Pieces) := ⟨rfl, rfl, rfl, by decide +kernel, rfl, by decide +kernel, by decide +kernel⟩
theorem ok_Pieces (F : Fun K "__init__" "Pieces.__init__" s_Pieces f fd) (T : Txt K mg CP CB CPs CPc CS CC) : FnOk P w K mg base CX0 1 f fd ["self", "constant", "boxes"] (spInit CPs ["constant", "boxes"]) := by
  refine F.ok sc_Pieces (fun vs H Q E h => ?_) (fun cdv A outer s H vs Q E hr h => ?_)
  · obtain ⟨x, dx, vals, rfl, hl, _⟩ := h
    rw [List.length_cons, hl]; rfl
  · obtain ⟨x, dx, vals, rfl, hl, hx, k⟩ := h
    match vals, hl with
    | [v0, v1], _ =>
      refine ⟨_, (pss_cons (ps_fld (pv 0) (pv 1) rfl)
      (pss_one (ps_fld (pv 0) (pv 2) rfl))), ?_⟩
      refine ⟨_, rfl, _, rfl, x, _, dx, _, rfl, hx, T.clPs, T.nPs _ (by simp), (show 0 < 1000 by decide), ?_⟩
      refine ⟨_, rfl, _, rfl, x, _, dx, _, rfl, upd_same, T.clPs, T.nPs _ (by simp), (show 1 < 1000 by decide), ?_⟩
      simp only [upd_upd]
      exact k
abbrev s_Piece : Stmt := inClass (topS 44) 0
theorem sc_Piece : FnScope ["self", "text", "cost"] ["self", "text", "cost"] (defScope s_Piece) := ⟨rfl, rfl, rfl, by decide +kernel, rfl, by decide +kernel, by decide +kernel⟩
theorem ok_Piece (F : Fun K "__init__" "Piece.__init__" s_Piece f fd) (T : Txt K mg CP CB CPs CPc CS CC) : FnOk P w K mg base CX0 1 f fd ["self", "text", "cost"] (spInit CPc ["text", "cost"]) := by
  refine F.ok sc_Piece (fun vs H Q E h => ?_) (fun cdv A outer s H vs Q E hr h => ?_)
  · obtain ⟨x, dx, vals, rfl, hl, _⟩ := h
    rw [List.length_cons, hl]; rfl
  · obtain ⟨x, dx, vals, rfl, hl, hx, k⟩ := h
    match vals, hl with
    | [v0, v1], _ =>
      refine ⟨_, (pss_cons (ps_fld (pv 0) (pv 1) rfl)
      (pss_one (ps_fld (pv 0) (pv 2) rfl))), ?_⟩
      refine ⟨_, rfl, _, rfl, x, _, dx, _, rfl, hx, T.clPc, T.nPc _ (by simp), (show 0 < 1000 by decide), ?_⟩
      refine ⟨_, rfl, _, rfl, x, _, dx, _, rfl, upd_same, T.clPc, T.nPc _ (by simp), (show 1 < 1000 by decide), ?_⟩
      simp only [upd_upd]
      exact k
def sp_counted_place (w : World) (K : PySem.W.Frag) (CP CB CPs CPc CS CC : Addr) : Sp := fun vs H Q _ => ∃ D fl n, vs = [.bl fl, nv n] ∧ Sub D H ∧ n ≤ 60 ∧ ∀ D' H' v, Grow [] D H D' H' → PosAt K CP D' v (if fl = true then .start n else .finish n) → Q v H'
abbrev s_counted_place : Stmt := topS 21
theorem sc_counted_place : FnScope ["from_left", "number", "cost", "sign"] ["from_left", "number"] (defScope s_counted_place) := ⟨rfl, rfl, rfl, by decide +kernel, rfl, by decide +kernel, by decide +kernel⟩
theorem ok_counted_place (F : Fun K "counted_place" "counted_place" s_counted_place f fd) (T : Txt K mg CP CB CPs CPc CS CC) (N_Position : NewD P w K mg base 1 "Position" CP ["self", "text", "cost", "classes", "from_left", "number"] (spInit CP ["text", "cost", "classes", "from_left", "number"])) (C_bytes_of : Def P w K mg base 1 "bytes_of" ["text"] sp_bytes_of) : FnOk P w K mg base CX0 3 f fd ["from_left", "number"] (sp_counted_place w K CP CB CPs CPc CS CC) := by
  refine F.ok sc_counted_place (fun vs H Q E h => ?_) (fun cdv A outer s H vs Q E hr h => ?_)
  · obtain ⟨_, _, _, rfl, _⟩ := h; rfl
  · obtain ⟨D, fl, n, rfl, hs, hn, k⟩ := h
    refine ⟨_, (pss_cons (ps_set (i := 2) sc_counted_place.nd rfl (by first | exact Or.inl rfl | exact Or.inr rfl) (pe_const (by rfl) T.g_PLACE_COST))
      (pss_cons (ps_if (pt_cmpR op_eq (pv 1) pe_int (nomark _)) (pss_one (ps_set (i := 2) sc_counted_place.nd rfl (by first | exact Or.inl rfl | exact Or.inr rfl) (pe_const (by rfl) T.g_END_COST))) pss_nil)
      (pss_cons (ps_set (i := 3) sc_counted_place.nd rfl (by first | exact Or.inl rfl | exact Or.inr rfl) (pe_ix ix_list (pe_lst (pa_cons pe_str (pa_cons pe_str pa_nil))) (pe_callTy call_int1 (by rfl) T.m_int b_int (pa_cons (pv 0) pa_nil)) (fun _ _ => rfl)))
      (pss_one (ps_ret (pe_newD N_Position (hr.mono (by decide)) (by rfl) (pa_cons (pe_callD C_bytes_of (hr.mono (by decide)) (by rfl) (pa_cons (pe_op op_add_str (pv 3) (pe_callTy call_str_int (by rfl) T.m_str b_str (pa_cons (pv 1) pa_nil))) pa_nil)) (pa_cons (pv 2) (pa_cons pe_non (pa_cons (pv 0) (pa_cons (pv 1) pa_nil))))))))))), ?_⟩
    obtain ⟨⟨d1, d2⟩, ⟨d3, d4⟩, ⟨d5, d6⟩, d7⟩ := dec_ok n hn
    refine ⟨_, rfl, rfl, _, rfl, ite2 (fun h0 => ?_) (fun h0 => ?_)⟩
    all_goals
      have h0 := h0
      rw [decide_eq_true_eq] at h0
      refine ⟨sz2, fun q hq => ?_⟩
      have g1 : Grow [] D H D (upd H q (.lst [.str "-", .str "+"])) := (Grow.refl hs).tmp hq
      refine ⟨_, rfl, .inr ⟨fl, rfl, q, _, _, .str (if fl = true then "+" else "-"), rfl, rfl, SqL.of upd_same, by cases fl <;> rfl, ?_⟩⟩
      refine ⟨_, rfl, _, rfl, n, rfl, d7, _, _, rfl, rfl, by cases fl <;> assumption, _, rfl, by cases fl <;> assumption, fun H1 p1 s1 n1 e1 => ?_⟩
      obtain ⟨D1, g2, b1⟩ := bytes_new (K := K) (t := if fl = true then 43 :: Vaflxa.decimal n else 45 :: Vaflxa.decimal n) (by cases fl <;> assumption) g1.s s1 n1 e1
      refine ⟨_, rfl, _, rfl, _, rfl, fun x dx hx hdx ne => ⟨x, dx, _, rfl, rfl, upd_same, rfl, ?_⟩⟩
      refine k _ _ _ ((g1.trans g2).trans (make_use (C := CP) g2.s hx hdx ne)) ⟨x, dx, .ref p1, .non, rfl, ?_, ?_, ?_⟩
      · rw [upd_same]
        first
        | (have h1 : n = 0 := by have := V.int.inj h0; omega
           subst h1
           cases fl <;> rfl)
        | (have h1 : ¬ n = 0 := fun e => h0 (by rw [e]; rfl)
           have c1 : Vaflxa.posCost (.start n) = 5 := if_neg h1
           have c2 : Vaflxa.posCost (.finish n) = 5 := if_neg h1
           cases fl
           · unfold posFs
             rw [if_neg Bool.false_ne_true, c2]; rfl
           · unfold posFs
             rw [if_pos rfl, c1]; rfl)
      · cases fl <;> exact b1.mono (make_use (C := CP) g2.s hx hdx ne).d
      · cases fl <;> rfl
theorem isE_dotT (kl : Kl) : (if (!PyData.eqv (dT (Vaflxa.clsText kl)) (dT [46])) = true then (1 : Int) else 0) * 2 = ((Vaflxa.clsCost kl : Nat) : Int) := by
  rw [isE_dot]
  unfold Vaflxa.clsCost
  cases Vaflxa.isEmptyClass kl <;> rfl
theorem cls_le (kl : Kl) : (tv (Vaflxa.clsText kl)).length ≤ 2 := by cases kl <;> simp [Vaflxa.clsText]
theorem dec_le (n : Nat) (h : n ≤ 60) : (Vaflxa.decimal n).length ≤ 2 := by
  have key : ∀ n : Fin 61, (Vaflxa.decimal n.val).length ≤ 2 := by decide +kernel
  exact key ⟨n, by omega⟩
theorem cls_ne (kl : Kl) : tv (Vaflxa.clsText kl) ≠ [] := by cases kl <;> exact List.cons_ne_nil _ _
def sp_border_position (w : World) (K : PySem.W.Frag) (CP CB CPs CPc CS CC : Addr) : Sp := fun vs H Q _ => ∃ D l r fl n cv, vs = [cv, .bl fl, nv n] ∧ Sub D H ∧ PrV K D cv l r ∧ n ≤ 60 ∧ ∀ D' H' v, Grow [] D H D' H' → PosAt K CP D' v (if fl = true then .left l r n else .right l r n) → Q v H'
abbrev s_border_position : Stmt := topS 22
theorem sc_border_position : FnScope ["classes", "from_left", "number", "empty", "cost", "sign", "text"] ["classes", "from_left", "number"] (defScope s_border_position) := ⟨rfl, rfl, rfl, by decide +kernel, rfl, by decide +kernel, by decide +kernel⟩
theorem ok_border_position (F : Fun K "border_position" "border_position" s_border_position f fd) (T : Txt K mg CP CB CPs CPc CS CC) (N_Position : NewD P w K mg base 1 "Position" CP ["self", "text", "cost", "classes", "from_left", "number"] (spInit CP ["text", "cost", "classes", "from_left", "number"])) (C_bytes_of : Def P w K mg base 1 "bytes_of" ["text"] sp_bytes_of) : FnOk P w K mg base CX0 3 f fd ["classes", "from_left", "number"] (sp_border_position w K CP CB CPs CPc CS CC) := by
  refine F.ok sc_border_position (fun vs H Q E h => ?_) (fun cdv A outer s H vs Q E hr h => ?_)
  · obtain ⟨_, _, _, _, _, _, rfl, _⟩ := h; rfl
  · obtain ⟨D, l, r, fl, n, cv, rfl, hs, hpr, hn, k⟩ := h
    refine ⟨_, (pss_cons (ps_set (i := 3) sc_border_position.nd rfl (by first | exact Or.inl rfl | exact Or.inr rfl) (pe_callD C_bytes_of (hr.mono (by decide)) (by rfl) (pa_cons (pe_const (by rfl) T.g_EMPTY) pa_nil)))
      (pss_cons (ps_set (i := 4) sc_border_position.nd rfl (by first | exact Or.inl rfl | exact Or.inr rfl) (pe_op op_add (pe_op op_add (pe_op op_mul (pe_const (by rfl) T.g_CLASS_COST) (pe_op op_add (pe_callTy call_int1 (by rfl) T.m_int b_int (pa_cons (pe_cmpR (op_neD hr.units) (pe_ix ix_tup (pv 0) pe_int (fun _ _ => rfl)) (pv 3) (nomark _)) pa_nil)) (pe_callTy call_int1 (by rfl) T.m_int b_int (pa_cons (pe_cmpR (op_neD hr.units) (pe_ix ix_tup (pv 0) pe_int (fun _ _ => rfl)) (pv 3) (nomark _)) pa_nil)))) (pv 2)) (pe_callTy call_int1 (by rfl) T.m_int b_int (pa_cons (pe_not (pv 1)) pa_nil))))
      (pss_cons (ps_set (i := 5) sc_border_position.nd rfl (by first | exact Or.inl rfl | exact Or.inr rfl) (pe_ix ix_list (pe_lst (pa_cons pe_str (pa_cons pe_str pa_nil))) (pe_callTy call_int1 (by rfl) T.m_int b_int (pa_cons (pv 1) pa_nil)) (fun _ _ => rfl)))
      (pss_cons (ps_set (i := 6) sc_border_position.nd rfl (by first | exact Or.inl rfl | exact Or.inr rfl) (pe_op op_catA (pe_op op_catA (pe_op op_catA (pe_ix ix_tup (pv 0) pe_int (fun _ _ => rfl)) (pe_callD C_bytes_of (hr.mono (by decide)) (by rfl) (pa_cons pe_str pa_nil))) (pe_ix ix_tup (pv 0) pe_int (fun _ _ => rfl))) (pe_callD C_bytes_of (hr.mono (by decide)) (by rfl) (pa_cons (pe_op op_add_str (pv 5) (pe_callTy call_str_int (by rfl) T.m_str b_str (pa_cons (pv 2) pa_nil))) pa_nil))))
      (pss_one (ps_ret (pe_newD N_Position (hr.mono (by decide)) (by rfl) (pa_cons (pv 6) (pa_cons (pv 4) (pa_cons (pv 0) (pa_cons (pv 1) (pa_cons (pv 2) pa_nil)))))))))))), ?_⟩
    obtain ⟨⟨d1, d2⟩, ⟨d3, d4⟩, ⟨d5, d6⟩, d7⟩ := dec_ok n hn
    refine ⟨_, rfl, by decide, fun H1 p1 s1 n1 e1 => ?_⟩
    obtain ⟨D1, g1, b1⟩ := bytes_new (K := K) (t := [46]) rfl hs s1 n1 e1
    obtain ⟨ac, x, y, rfl, hc, bx, bY⟩ := PrV.mono g1.d hpr
    have hc1 := SqT.up g1.s hc
    refine ⟨_, rfl, ac, _, 0, x, rfl, rfl, hc1, rfl, _, rfl, _, _, Dp.up g1.s bx.dp, Dp.up g1.s b1.dp, shaped_dT _, shaped_dT _, .inr ⟨_, rfl, ?_⟩⟩
    refine ⟨_, rfl, ac, _, 1, y, rfl, rfl, hc1, rfl, _, rfl, _, _, Dp.up g1.s bY.dp, Dp.up g1.s b1.dp, shaped_dT _, shaped_dT _, .inr ⟨_, rfl, ?_⟩⟩
    refine ⟨_, _, rfl, rfl, _, _, rfl, rfl, .inl (by decide), _, rfl, _, _, rfl, rfl, _, rfl, fl, rfl, .inr ⟨_, rfl, _, _, rfl, rfl, ?_⟩⟩
    refine ⟨sz2, fun q hq => ?_⟩
    have g2 : Grow [] D1 H1 D1 (upd H1 q (.lst [.str "-", .str "+"])) := (Grow.refl g1.s).tmp hq
    refine ⟨_, rfl, .inr ⟨fl, rfl, q, _, _, .str (if fl = true then "+" else "-"), rfl, rfl, SqL.of upd_same, by cases fl <;> rfl, ?_⟩⟩
    have hc2 := SqT.up g2.s hc
    refine ⟨_, rfl, ac, _, 0, x, rfl, rfl, hc2, rfl, _, rfl, by decide, fun H3 p3 s3 n3 e3 => ?_⟩
    obtain ⟨D3, g3, b3⟩ := bytes_new (K := K) (t := [124]) rfl g2.s s3 n3 e3
    obtain ⟨xa, rfl, hx3⟩ := BT.sq g3.s (bx.mono g3.d)
    obtain ⟨ba, e3', hb3⟩ := BT.sq g3.s b3
    cases e3'
    refine ⟨xa, p3, _, _, rfl, rfl, hx3, hb3, ?_, cat_ok (cls_ne l) (List.cons_ne_nil _ _) fun p4 hp4 => ?_⟩
    · have := cls_le l; exact small_le (by simp at this ⊢; omega)
    have g4 := Grow.fresh (M := []) (u := .tup (tv (Vaflxa.clsText l) ++ tv [124])) g3.s hp4
    have hc4 := SqT.up g4.s (SqT.up (g3.d.trans g4.d) hc)
    obtain ⟨ya, rfl, hy4⟩ := BT.sq g4.s (bY.mono (g3.d.trans g4.d))
    refine ⟨_, rfl, ac, _, 1, .ref ya, rfl, rfl, hc4, rfl, p4, ya, _, _, rfl, rfl, SqT.of upd_same, hy4, ?_, cat_ok (fun z => cls_ne l (List.append_eq_nil_iff.mp z).1) (cls_ne r) fun p5 hp5 => ?_⟩
    · have := cls_le l; have := cls_le r; exact small_le (by simp at *; omega)
    have g5 := Grow.fresh (M := []) (u := .tup ((tv (Vaflxa.clsText l) ++ tv [124]) ++ tv (Vaflxa.clsText r))) g4.s hp5
    refine ⟨_, rfl, _, rfl, n, rfl, d7, _, _, rfl, rfl, by cases fl <;> assumption, _, rfl, by cases fl <;> assumption, fun H6 p6 s6 n6 e6 => ?_⟩
    obtain ⟨D6, g6, b6⟩ := bytes_new (K := K) (t := if fl = true then 43 :: Vaflxa.decimal n else 45 :: Vaflxa.decimal n) (by cases fl <;> assumption) g5.s s6 n6 e6
    obtain ⟨ta, e6', ht6⟩ := BT.sq g6.s b6
    cases e6'
    refine ⟨p5, p6, _, _, rfl, rfl, SqT.of (g6.h p5 _ (by simp) upd_same), ht6, ?_, cat_ok (fun z => cls_ne l (List.append_eq_nil_iff.mp (List.append_eq_nil_iff.mp z).1).1) (by cases fl <;> exact List.cons_ne_nil _ _) fun p7 hp7 => ?_⟩
    · have h1 := cls_le l
      have h2 := cls_le r
      have h3 := dec_le n hn
      exact small_le (by cases fl <;> simp at * <;> omega)
    have g7 := Grow.fresh (M := []) (u := .tup (((tv (Vaflxa.clsText l) ++ tv [124]) ++ tv (Vaflxa.clsText r)) ++ tv (if fl = true then 43 :: Vaflxa.decimal n else 45 :: Vaflxa.decimal n))) g6.s hp7
    refine ⟨_, rfl, _, rfl, _, rfl, _, rfl, _, rfl, fun x' dx hx hdx ne => ⟨x', dx, _, rfl, rfl, upd_same, rfl, ?_⟩⟩
    have g8 := fun fs => make_use (C := CP) (fs := fs) g7.s hx hdx ne
    have G := (((((g1.trans g2).trans g3).trans g4).trans g5).trans g6).trans g7
    refine k _ _ _ (G.trans (make_use (C := CP) g7.s hx hdx ne)) ⟨x', dx, .ref p7, .ref ac, rfl, ?_, ?_, ?_⟩
    · rw [upd_same]
      have e : ∀ (b1 b2 : Bool), (2 : Int) * ((if b1 = true then 1 else 0) + (if b2 = true then 1 else 0)) = (if b1 = true then (1 : Int) else 0) * 2 + (if b2 = true then (1 : Int) else 0) * 2 := by decide
      rw [e, isE_dotT, isE_dotT]
      cases fl
      · rw [if_neg Bool.false_ne_true]
        unfold posFs Vaflxa.posCost
        rw [show (((Vaflxa.clsCost l + Vaflxa.clsCost r + n + 1 : Nat)) : Int) = (Vaflxa.clsCost l : Int) + (Vaflxa.clsCost r : Int) + (n : Int) + 1 by omega]
        rfl
      · rw [if_pos rfl]
        unfold posFs Vaflxa.posCost
        rw [show (((Vaflxa.clsCost l + Vaflxa.clsCost r + n : Nat)) : Int) = (Vaflxa.clsCost l : Int) + (Vaflxa.clsCost r : Int) + (n : Int) + 0 by omega]
        rfl
    · refine ⟨p7, rfl, SqT.up (g8 _).d ?_⟩
      have e : tv (Vaflxa.posText (if fl = true then .left l r n else .right l r n)) = ((tv (Vaflxa.clsText l) ++ tv [124]) ++ tv (Vaflxa.clsText r)) ++ tv (if fl = true then 43 :: Vaflxa.decimal n else 45 :: Vaflxa.decimal n) := by
        cases fl <;> simp [Vaflxa.posText]
      rw [e]
      exact SqT.of upd_same
    · have gs := (((g2.d.trans g3.d).trans g4.d).trans g5.d).trans (g6.d.trans g7.d)
      have h7 : PrV K _ (.ref ac) l r := PrV.mono gs ⟨ac, _, _, rfl, hc, bx, bY⟩
      cases fl <;> exact PrV.mono (g8 _).d h7
end
end Ps
set_option Elab.async false
set_option linter.all false
set_option maxRecDepth 100000
set_option maxHeartbeats 2000000
namespace Ps
open PySem PySem.Spec PyProof.Rows L2 Gd
/-- the two positions by a border -/
def twoAt (t : Tx) (p : Nat) (l r : Kl) : List Pos := [.left l r (((Vaflxa.borders l r t).findIdx fun q => q == p) + 1), .right l r ((Vaflxa.borders l r t).length - (Vaflxa.borders l r t).findIdx fun q => q == p)]
def allAt (t : Tx) (p : Nat) : List Pos := [.start p, .finish (t.length - p)] ++ (prs t p).flatMap fun k => twoAt t p k.1 k.2
theorem borders_le {l r : Kl} {t : Tx} (h : (Vaflxa.isEmptyClass l && Vaflxa.isEmptyClass r) = false) : (Vaflxa.borders l r t).length ≤ t.length := by
  unfold Vaflxa.borders
  cases hl : Vaflxa.isEmptyClass l with
  | false =>
    have e : List.range (t.length + 1) = 0 :: (List.range t.length).map Nat.succ := List.range_succ_eq_map
    rw [e, List.filter_cons]
    have : (Vaflxa.ends l t 0 && Vaflxa.begins r t 0) = false := by
      unfold Vaflxa.ends Vaflxa.beforeIn
      rw [hl]; simp
    rw [this, if_neg Bool.false_ne_true]
    refine Nat.le_trans (List.length_filter_le _ _) ?_
    simp
  | true =>
    rw [hl, Bool.true_and] at h
    rw [List.range_succ, List.filter_append, List.length_append]
    have : (Vaflxa.ends l t t.length && Vaflxa.begins r t t.length) = false := by
      unfold Vaflxa.begins Vaflxa.byteIn
      rw [h]; simp
    have h1 := List.length_filter_le (fun p => Vaflxa.ends l t p && Vaflxa.begins r t p) (List.range t.length)
    rw [List.length_range] at h1
    simp only [List.filter_cons, this, List.filter_nil]
    simpa using h1
theorem mem_borders {l r : Kl} {t : Tx} {p : Nat} (hp : p ≤ t.length) (h : (l, r) ∈ prs t p) : p ∈ Vaflxa.borders l r t := by
  obtain ⟨h1, h2, h3⟩ := mem_prs.mp h
  unfold Vaflxa.borders
  rw [List.mem_filter, List.mem_range]
  refine ⟨by omega, ?_⟩
  rw [(mem_endings (wf_endings h1)).mp h1, (mem_beginnings (wf_beginnings h2)).mp h2]; rfl
theorem flat_nvs (l : List Nat) : (nvs l).all flatV = true := by
  unfold nvs; rw [List.all_map]; exact List.all_eq_true.mpr fun _ _ => rfl
theorem twoAt_len (t : Tx) (p : Nat) (l r : Kl) : (twoAt t p l r).length = 2 := rfl
theorem allAt_len (t : Tx) (p : Nat) : (allAt t p).length = 2 + 2 * (prs t p).length := by
  unfold allAt
  rw [List.length_append]
  have : ∀ xs : List (Kl × Kl), (xs.flatMap fun k => twoAt t p k.1 k.2).length = 2 * xs.length := by
    intro xs
    induction xs with
    | nil => rfl
    | cons x xs ih => rw [List.flatMap_cons, List.length_append, ih, twoAt_len, List.length_cons]; omega
  rw [this]; rfl
section
variable {P : Program} {w : World} {K : PySem.W.Frag} {mg : Str → Option Value} {base : Heap} {CP CB CPs CPc CS CC : Addr} {f : Addr} {fd : FuncData}
def sp_border_positions (w : World) (K : PySem.W.Frag) (CP CB CPs CPc CS CC : Addr) : Sp := fun vs H Q _ => ∃ D l r bs n cv a, vs = [.ref a, nv n, cv] ∧ Sub D H ∧ D a = some (.lst (nvs bs)) ∧ PrV K D cv l r ∧ n ∈ bs ∧ bs.length ≤ 40 ∧ ∀ D' H' v, Grow [] D H D' H' → PLs K CP D' v [.left l r ((bs.findIdx fun q => q == n) + 1), .right l r (bs.length - bs.findIdx fun q => q == n)] → Q v H'
abbrev s_border_positions : Stmt := topS 23
theorem sc_border_positions : FnScope ["borders", "place", "classes", "at", "found"] ["borders", "place", "classes"] (defScope s_border_positions) := ⟨rfl, rfl, rfl, by decide +kernel, rfl, by decide +kernel, by decide +kernel⟩
theorem ok_border_positions (F : Fun K "border_positions" "border_positions" s_border_positions f fd) (T : Txt K mg CP CB CPs CPc CS CC) (C_border_position : Def P w K mg base 3 "border_position" ["classes", "from_left", "number"] (sp_border_position w K CP CB CPs CPc CS CC)) : FnOk P w K mg base CX0 4 f fd ["borders", "place", "classes"] (sp_border_positions w K CP CB CPs CPc CS CC) := by
  refine F.ok sc_border_positions (fun vs H Q E h => ?_) (fun cdv A outer s H vs Q E hr h => ?_)
  · obtain ⟨_, _, _, _, _, _, _, rfl, _⟩ := h; rfl
  · obtain ⟨D, l, r, bs, n, cv, a, rfl, hs, ha, hpr, hn, hbl, k⟩ := h
    refine ⟨_, (pss_cons (ps_set (i := 3) sc_border_positions.nd rfl (by first | exact Or.inl rfl | exact Or.inr rfl) (pe_bm PySem.F.plainAttrs_list PySem.F.slot_list_index PySem.F.type_list_index mt_index (pv 0) (pa_cons (pv 1) pa_nil)))
      (pss_cons (ps_set (i := 4) sc_border_positions.nd rfl (by first | exact Or.inl rfl | exact Or.inr rfl) (pe_lst pa_nil))
      (pss_cons (ps_if (pt_cmpR op_le (pe_op op_add (pv 3) pe_int) (pe_const (by rfl) T.g_MOST_BORDER) (nomark _)) (pss_one (ps_expr (pe_bm PySem.F.plainAttrs_list PySem.F.slot_list_append PySem.F.type_list_append mt_append (pv 4) (pa_cons (pe_callD C_border_position (hr.mono (by decide)) (by rfl) (pa_cons (pv 2) (pa_cons pe_bl (pa_cons (pe_op op_add (pv 3) pe_int) pa_nil)))) pa_nil)))) pss_nil)
      (pss_cons (ps_if (pt_cmpR op_le (pe_op op_sub (pe_callB call_len (by rfl) T.m_len b_len (pa_cons (pv 0) pa_nil)) (pv 3)) (pe_const (by rfl) T.g_MOST_BORDER) (nomark _)) (pss_one (ps_expr (pe_bm PySem.F.plainAttrs_list PySem.F.slot_list_append PySem.F.type_list_append mt_append (pv 4) (pa_cons (pe_callD C_border_position (hr.mono (by decide)) (by rfl) (pa_cons (pv 2) (pa_cons pe_bl (pa_cons (pe_op op_sub (pe_callB call_len (by rfl) T.m_len b_len (pa_cons (pv 0) pa_nil)) (pv 3)) pa_nil)))) pa_nil)))) pss_nil)
      (pss_one (ps_ret (pv 4))))))), ?_⟩
    have hj : (bs.findIdx fun q => q == n) < bs.length := List.findIdx_lt_length_of_exists ⟨n, hn, by simp⟩
    generalize hjj : (bs.findIdx fun q => q == n) = j at *
    have hjn : bs[j]? = some n := by
      subst hjj
      rw [List.getElem?_eq_getElem hj]
      have := List.findIdx_getElem (p := fun q => q == n) (xs := bs) (w := hj)
      rw [beq_iff_eq] at this
      rw [this]
    have hno : ∀ m, m < j → ∀ z, bs[m]? = some z → ¬ z = n := by
      subst hjj
      intro m hm z hz e
      have := List.not_of_lt_findIdx hm
      rw [List.getElem?_eq_getElem (by omega)] at hz
      have hz := Option.some.inj hz
      rw [hz, e] at this; simp at this
    refine ⟨_, rfl, .inl ⟨rfl, _, SqL.of (hs _ _ ha)⟩, _, rfl, a, nvs bs, nv n, j, nv n, rfl, rfl, SqL.of (hs _ _ ha), rfl, flat_nvs bs, by unfold nvs; rw [List.getElem?_map, hjn]; rfl, by show ((n : Int) == (n : Int)) = true; simp, ?_, ?_⟩
    · intro m z' hm hz
      unfold nvs at hz
      rw [List.getElem?_map] at hz
      cases e : bs[m]? with
      | none => rw [e] at hz; cases hz
      | some z =>
        rw [e] at hz; cases hz
        have := hno m hm z e
        show ((z : Int) == (n : Int)) = false
        exact beq_eq_false_iff_ne.mpr (by omega)
    · refine ⟨sz0, fun q hq => ?_⟩
      have o1 : Own D H D (upd H q (.lst [])) q (.lst []) := Own.mk' (Grow.refl hs) hq
      refine ⟨_, rfl, _, _, rfl, rfl, _, _, rfl, rfl, _, rfl, ?_⟩
      rw [decide_eq_true (by omega)]
      refine iteT ⟨_, rfl, .inl ⟨rfl, _, SqL.of o1.at_⟩, _, rfl, _, rfl, _, _, rfl, rfl, D, l, r, true, j + 1, cv, rfl, o1.g.s, hpr, by omega, fun D2 H2 v2 g2 b2 => ?_⟩
      have o2 := o1.call g2
      refine ⟨q, [], v2, rfl, rfl, o2.at_, by decide, ?_⟩
      have o3 := o2.set (u' := .lst ([] ++ [v2]))
      refine ⟨_, rfl, _, bs.length, rfl, .inl ⟨_, SqL.of (o3.g.s _ _ (o3.g.d _ _ ha)), by simp⟩, _, rfl, _, _, rfl, rfl, _, _, rfl, rfl, _, rfl, ?_⟩
      rw [decide_eq_true (by omega)]
      refine iteT ⟨_, rfl, .inl ⟨rfl, _, SqL.of o3.at_⟩, _, rfl, _, rfl, _, bs.length, rfl, .inl ⟨_, SqL.of (o3.g.s _ _ (o3.g.d _ _ ha)), by simp⟩, _, rfl, _, _, rfl, rfl, D2, l, r, false, bs.length - j, cv, ?_, o3.g.s, PrV.mono g2.d hpr, by omega, fun D4 H4 v4 g4 b4 => ?_⟩
      · show [cv, V.bl false, V.int ((bs.length : Int) - (j : Int))] ++ [] = _
        rw [show (bs.length : Int) - (j : Int) = ((bs.length - j : Nat) : Int) by omega]; rfl
      have o4 := o3.call g4
      refine ⟨q, [v2], v4, rfl, rfl, o4.at_, by simp; decide, _, rfl, ?_⟩
      obtain ⟨G, S, at5⟩ := Own.fin hs (o4.set (u' := .lst ([v2] ++ [v4])))
      exact k _ _ _ G ⟨q, _, rfl, at5, (b2.mono g4.d).mono S, b4.mono S, trivial⟩
end
end Ps
set_option Elab.async false
set_option linter.all false
set_option maxRecDepth 100000
set_option maxHeartbeats 2000000
/-! Plain laws: positions' texts, keys, order. -/
namespace Ps
open PySem PySem.Spec PyProof.Rows L2 Gd
/-- a position as the program makes it -/
def wfP : Pos → Prop
  | .start k => k ≤ 40
  | .finish k => k ≤ 40
  | .left l r c => wfC l ∧ wfC r ∧ (Vaflxa.isEmptyClass l && Vaflxa.isEmptyClass r) = false ∧ 1 ≤ c ∧ c ≤ 40
  | .right l r c => wfC l ∧ wfC r ∧ (Vaflxa.isEmptyClass l && Vaflxa.isEmptyClass r) = false ∧ 1 ≤ c ∧ c ≤ 40
theorem dec_inj {m n : Nat} (hm : m ≤ 40) (hn : n ≤ 40) (h : Vaflxa.decimal m = Vaflxa.decimal n) : m = n := by
  have key : ∀ m : Fin 41, ∀ n : Fin 41, Vaflxa.decimal m.val = Vaflxa.decimal n.val → m = n := by decide +kernel
  have := key ⟨m, by omega⟩ ⟨n, by omega⟩ h
  exact Fin.mk.inj this
theorem cls_cut {k m : Kl} {a b : Tx} (h : Vaflxa.clsText k ++ a = Vaflxa.clsText m ++ b) : k = m ∧ a = b := by
  cases k <;> cases m <;> simp [Vaflxa.clsText] at h <;> first | exact ⟨rfl, h⟩ | (obtain ⟨rfl, rfl⟩ := h; exact ⟨rfl, rfl⟩)
theorem cls_head (k : Kl) : ∃ c s, Vaflxa.clsText k = c :: s ∧ c ≠ 43 ∧ c ≠ 45 := by
  cases k <;> exact ⟨_, _, rfl, by decide, by decide⟩
theorem text_inj {p q : Pos} (hp : wfP p) (hq : wfP q) (h : Vaflxa.posText p = Vaflxa.posText q) : p = q := by
  have nc : ∀ (l : Kl) (s u : Tx), 43 :: s = Vaflxa.clsText l ++ u → False := fun l s u e => by
    obtain ⟨c, z, e1, e2, _⟩ := cls_head l
    rw [e1] at e; exact e2 (List.cons.inj e).1.symm
  have nc' : ∀ (l : Kl) (s u : Tx), 45 :: s = Vaflxa.clsText l ++ u → False := fun l s u e => by
    obtain ⟨c, z, e1, _, e2⟩ := cls_head l
    rw [e1] at e; exact e2 (List.cons.inj e).1.symm
  cases p with
  | start k => cases q with
    | start m =>
      simp [Vaflxa.posText] at h
      rw [dec_inj hp hq h]
    | finish m => simp [Vaflxa.posText] at h
    | left l r c => exact (nc _ _ _ h).elim
    | right l r c => exact (nc _ _ _ h).elim
  | finish k => cases q with
    | start m => simp [Vaflxa.posText] at h
    | finish m =>
      simp [Vaflxa.posText] at h
      rw [dec_inj hp hq h]
    | left l r c => exact (nc' _ _ _ h).elim
    | right l r c => exact (nc' _ _ _ h).elim
  | left l r c => cases q with
    | start m => exact (nc _ _ _ h.symm).elim
    | finish m => exact (nc' _ _ _ h.symm).elim
    | left l' r' c' =>
      obtain ⟨rfl, h1⟩ := cls_cut h
      have h1 := (List.cons.inj h1).2
      obtain ⟨rfl, h2⟩ := cls_cut h1
      have h2 := (List.cons.inj h2).2
      rw [dec_inj hp.2.2.2.2 hq.2.2.2.2 h2]
    | right l' r' c' =>
      obtain ⟨rfl, h1⟩ := cls_cut h
      have h1 := (List.cons.inj h1).2
      obtain ⟨rfl, h2⟩ := cls_cut h1
      have h2 := (List.cons.inj h2).1
      exact absurd h2 (by decide)
  | right l r c => cases q with
    | start m => exact (nc _ _ _ h.symm).elim
    | finish m => exact (nc' _ _ _ h.symm).elim
    | right l' r' c' =>
      obtain ⟨rfl, h1⟩ := cls_cut h
      have h1 := (List.cons.inj h1).2
      obtain ⟨rfl, h2⟩ := cls_cut h1
      have h2 := (List.cons.inj h2).2
      rw [dec_inj hp.2.2.2.2 hq.2.2.2.2 h2]
    | left l' r' c' =>
      obtain ⟨rfl, h1⟩ := cls_cut h
      have h1 := (List.cons.inj h1).2
      obtain ⟨rfl, h2⟩ := cls_cut h1
      have h2 := (List.cons.inj h2).1
      exact absurd h2 (by decide)
theorem findIdx_le {l : List Nat} {n : Nat} (h : n ∈ l) : (l.findIdx fun q => q == n) < l.length := List.findIdx_lt_length_of_exists ⟨n, h, by simp⟩
theorem wf_allAt {t : Tx} (hg : good t) {p : Nat} (hp : p ≤ t.length) : ∀ q ∈ allAt t p, wfP q := by
  intro q hq
  have hl := hg.1
  unfold allAt at hq
  rw [List.mem_append] at hq
  rcases hq with hq | hq
  · simp at hq
    rcases hq with rfl | rfl
    · show p ≤ 40; omega
    · show t.length - p ≤ 40; omega
  · rw [List.mem_flatMap] at hq
    obtain ⟨⟨l, r⟩, h1, h2⟩ := hq
    obtain ⟨e1, e2, e3⟩ := mem_prs.mp h1
    have hb := borders_le (t := t) e3
    have hi := findIdx_le (mem_borders hp h1)
    unfold twoAt at h2
    simp at h2
    rcases h2 with rfl | rfl
    · exact ⟨wf_endings e1, wf_beginnings e2, e3, by omega, by omega⟩
    · exact ⟨wf_endings e1, wf_beginnings e2, e3, by omega, by omega⟩
theorem nodup_allAt (t : Tx) (p : Nat) : (allAt t p).Nodup := by
  unfold allAt
  rw [List.nodup_append]
  refine ⟨by simp, nodup_flatMap (nodup_prs t p) (fun k _ => by unfold twoAt; simp) ?_, ?_⟩
  · rintro ⟨l, r⟩ _ ⟨l', r'⟩ _ hne x hx hy
    unfold twoAt at hx hy
    simp at hx hy
    rcases hx with rfl | rfl <;> rcases hy with hy | hy <;> cases hy <;> exact hne rfl
  · intro a ha b hb e
    subst e
    rw [List.mem_flatMap] at hb
    obtain ⟨k, _, h2⟩ := hb
    unfold twoAt at h2
    simp at ha h2
    rcases ha with rfl | rfl <;> rcases h2 with h2 | h2 <;> cases h2
theorem nodup_on {α β : Type} {f : α → β} {xs : List α} (hf : ∀ a ∈ xs, ∀ b ∈ xs, f a = f b → a = b) (h : xs.Nodup) : (xs.map f).Nodup := by
  induction xs with
  | nil => exact List.nodup_nil
  | cons x xs ih =>
    rw [List.nodup_cons] at h
    rw [List.map_cons, List.nodup_cons]
    refine ⟨fun z => ?_, ih (fun a ha b hb => hf a (List.mem_cons_of_mem _ ha) b (List.mem_cons_of_mem _ hb)) h.2⟩
    rw [List.mem_map] at z
    obtain ⟨y, hy, e⟩ := z
    have := hf y (List.mem_cons_of_mem _ hy) x List.mem_cons_self e
    exact h.1 (this ▸ hy)
theorem texts_allAt {t : Tx} (hg : good t) {p : Nat} (hp : p ≤ t.length) : ((allAt t p).map Vaflxa.posText).Nodup :=
  nodup_on (fun a ha b hb e => text_inj (wf_allAt hg hp a ha) (wf_allAt hg hp b hb) e) (nodup_allAt t p)
/-- what positions and pieces are put in order by -/
def ckey (c : Nat) (t : Tx) : PyData := .tuple [.int (c : Nat), dT t]
def posKey (p : Pos) : PyData := ckey (Vaflxa.posCost p) (Vaflxa.posText p)
theorem alike_ints : ∀ s t : Tx, PySem.W.alikeAll (s.map fun c => .int (c.toNat : Int)) (t.map fun c => .int (c.toNat : Int)) = true
  | [], _ => rfl
  | _ :: _, [] => rfl
  | c :: s, d :: t => by
    show (PySem.W.alike (.int _) (.int _) && PySem.W.alikeAll (s.map fun c => .int (c.toNat : Int)) (t.map fun c => .int (c.toNat : Int))) = true
    rw [alike_ints s t]; rfl
theorem alike_ckey (c d : Nat) (s t : Tx) : PySem.W.alike (ckey c s) (ckey d t) = true := by
  show (PySem.W.alike (.int (c : Nat)) (.int (d : Nat)) && (PySem.W.alike (dT s) (dT t) && true)) = true
  rw [show PySem.W.alike (dT s) (dT t) = true from alike_ints s t]; rfl
theorem depth_ckey (c : Nat) (t : Tx) : (ckey c t).depth ≤ 8 := by
  show max 0 (max (PyData.depth (dT t)) 0) + 1 ≤ 8
  have : PyData.depth (dT t) = 1 := by
    show PyData.depthAll (t.map fun c => .int (c.toNat : Int)) + 1 = 1
    rw [(shaped_ints t).2]
  rw [this]; decide
theorem allAlike_ckey {β : Type} (f : β → Nat) (g : β → Tx) (xs : List β) : PySem.W.AllAlike (xs.map fun x => ckey (f x) (g x)) := by
  intro d hd d' hd'
  rw [List.mem_map] at hd hd'
  obtain ⟨_, _, rfl⟩ := hd
  obtain ⟨_, _, rfl⟩ := hd'
  exact alike_ckey _ _ _ _
theorem sortable_ckey {β : Type} (f : β → Nat) (g : β → Tx) (xs : List β) : PySem.W.Sortable (xs.map fun x => ckey (f x) (g x)) := by
  refine .inl fun d hd => ?_
  rw [List.mem_map] at hd
  obtain ⟨_, _, rfl⟩ := hd
  exact ⟨_, _, rfl⟩
def posLe : Pos → Pos → Bool := PySem.W.dataLe false posKey
def ordAt (t : Tx) (p : Nat) : List Pos := (allAt t p).mergeSort posLe
/-! ### dicts -/
theorem getE_none {xs : List Ent} {k : NestedKey} : getE xs k = none ↔ k ∉ xs.map (·.1) := by
  unfold getE
  rw [Option.map_eq_none_iff, List.find?_eq_none]
  constructor
  · intro h hk
    rw [List.mem_map] at hk
    obtain ⟨e, he, rfl⟩ := hk
    have := h e he
    simp at this
  · intro h e he z
    exact h (List.mem_map.mpr ⟨e, he, of_decide_eq_true z⟩)
theorem All2.keys {K : PySem.W.Frag} {CP : Addr} {D : Hp} : ∀ {xs : List Ent} {ps : List Pos}, All2 (EntP K CP D) xs ps → xs.map (·.1) = ps.map fun p => kT (Vaflxa.posText p)
  | [], [], _ => rfl
  | e :: xs, p :: ps, ⟨h1, h2⟩ => by rw [List.map_cons, List.map_cons, h1.1, All2.keys h2]
  | [], _ :: _, z => z.elim
  | _ :: _, [], z => z.elim
theorem putE_new {xs : List Ent} {k : NestedKey} {kv v : V} (h : getE xs k = none) : putE xs k kv v = xs ++ [(k, kv, v)] := by
  unfold putE; rw [h]; rfl
end Ps
set_option Elab.async false
set_option linter.all false
set_option maxRecDepth 100000
set_option maxHeartbeats 2000000
namespace Ps
open PySem PySem.Spec PyProof.Rows L2 Gd
section
variable {P : Program} {w : World} {K : PySem.W.Frag} {mg : Str → Option Value} {base : Heap} {CP CB CPs CPc CS CC : Addr} {f : Addr} {fd : FuncData}
def sp_positions_at (w : World) (K : PySem.W.Frag) (CP CB CPs CPc CS CC : Addr) : Sp := fun vs H Q _ => ∃ (D : Hp) (t : Tx) (n : Nat) (fv b : V), vs = [fv, b, nv n] ∧ Sub D H ∧ BL D fv t ∧ good t ∧ n ≤ t.length ∧ BDict K w D b t ∧ ∀ D' H' v, Grow [] D H D' H' → PLs K CP D' v (allAt t n) → Q v H'
abbrev s_positions_at : Stmt := topS 24
theorem sc_positions_at : FnScope ["field", "borders", "place", "found", "classes"] ["field", "borders", "place"] (defScope s_positions_at) := ⟨rfl, rfl, rfl, by decide +kernel, rfl, by decide +kernel, by decide +kernel⟩
theorem ok_positions_at (F : Fun K "positions_at" "positions_at" s_positions_at f fd) (T : Txt K mg CP CB CPs CPc CS CC) (C_border_positions : Def P w K mg base 4 "border_positions" ["borders", "place", "classes"] (sp_border_positions w K CP CB CPs CPc CS CC)) (C_class_pairs : Def P w K mg base 5 "class_pairs" ["field", "place"] (sp_class_pairs w K CP CB CPs CPc CS CC)) (C_counted_place : Def P w K mg base 3 "counted_place" ["from_left", "number"] (sp_counted_place w K CP CB CPs CPc CS CC)) : FnOk P w K mg base CX0 6 f fd ["field", "borders", "place"] (sp_positions_at w K CP CB CPs CPc CS CC) := by
  refine F.ok sc_positions_at (fun vs H Q E h => ?_) (fun cdv A outer s H vs Q E hr h => ?_)
  · obtain ⟨_, _, _, _, _, rfl, _⟩ := h; rfl
  · obtain ⟨D, t, n, fv, b, rfl, hs, hb, hg, hn, hbd, k⟩ := h
    refine ⟨_, (pss_cons (ps_set (i := 3) sc_positions_at.nd rfl (by first | exact Or.inl rfl | exact Or.inr rfl) (pe_lst (pa_cons (pe_callD C_counted_place (hr.mono (by decide)) (by rfl) (pa_cons pe_bl (pa_cons (pv 2) pa_nil))) (pa_cons (pe_callD C_counted_place (hr.mono (by decide)) (by rfl) (pa_cons pe_bl (pa_cons (pe_op op_sub (pe_callB call_len (by rfl) T.m_len b_len (pa_cons (pv 0) pa_nil)) (pv 2)) pa_nil))) pa_nil))))
      (pss_cons (ps_for PassesOwn.never rfl (pi_list (pe_callD C_class_pairs (hr.mono (by decide)) (by rfl) (pa_cons (pv 0) (pa_cons (pv 2) pa_nil)))) (pg_name (i := 4) sc_positions_at.nd rfl (by first | exact Or.inl rfl | exact Or.inr rfl)) (pss_one (ps_expr (pe_bm PySem.F.plainAttrs_list PySem.F.slot_list_extend PySem.F.type_list_extend mt_extend (pv 3) (pa_cons (pe_callD C_border_positions (hr.mono (by decide)) (by rfl) (pa_cons (pe_getG hr.units (pv 1) (pv 4) (fun _ _ => rfl)) (pa_cons (pv 2) (pa_cons (pv 4) pa_nil)))) pa_nil)))))
      (pss_one (ps_ret (pv 3))))), ?_⟩
    have hl := hg.1
    obtain ⟨af, rfl, haf⟩ := id hb
    refine ⟨_, rfl, D, true, n, rfl, hs, by omega, fun D1 H1 v1 g1 b1 => ?_⟩
    refine ⟨_, rfl, _, t.length, rfl, .inl ⟨_, SqL.of (g1.s _ _ (g1.d _ _ haf)), by simp⟩, _, rfl, _, _, rfl, rfl, D1, false, t.length - n, ?_, g1.s, by omega, fun D2 H2 v2 g2 b2 => ?_⟩
    · show [V.bl false, V.int ((t.length : Int) - (n : Int))] ++ [] = _
      rw [show (t.length : Int) - (n : Int) = ((t.length - n : Nat) : Int) by omega]; rfl
    refine ⟨sz2, fun q hq => ?_⟩
    have g12 := g1.trans g2
    have g3 : Grow [] D2 H2 D2 (upd H2 q (.lst [v1, v2])) := (Grow.refl g2.s).tmp hq
    refine ⟨_, rfl, _, rfl, D2, t, n, .ref af, rfl, g3.s, hb.mono g12.d, hg, fun D3 H3 v3 g4 c3 => ?_⟩
    obtain ⟨a3, xs3, rfl, e3, z3⟩ := c3
    have gp := (g12.trans g3).trans g4
    have hqn : H q = none := g12.newOf hq
    have hq3 : H3 q = some (.lst [v1, v2]) := g4.h q _ (by simp) upd_same
    have hd3 : D3 q = none := g4.keep (by rw [upd_same]; exact Option.some_ne_none _) (g2.s.none hq)
    have hlen := z3.length
    have hpl := prs_le t n
    refine ⟨a3, rfl, ⟨xs3, SqL.of (g4.s _ _ e3)⟩, for_it (walk_list (xs := xs3)) (fun i σ H' => ∃ x4 D' acc, σ = [some (.ref af), some b, some (nv n), some (.ref q), x4] ∧ Grow [q] D3 H3 D' H' ∧ H' q = some (.lst acc) ∧ acc.length = 2 + 2 * i ∧ All2 (PosAt K CP D') acc ([.start n, .finish (t.length - n)] ++ ((prs t n).take i).flatMap fun k => twoAt t n k.1 k.2)) ?_ ?_ ?_ ?_⟩
    · exact ⟨_, D3, [v1, v2], rfl, Grow.refl gp.s, hq3, rfl, (b1.mono g2.d).mono g4.d, b2.mono g4.d, trivial⟩
    · rintro i σ H' hi ⟨x4, D', acc, rfl, g, _⟩
      exact SqL.of (g.s _ _ (g.d _ _ e3))
    · rintro i x σ H0 H' hi ⟨x4, D', acc, rfl, g, hacc, hal, z⟩ ⟨rfl, hx⟩
      obtain ⟨kl, hkl, bkl⟩ := z3.get hx
      have hmem : kl ∈ prs t n := List.mem_of_getElem? hkl
      obtain ⟨m1, m2, m3⟩ := mem_prs.mp (show (kl.1, kl.2) ∈ prs t n from hmem)
      have hbn := mem_borders hn (show (kl.1, kl.2) ∈ prs t n from hmem)
      obtain ⟨d, xs, ep, rfl, hd, hks, hall⟩ := BDict.mono (gp.d.trans g.d) hbd
      rcases hall kl.1 kl.2 (wf_endings m1) (wf_beginnings m2) m3 with ⟨hz, _⟩ | ⟨ab, hget, hab⟩
      · rw [hz] at hbn; exact nomatch hbn
      have bkl' := PrV.mono g.d bkl
      refine ⟨_, rfl, .inl ⟨rfl, acc, SqL.of hacc⟩, _, rfl, _, rfl, d, xs, ep, kP kl.1 kl.2, .ref ab, ⟨rfl, g.s _ _ hd, GKeys.up g.s hks, KeyOf.up g.s bkl'.key⟩, hget, _, rfl, _, rfl, ?_⟩
      refine ⟨D', kl.1, kl.2, _, n, x, ab, rfl, g.s, hab, bkl', hbn, Nat.le_trans (borders_le m3) hl, fun D5 H5 v5 g5 b5 => ?_⟩
      obtain ⟨a5, xs5, rfl, e5, z5⟩ := b5
      have hq5 : H5 q = some (.lst acc) := g5.h q _ (by simp) hacc
      have h5 := z5.length
      have h5' : xs5.length = 2 := h5
      refine ⟨q, a5, acc, xs5, rfl, rfl, hq5, g5.s _ _ e5, small_le (by omega), ?_⟩
      have g6 : Grow [q] D3 H3 D5 H5 := g.trans g5.anyM
      have hd6 : D5 q = none := (g6.n q (ne_none hq3)).trans hd3
      refine ⟨_, D5, acc ++ xs5, rfl, g6.write (.inr (List.mem_singleton.mpr rfl)) hd6, upd_same, by rw [List.length_append]; omega, ?_⟩
      rw [flatMap_take _ _ _ _ hkl, ← List.append_assoc]
      exact (z.mono fun _ _ q => PosAt.mono g5.d q).app z5
    · rintro σ H' ⟨x4, D', acc, rfl, g, hacc, hal, z⟩
      refine ⟨_, rfl, ?_⟩
      rw [List.take_of_length_le (by omega)] at z
      have G := gp.own g hqn
      exact k _ _ _ (G.all hs) ⟨q, acc, rfl, by rw [Fz.new hqn]; exact hacc, z.mono fun _ _ q => PosAt.mono G.sub q⟩
def sp_ahead_key (w : World) (K : PySem.W.Frag) (CP CB CPs CPc CS CC : Addr) : Sp := fun vs H Q _ => ∃ a C dx fs c tt, vs = [.ref a] ∧ H a = some (.ins C dx fs) ∧ Cls K C ∧ NoAttr K C "cost" ∧ NoAttr K C "text" ∧ fs.lookup ("cost" : Str) = some c ∧ fs.lookup ("text" : Str) = some tt ∧ ∀ p, H p = none → Q (.ref p) (upd H p (.tup [c, tt]))
abbrev s_ahead_key : Stmt := topS 25
theorem sc_ahead_key : FnScope ["one"] ["one"] (defScope s_ahead_key) := ⟨rfl, rfl, rfl, by decide +kernel, rfl, by decide +kernel, by decide +kernel⟩
theorem ok_ahead_key (F : Fun K "ahead_key" "ahead_key" s_ahead_key f fd) (T : Txt K mg CP CB CPs CPc CS CC)  : FnOk P w K mg base CX0 1 f fd ["one"] (sp_ahead_key w K CP CB CPs CPc CS CC) := by
  refine F.ok sc_ahead_key (fun vs H Q E h => ?_) (fun cdv A outer s H vs Q E hr h => ?_)
  · obtain ⟨_, _, _, _, _, _, rfl, _⟩ := h; rfl
  · obtain ⟨a, C, dx, fs, c, tt, rfl, ha, hc, n1, n2, l1, l2, k⟩ := h
    refine ⟨_, (pss_one (ps_ret (pe_tup (pa_cons (pe_fld (pv 0) rfl) (pa_cons (pe_fld (pv 0) rfl) pa_nil))))), ?_⟩
    exact ⟨_, rfl, a, C, dx, fs, c, rfl, ha, hc, n1, l1, _, rfl, a, C, dx, fs, tt, rfl, ha, hc, n2, l2, sz2, fun p hp => k p hp⟩
end
end Ps
set_option Elab.async false
set_option linter.all false
set_option maxRecDepth 100000
set_option maxHeartbeats 2000000
namespace Ps
open PySem PySem.Spec PyProof.Rows L2 Gd
theorem lookup_posFs (tt cv : V) (p : Pos) : (posFs tt cv p).lookup ("text" : Str) = some tt ∧ (posFs tt cv p).lookup ("cost" : Str) = some (.int (Vaflxa.posCost p : Nat)) ∧ (posFs tt cv p).lookup ("classes" : Str) = some cv ∧
    (posFs tt cv p).lookup ("from_left" : Str) = some (.bl (fromLeft p)) ∧ (posFs tt cv p).lookup ("number" : Str) = some (.int (numOf p : Nat)) := ⟨rfl, rfl, rfl, rfl, rfl⟩
theorem all2_zip {α β : Type} {R : α → β → Prop} : ∀ {as : List α} {bs : List β}, All2 R as bs → (as.zip bs).map Prod.fst = as ∧ (as.zip bs).map Prod.snd = bs ∧ ∀ x ∈ as.zip bs, R x.1 x.2
  | [], [], _ => ⟨rfl, rfl, fun _ h => nomatch h⟩
  | a :: as, b :: bs, ⟨h1, h2⟩ => by
    obtain ⟨e1, e2, e3⟩ := all2_zip h2
    rw [List.zip_cons_cons]
    refine ⟨by rw [List.map_cons, e1], by rw [List.map_cons, e2], fun x hx => ?_⟩
    rcases List.mem_cons.mp hx with rfl | hx
    · exact h1
    · exact e3 x hx
  | [], _ :: _, z => z.elim
  | _ :: _, [], z => z.elim
theorem all2_of {α β : Type} {R : α → β → Prop} : ∀ {xs : List (α × β)}, (∀ x ∈ xs, R x.1 x.2) → All2 R (xs.map Prod.fst) (xs.map Prod.snd)
  | [], _ => trivial
  | x :: xs, h => ⟨h x List.mem_cons_self, all2_of fun y hy => h y (List.mem_cons_of_mem _ hy)⟩
section
variable {P : Program} {w : World} {K : PySem.W.Frag} {mg : Str → Option Value} {base : Heap} {CP CB CPs CPc CS CC : Addr} {f : Addr} {fd : FuncData}
/-- the order of values that stand for positions -/
theorem sorted_pos {xs : List V} {ps : List Pos} {R : V → Pos → Prop} (z : All2 R xs ps) :
    All2 R (((xs.zip ps).mergeSort (PySem.W.dataLe false fun b => posKey b.2)).map Prod.fst) (ps.mergeSort posLe) := by
  obtain ⟨e1, e2, e3⟩ := all2_zip z
  have h : ((xs.zip ps).mergeSort (PySem.W.dataLe false fun b => posKey b.2)).map Prod.snd = ps.mergeSort posLe := by
    refine (PySem.W.sort_maps (r := PySem.W.dataLe false fun b : V × Pos => posKey b.2) (s := posLe) Prod.snd (fun a _ b _ => rfl)).trans ?_
    rw [e2]
  rw [← h]
  exact all2_of fun x hx => e3 x ((List.mergeSort_perm _ _).mem_iff.mp hx)
def sp_in_order (w : World) (K : PySem.W.Frag) (CP CB CPs CPc CS CC : Addr) : Sp := fun vs H Q _ => ∃ D ps lv, vs = [lv] ∧ Sub D H ∧ PLs K CP D lv ps ∧ (ps.map Vaflxa.posText).Nodup ∧ ps.length ≤ 1000 ∧ ∀ D' H' v, Grow [] D H D' H' → PSet K w CP D' v (ps.mergeSort posLe) → Q v H'
abbrev s_in_order : Stmt := topS 27
theorem sc_in_order : FnScope ["positions", "found", "position"] ["positions"] (defScope s_in_order) := ⟨rfl, rfl, rfl, by decide +kernel, rfl, by decide +kernel, by decide +kernel⟩
theorem ok_in_order (F : Fun K "in_order" "in_order" s_in_order f fd) (T : Txt K mg CP CB CPs CPc CS CC) (C_ahead_key : Def P w K mg base 1 "ahead_key" ["one"] (sp_ahead_key w K CP CB CPs CPc CS CC)) : FnOk P w K mg base CX0 4 f fd ["positions"] (sp_in_order w K CP CB CPs CPc CS CC) := by
  obtain ⟨f_ahead_key, fd_ahead_key, F_ahead_key, m_ahead_key, kp_ahead_key, b_ahead_key⟩ := C_ahead_key.ex
  refine F.ok sc_in_order (fun vs H Q E h => ?_) (fun cdv A outer s H vs Q E hr h => ?_)
  · obtain ⟨_, _, _, rfl, _⟩ := h; rfl
  · obtain ⟨D, ps, lv, rfl, hs, hps, hnd, hlen, k⟩ := h
    refine ⟨_, (pss_cons (ps_set (i := 1) sc_in_order.nd rfl (by first | exact Or.inl rfl | exact Or.inr rfl) pe_newG)
      (pss_cons (ps_for PassesOwn.never rfl (pi_list (pe_callBK (cr_sortedF F_ahead_key (hr.mono (by decide)) b_ahead_key) (by rfl) T.m_sorted b_sorted (pa_cons (pv 0) pa_nil) (pk_cons (pe_ref (by rfl) m_ahead_key) pk_nil))) (pg_name (i := 2) sc_in_order.nd rfl (by first | exact Or.inl rfl | exact Or.inr rfl)) (pss_one (ps_asg (pv 2) (pg_sub (pv 1) (pe_fld (pv 2) rfl) (set_G hr.units)))))
      (pss_one (ps_ret (pv 1))))), ?_⟩
    intro d hd0
    have hdD : D d = none := hs.none hd0
    have g1 : Grow [] D H D (upd H d (GD w d [] 0)) := (Grow.refl hs).tmp hd0
    obtain ⟨a, xs, rfl, ha, z⟩ := hps
    obtain ⟨e1, e2, e3⟩ := all2_zip z
    refine ⟨_, rfl, V × Pos, Prod.fst, fun b => posKey b.2, a, xs.zip ps, rfl, rfl, SqL.of (by rw [e1]; exact g1.s _ _ ha), allAlike_ckey _ _ _, sortable_ckey _ _ _, fun x _ => depth_ckey _ _, ?_, ?_⟩
    · intro x hx H' hH'
      obtain ⟨b, dx, tt, cv, hx1, hx2, hx3, hx4⟩ := e3 x hx
      have sub : Sub D H' := fun c o e => hH' c o (g1.s c o e)
      refine ⟨b, CP, dx, _, _, _, by rw [hx1], sub _ _ hx2, T.clP, T.nP _ (by simp), T.nP _ (by simp), (lookup_posFs tt cv x.2).2.1, (lookup_posFs tt cv x.2).1, fun p hp => ?_⟩
      have sm : Same H' (upd H' p (.tup [.int (Vaflxa.posCost x.2 : Nat), tt])) := (Grow.fresh (M := []) sub hp).same
      exact ⟨sm, .tup (SqT.of upd_same) (.cons (.int _) (.cons (Dp.mono (rd_same sm) _ _ (Dp.up sub hx3.dp)) .nil))⟩
    · intro H' p hH' hp hp0
      have g2 : Grow [] D (upd H d (GD w d [] 0)) D H' := Grow.of_same g1.s hH'
      have g3 : Grow [] D H' D (upd H' p (.lst (((xs.zip ps).mergeSort (PySem.W.dataLe false fun b => posKey b.2)).map Prod.fst))) := (Grow.refl g2.s).tmp hp
      have gp := (g1.trans g2).trans g3
      have z' := sorted_pos z
      have hd3 : (upd H' p (.lst (((xs.zip ps).mergeSort (PySem.W.dataLe false fun b => posKey b.2)).map Prod.fst))) d = some (GD w d [] 0) := g3.h d _ (by simp) (g2.h d _ (by simp) upd_same)
      have hpd : p ≠ d := fun e => by
        rw [e] at hp
        have := g2.h d _ (by simp) (upd_same (o := GD w d [] 0))
        rw [this] at hp; cases hp
      have nd' : ((ps.mergeSort posLe).map Vaflxa.posText).Nodup := ((List.mergeSort_perm ps posLe).map _).nodup_iff.mpr hnd
      have ln' : (ps.mergeSort posLe).length = ps.length := List.length_mergeSort ps
      have hzl := z'.length
      refine ⟨p, rfl, ⟨_, SqL.of upd_same⟩, for_it (walk_list (xs := ((xs.zip ps).mergeSort (PySem.W.dataLe false fun b => posKey b.2)).map Prod.fst)) (fun i σ H2 => ∃ x2 es ep, σ = [some (.ref a), some (.ref d), x2] ∧ Grow [d] D (upd H' p (.lst (((xs.zip ps).mergeSort (PySem.W.dataLe false fun b => posKey b.2)).map Prod.fst))) D H2 ∧ H2 d = some (GD w d es ep) ∧ All2 (EntP K CP D) es ((ps.mergeSort posLe).take i)) ?_ ?_ ?_ ?_⟩
      · exact ⟨_, [], 0, rfl, Grow.refl gp.s, hd3, trivial⟩
      · rintro i σ H2 hi ⟨x2, es, ep, rfl, g, _⟩
        exact SqL.of (g.h p _ (by simp [hpd]) upd_same)
      · rintro i x σ H0 H2 hi ⟨x2, es, ep, rfl, g, hat, zz⟩ ⟨rfl, hx⟩
        obtain ⟨q, hq, b, dx, tt, cv, rfl, hb, htt, hcv⟩ := z'.get hx
        have key : KeyOf K D (kT (Vaflxa.posText q)) tt := htt.key
        have hno : getE es (kT (Vaflxa.posText q)) = none := by
          rw [getE_none, zz.keys]
          intro hm
          rw [List.mem_map] at hm
          obtain ⟨r, hr, e⟩ := hm
          have e := kT_inj e
          have hsplit : (ps.mergeSort posLe).take (i + 1) = (ps.mergeSort posLe).take i ++ [q] := by rw [List.take_add_one, hq]; rfl
          have nd2 : (((ps.mergeSort posLe).take (i + 1)).map Vaflxa.posText).Nodup := List.Sublist.nodup ((List.take_sublist _ _).map _) nd'
          rw [hsplit, List.map_append, List.nodup_append] at nd2
          exact nd2.2.2 _ (List.mem_map.mpr ⟨r, hr, rfl⟩) _ (by simp) e
        have hel : es.length < sizeLine := by
          have := zz.length
          rw [List.length_take] at this
          exact small_lt (by omega)
        refine ⟨_, rfl, _, rfl, _, rfl, b, CP, dx, _, tt, rfl, g.s _ _ hb, T.clP, T.nP _ (by simp), (lookup_posFs tt cv q).1, d, es, ep, kT (Vaflxa.posText q), ⟨rfl, hat, GKeys.up g.s (gkeys_of zz), KeyOf.up g.s key⟩, hel, fun ep' => ?_⟩
        rw [putE_new hno]
        refine ⟨_, _, ep', rfl, g.write (.inr (List.mem_singleton.mpr rfl)) hdD, upd_same, ?_⟩
        rw [List.take_add_one, hq]
        exact zz.snoc ⟨rfl, htt, b, dx, tt, cv, rfl, hb, htt, hcv⟩
      · rintro σ H2 ⟨x2, es, ep, rfl, g, hat, zz⟩
        refine ⟨_, rfl, ?_⟩
        rw [List.take_of_length_le (by omega)] at zz
        have G := gp.own g hd0
        exact k _ _ _ (G.all hs) ⟨d, es, ep, rfl, by rw [Fz.new hd0]; exact hat, zz.mono fun _ _ q => EntP.mono G.sub q⟩
end
end Ps
set_option Elab.async false
set_option linter.all false
set_option maxRecDepth 100000
set_option maxHeartbeats 2000000
namespace Ps
open PySem PySem.Spec PyProof.Rows L2 Gd
theorem getE_at {xs : List Ent} (h : (xs.map (·.1)).Nodup) {i : Nat} {e : Ent} (he : xs[i]? = some e) : getE xs e.1 = some e.2.2 := by
  unfold getE
  induction xs generalizing i with
  | nil => simp at he
  | cons x xs ih =>
    rw [List.map_cons, List.nodup_cons] at h
    rw [List.find?_cons]
    cases i with
    | zero =>
      simp at he; subst he
      rw [decide_eq_true rfl]; rfl
    | succ i =>
      have he : xs[i]? = some e := by simpa using he
      have hne : ¬ x.1 = e.1 := fun z => h.1 (by rw [z]; exact List.mem_map.mpr ⟨e, List.mem_of_getElem? he, rfl⟩)
      rw [decide_eq_false hne]
      exact ih h.2 he
theorem kT_nodup {ps : List Pos} (h : (ps.map Vaflxa.posText).Nodup) : (ps.map fun p => kT (Vaflxa.posText p)).Nodup := by
  have e : (ps.map fun p => kT (Vaflxa.posText p)) = (ps.map Vaflxa.posText).map kT := by rw [List.map_map]; rfl
  rw [e]
  exact nodup_map (fun a b h => kT_inj h) h
/-- the positions of both, by their texts -/
def meetT (ps qs : List Pos) : List Pos := ps.filter fun p => qs.any fun q => decide (Vaflxa.posText q = Vaflxa.posText p)
theorem isSome_any {K : PySem.W.Frag} {CP : Addr} {D : Hp} {xs : List Ent} {ps : List Pos} (z : All2 (EntP K CP D) xs ps) (t : Tx) : (getE xs (kT t)).isSome = ps.any fun q => decide (Vaflxa.posText q = t) := by
  cases h : getE xs (kT t) with
  | none =>
    rw [getE_none, z.keys] at h
    symm
    show _ = false
    rw [List.any_eq_false]
    intro q hq e
    exact h (List.mem_map.mpr ⟨q, hq, by rw [of_decide_eq_true e]⟩)
  | some v =>
    symm
    show _ = true
    rw [List.any_eq_true]
    have hm : kT t ∈ xs.map (·.1) := by
      by_cases hm : kT t ∈ xs.map (·.1)
      · exact hm
      · rw [getE_none.mpr hm] at h; cases h
    rw [z.keys, List.mem_map] at hm
    obtain ⟨q, hq, e⟩ := hm
    exact ⟨q, hq, decide_eq_true (kT_inj e)⟩
/-- the sets at each place of a field -/
def SetsL (K : PySem.W.Frag) (w : World) (CP : Addr) (D : Hp) (v : V) (t : Tx) : Prop := ∃ a xs, v = .ref a ∧ D a = some (.lst xs) ∧ All2 (PSet K w CP D) xs ((List.range (t.length + 1)).map (ordAt t))
section
variable {P : Program} {w : World} {K : PySem.W.Frag} {mg : Str → Option Value} {base : Heap} {CP CB CPs CPc CS CC : Addr} {f : Addr} {fd : FuncData}
def sp_position_sets (w : World) (K : PySem.W.Frag) (CP CB CPs CPc CS CC : Addr) : Sp := fun vs H Q _ => ∃ D t fv, vs = [fv] ∧ Sub D H ∧ BL D fv t ∧ good t ∧ ∀ D' H' v, Grow [] D H D' H' → SetsL K w CP D' v t → Q v H'
abbrev s_position_sets : Stmt := topS 26
theorem sc_position_sets : FnScope ["field", "borders", "place"] ["field"] (defScope s_position_sets) := ⟨rfl, rfl, rfl, by decide +kernel, rfl, by decide +kernel, by decide +kernel⟩
theorem ok_position_sets (F : Fun K "position_sets" "position_sets" s_position_sets f fd) (T : Txt K mg CP CB CPs CPc CS CC) (C_borders_of : Def P w K mg base 6 "borders_of" ["field"] (sp_borders_of w K CP CB CPs CPc CS CC)) (C_in_order : Def P w K mg base 4 "in_order" ["positions"] (sp_in_order w K CP CB CPs CPc CS CC)) (C_positions_at : Def P w K mg base 6 "positions_at" ["field", "borders", "place"] (sp_positions_at w K CP CB CPs CPc CS CC)) : FnOk P w K mg base CX0 7 f fd ["field"] (sp_position_sets w K CP CB CPs CPc CS CC) := by
  refine F.ok sc_position_sets (fun vs H Q E h => ?_) (fun cdv A outer s H vs Q E hr h => ?_)
  · obtain ⟨_, _, _, rfl, _⟩ := h; rfl
  · obtain ⟨D, t, fv, rfl, hs, hb, hg, k⟩ := h
    refine ⟨_, (pss_cons (ps_set (i := 1) sc_position_sets.nd rfl (by first | exact Or.inl rfl | exact Or.inr rfl) (pe_callD C_borders_of (hr.mono (by decide)) (by rfl) (pa_cons (pv 0) pa_nil)))
      (pss_one (ps_ret (pe_lc (own := [("place", 2)]) (g := gName 2) rfl sc_position_sets.nd (pi_range1 (by rfl) T.m_range (pa_cons (pe_op op_add (pe_callB call_len (by rfl) T.m_len b_len (pa_cons (pv 0) pa_nil)) pe_int) pa_nil)) (blkOk_by (own := [("place", 2)]) (N := ["field", "borders", "place"]) (sc := defScope s_position_sets) (by decide +kernel)) (fun _ _ _ _ _ => pg_name (i := 2) sc_position_sets.nd rfl (Or.inl rfl)) (fun _ _ _ _ _ => pts_nil) (fun _ _ _ _ _ => (pe_callD C_in_order (hr.mono (by decide)) (by rfl) (pa_cons (pe_callD C_positions_at (hr.mono (by decide)) (by rfl) (pa_cons (pv 0) (pa_cons (pv 1) (pa_cons (pv 2) pa_nil)))) pa_nil))))))), ?_⟩
    have hl := hg.1
    refine ⟨_, rfl, D, t, fv, rfl, hs, hb, hg, fun D1 H1 v1 g1 b1 => ?_⟩
    obtain ⟨af, rfl, haf⟩ := id hb
    refine ⟨_, rfl, _, t.length, rfl, .inl ⟨_, SqL.of (g1.s _ _ (g1.d _ _ haf)), by simp⟩, _, _, rfl, rfl, _, rfl, by omega, by omega, fun L hL => ?_⟩
    have ej : ((t.length : Int) + 1).toNat = t.length + 1 := by omega
    rw [ej]
    refine lc_it walk_range0 (fun i H' => ∃ D' acc, Own D1 H1 D' H' L (.lst acc) ∧ acc.length = i ∧ All2 (PSet K w CP D') acc ((List.range i).map (ordAt t))) ?_ ?_ ?_ ?_
    · exact ⟨D1, [], Own.mk' (Grow.refl g1.s) hL, rfl, trivial⟩
    · intros; trivial
    · rintro i x H0 H' hi ⟨D', acc, o, hlen, z⟩ ⟨rfl, rfl⟩
      refine ⟨rfl, _, rfl, _, rfl, _, rfl, D', t, i, .ref af, v1, rfl, o.g.s, hb.mono (g1.d.trans o.g.d), hg, by omega, BDict.mono o.g.d b1, fun D2 H2 v2 g2 b2 => ?_⟩
      refine ⟨D2, allAt t i, v2, rfl, g2.s, b2, texts_allAt hg (by omega), ?_, fun D3 H3 v3 g3 b3 => ?_⟩
      · have h1 := prs_le t i
        rw [allAt_len]; omega
      have o3 := (o.call g2).call g3
      refine ⟨acc, o3.at_, small_lt (by omega), D3, acc ++ [v3], o3.set, by simp [hlen], ?_⟩
      rw [List.range_succ, List.map_append]
      exact (z.mono fun _ _ q => PSet.mono (g2.d.trans g3.d) q).snoc b3
    · rintro H' ⟨D', acc, o, hlen, z⟩
      obtain ⟨G, S, at1⟩ := Own.fin g1.s o
      exact k _ _ _ (g1.trans G) ⟨L, acc, rfl, at1, z.mono fun _ _ q => PSet.mono S q⟩
def sp_common (w : World) (K : PySem.W.Frag) (CP CB CPs CPc CS CC : Addr) : Sp := fun vs H Q _ => ∃ D ps qs v1 v2, vs = [v1, v2] ∧ Sub D H ∧ PSet K w CP D v1 ps ∧ PSet K w CP D v2 qs ∧ (ps.map Vaflxa.posText).Nodup ∧ ps.length ≤ 1000 ∧ ∀ D' H' v, Grow [] D H D' H' → PSet K w CP D' v (meetT ps qs) → Q v H'
abbrev s_common : Stmt := topS 28
theorem sc_common : FnScope ["one", "other", "found", "text"] ["one", "other"] (defScope s_common) := ⟨rfl, rfl, rfl, by decide +kernel, rfl, by decide +kernel, by decide +kernel⟩
theorem ok_common (F : Fun K "common" "common" s_common f fd) (T : Txt K mg CP CB CPs CPc CS CC)  : FnOk P w K mg base CX0 1 f fd ["one", "other"] (sp_common w K CP CB CPs CPc CS CC) := by
  refine F.ok sc_common (fun vs H Q E h => ?_) (fun cdv A outer s H vs Q E hr h => ?_)
  · obtain ⟨_, _, _, _, _, rfl, _⟩ := h; rfl
  · obtain ⟨D, ps, qs, v1, v2, rfl, hs, ⟨d1, xs1, ep1, rfl, hd1, z1⟩, ⟨d2, xs2, ep2, rfl, hd2, z2⟩, hnd, hlen, k⟩ := h
    refine ⟨_, (pss_cons (ps_set (i := 2) sc_common.nd rfl (by first | exact Or.inl rfl | exact Or.inr rfl) pe_newG)
      (pss_cons (ps_for PassesOwn.never rfl (pi_G (pv 0)) (pg_name (i := 3) sc_common.nd rfl (by first | exact Or.inl rfl | exact Or.inr rfl)) (pss_one (ps_if (pt_cmpR (op_inG hr.units) (pv 3) (pv 1) (by rfl)) (pss_one (ps_asg (pe_getG hr.units (pv 0) (pv 3) (fun _ _ => rfl)) (pg_sub (pv 2) (pv 3) (set_G hr.units)))) pss_nil)))
      (pss_one (ps_ret (pv 2))))), ?_⟩
    intro d hd0
    have hdD : D d = none := hs.none hd0
    have g1 : Grow [] D H D (upd H d (GD w d [] 0)) := (Grow.refl hs).tmp hd0
    have hl1 := z1.length
    refine ⟨_, rfl, d1, xs1, ep1, rfl, g1.s _ _ hd1, for_it walk_G (fun i σ H2 => ∃ x3 es ep, σ = [some (.ref d1), some (.ref d2), some (.ref d), x3] ∧ Grow [d] D (upd H d (GD w d [] 0)) D H2 ∧ H2 d = some (GD w d es ep) ∧ All2 (EntP K CP D) es (meetT (ps.take i) qs)) ?_ ?_ ?_ ?_⟩
    · exact ⟨_, [], 0, rfl, Grow.refl g1.s, upd_same, trivial⟩
    · rintro i σ H2 hi ⟨x3, es, ep, rfl, g, _⟩
      exact g.s _ _ hd1
    · rintro i x σ H0 H2 hi ⟨x3, es, ep, rfl, g, hat, zz⟩ ⟨rfl, e, he, rfl⟩
      obtain ⟨q, hq, e1, e2, e3⟩ := z1.get he
      have key : KeyOf K D (kT (Vaflxa.posText q)) e.2.1 := e2.key
      have hget : getE xs1 (kT (Vaflxa.posText q)) = some e.2.2 := by
        rw [← e1]
        exact getE_at (by rw [z1.keys]; exact kT_nodup hnd) he
      have hsp : meetT (ps.take (i + 1)) qs = meetT (ps.take i) qs ++ if (qs.any fun r => decide (Vaflxa.posText r = Vaflxa.posText q)) = true then [q] else [] := filter_take _ _ _ _ hq
      refine ⟨_, rfl, _, rfl, d2, xs2, ep2, kT (Vaflxa.posText q), ⟨rfl, g.s _ _ hd2, GKeys.up g.s (gkeys_of z2), KeyOf.up g.s key⟩, _, rfl, ?_⟩
      rw [isSome_any z2]
      cases hc : qs.any fun r => decide (Vaflxa.posText r = Vaflxa.posText q) with
      | false =>
        refine iteF ⟨_, es, ep, rfl, g, hat, ?_⟩
        rw [hsp, hc, if_neg Bool.false_ne_true, List.append_nil]
        exact zz
      | true =>
        have hno : getE es (kT (Vaflxa.posText q)) = none := by
          rw [getE_none, zz.keys]
          intro hm
          rw [List.mem_map] at hm
          obtain ⟨r, hr, e⟩ := hm
          have e := kT_inj e
          have hr := (List.mem_filter.mp hr).1
          have hsplit : ps.take (i + 1) = ps.take i ++ [q] := by rw [List.take_add_one, hq]; rfl
          have nd2 : ((ps.take (i + 1)).map Vaflxa.posText).Nodup := List.Sublist.nodup ((List.take_sublist _ _).map _) hnd
          rw [hsplit, List.map_append, List.nodup_append] at nd2
          exact nd2.2.2 _ (List.mem_map.mpr ⟨r, hr, rfl⟩) _ (by simp) e
        have hel : es.length < sizeLine := by
          have h1 := zz.length
          have h2 : (meetT (ps.take i) qs).length ≤ (ps.take i).length := List.length_filter_le _ _
          rw [List.length_take] at h2
          exact small_lt (by omega)
        refine iteT ⟨_, rfl, _, rfl, d1, xs1, ep1, kT (Vaflxa.posText q), e.2.2, ⟨rfl, g.s _ _ hd1, GKeys.up g.s (gkeys_of z1), KeyOf.up g.s key⟩, hget, _, rfl, _, rfl, d, es, ep, kT (Vaflxa.posText q), ⟨rfl, hat, GKeys.up g.s (gkeys_of zz), KeyOf.up g.s key⟩, hel, fun ep' => ?_⟩
        rw [putE_new hno]
        refine ⟨_, _, ep', rfl, g.write (.inr (List.mem_singleton.mpr rfl)) hdD, upd_same, ?_⟩
        rw [hsp, hc, if_pos rfl]
        exact zz.snoc ⟨rfl, e2, e3⟩
    · rintro σ H2 ⟨x3, es, ep, rfl, g, hat, zz⟩
      refine ⟨_, rfl, ?_⟩
      rw [List.take_of_length_le (by omega)] at zz
      have G := g1.own g hd0
      exact k _ _ _ (G.all hs) ⟨d, es, ep, rfl, by rw [Fz.new hd0]; exact hat, zz.mono fun _ _ q => EntP.mono G.sub q⟩
end
end Ps
set_option Elab.async false
set_option linter.all false
set_option maxRecDepth 100000
set_option maxHeartbeats 2000000
namespace Ps
open PySem PySem.Spec PyProof.Rows L2 Gd
/-- a place or None -/
def oV : Option Nat → V
  | none => .non
  | some n => nv n
def oK : Option Nat → NestedKey
  | none => .none
  | some n => .num (n : Nat)
theorem oK_of {K : PySem.W.Frag} {H : Hp} (o : Option Nat) : KeyOf K H (oK o) (oV o) := by
  cases o with
  | none => exact ⟨.non, by decide⟩
  | some n => exact ⟨.int _, Nat.zero_le _⟩
theorem oK_inj {a b : Option Nat} (h : oK a = oK b) : a = b := by
  cases a with
  | none => cases b with
    | none => rfl
    | some n => cases h
  | some m => cases b with
    | none => cases h
    | some n =>
      have : (m : Int) = (n : Int) := NestedKey.num.inj h
      rw [show m = n by omega]
theorem rgV0 (n : Nat) : rgV 0 ((n : Nat) : Int) = nvs (List.range n) := by
  unfold rgV nvs
  rw [show (((n : Nat) : Int) - 0).toNat = n by omega]
  exact List.map_congr_left fun i _ => by show V.int (0 + (i : Int)) = V.int (i : Int); rw [Int.zero_add]
theorem at_nvs {bs : List Nat} {i n : Nat} (h : bs[i]? = some n) : atI (nvs bs) ((i : Nat) : Int) = some (nv n) :=
  atI_nat (by unfold nvs; rw [List.getElem?_map, h]; rfl)
theorem placeOf_start (m : Nat) (t : Tx) : Vaflxa.placeOf (.start m) t = (List.range (t.length + 1))[m]? := by
  show (if m ≤ t.length then some m else none) = _
  by_cases h : m ≤ t.length
  · rw [if_pos h, List.getElem?_range (by omega)]
  · rw [if_neg h, List.getElem?_eq_none (by rw [List.length_range]; omega)]
theorem placeOf_finish (m : Nat) (t : Tx) : Vaflxa.placeOf (.finish m) t = if m < t.length + 1 then (List.range (t.length + 1))[t.length + 1 - 1 - m]? else none := by
  show (if m ≤ t.length then some (t.length - m) else none) = _
  by_cases h : m ≤ t.length
  · rw [if_pos h, if_pos (by omega), List.getElem?_range (by omega)]
    rfl
  · rw [if_neg h, if_neg (by omega)]
theorem placeOf_left (l r : Kl) (c : Nat) (t : Tx) (h : 1 ≤ c) : Vaflxa.placeOf (.left l r c) t = (Vaflxa.borders l r t)[c - 1]? := by
  show (if c = 0 then none else (Vaflxa.borders l r t)[c - 1]?) = _
  rw [if_neg (by omega)]
theorem placeOf_right (l r : Kl) (c : Nat) (t : Tx) (h : 1 ≤ c) : Vaflxa.placeOf (.right l r c) t = if c - 1 < (Vaflxa.borders l r t).length then (Vaflxa.borders l r t)[(Vaflxa.borders l r t).length - 1 - (c - 1)]? else none := by
  show (if c = 0 then none else (Vaflxa.borders l r t).reverse[c - 1]?) = _
  rw [if_neg (by omega)]
  by_cases h1 : c - 1 < (Vaflxa.borders l r t).length
  · rw [if_pos h1, List.getElem?_reverse h1]
  · rw [if_neg h1, List.getElem?_eq_none (by rw [List.length_reverse]; omega)]
section
variable {P : Program} {w : World} {K : PySem.W.Frag} {mg : Str → Option Value} {base : Heap} {CP CB CPs CPc CS CC : Addr} {f : Addr} {fd : FuncData}
def sp_place_of (w : World) (K : PySem.W.Frag) (CP CB CPs CPc CS CC : Addr) : Sp := fun vs H Q _ => ∃ D p t v fv b, vs = [v, fv, b] ∧ Sub D H ∧ PosAt K CP D v p ∧ wfP p ∧ BL D fv t ∧ good t ∧ BDict K w D b t ∧ ∀ H', Same H H' → Q (oV (Vaflxa.placeOf p t)) H'
abbrev s_place_of : Stmt := topS 29
theorem sc_place_of : FnScope ["position", "field", "borders", "places", "at"] ["position", "field", "borders"] (defScope s_place_of) := ⟨rfl, rfl, rfl, by decide +kernel, rfl, by decide +kernel, by decide +kernel⟩
theorem ok_place_of (F : Fun K "place_of" "place_of" s_place_of f fd) (T : Txt K mg CP CB CPs CPc CS CC)  : FnOk P w K mg base CX0 1 f fd ["position", "field", "borders"] (sp_place_of w K CP CB CPs CPc CS CC) := by
  refine F.ok sc_place_of (fun vs H Q E h => ?_) (fun cdv A outer s H vs Q E hr h => ?_)
  · obtain ⟨_, _, _, _, _, _, rfl, _⟩ := h; rfl
  · obtain ⟨D, p, t, v, fv, b, rfl, hs, ⟨a, dx, tt, cv, rfl, ha, htt, hcv⟩, hw, ⟨af, rfl, haf⟩, hg, ⟨d, xs, ep, rfl, hd, hks, hall⟩, k⟩ := h
    refine ⟨_, (pss_cons (ps_if (pt_cmpR op_isN (pe_fld (pv 0) rfl) pe_non (nomark _)) (pss_cons (ps_set (i := 3) sc_place_of.nd rfl (by first | exact Or.inl rfl | exact Or.inr rfl) (pe_listRg rfl (by rfl) T.m_list (prg_1 (by rfl) T.m_range (pe_op op_add (pe_callB call_len (by rfl) T.m_len b_len (pa_cons (pv 1) pa_nil)) pe_int))))
      (pss_one (ps_set (i := 4) sc_place_of.nd rfl (by first | exact Or.inl rfl | exact Or.inr rfl) (pe_fld (pv 0) rfl)))) (pss_cons (ps_set (i := 3) sc_place_of.nd rfl (by first | exact Or.inl rfl | exact Or.inr rfl) (pe_bmG PySem.F.slot_dict_get PySem.F.type_dict_get (mt_getG2 hr.units) (pv 2) (pa_cons (pe_fld (pv 0) rfl) (pa_cons (pe_lst pa_nil) pa_nil))))
      (pss_one (ps_set (i := 4) sc_place_of.nd rfl (by first | exact Or.inl rfl | exact Or.inr rfl) (pe_op op_sub (pe_fld (pv 0) rfl) pe_int)))))
      (pss_cons (ps_if (pt_cmpR op_ge (pv 4) (pe_callB call_len (by rfl) T.m_len b_len (pa_cons (pv 3) pa_nil)) (nomark _)) (pss_one (ps_ret pe_non)) pss_nil)
      (pss_cons (ps_if (pt_val (pe_fld (pv 0) rfl)) (pss_one (ps_ret (pe_ix ix_list (pv 3) (pv 4) (fun _ _ => rfl)))) pss_nil)
      (pss_one (ps_ret (pe_ix ix_list (pv 3) (pe_op op_sub (pe_op op_sub (pe_callB call_len (by rfl) T.m_len b_len (pa_cons (pv 3) pa_nil)) pe_int) (pv 4)) (fun _ _ => rfl))))))), ?_⟩
    have hl := hg.1
    have L := lookup_posFs tt cv p
    cases p with
    | start m =>
      cases (show cv = .non from hcv)
      refine ⟨_, rfl, a, CP, dx, _, _, rfl, hs _ _ ha, T.clP, T.nP _ (by simp), L.2.2.1, rfl, _, rfl, iteT ?_⟩
      refine ⟨_, rfl, _, t.length, rfl, .inl ⟨_, SqL.of (hs _ _ haf), by simp⟩, _, _, rfl, rfl, _, rfl, ⟨by omega, by omega, by omega, by omega, by omega⟩, fun q hq => ?_⟩
      rw [show ((t.length : Nat) : Int) + 1 = ((t.length + 1 : Nat) : Int) by omega, rgV0]
      have g1 : Grow [] D H D (upd H q (.lst (nvs (List.range (t.length + 1))))) := (Grow.refl hs).tmp hq
      have hq1 : upd H q (.lst (nvs (List.range (t.length + 1)))) q = some (.lst (nvs (List.range (t.length + 1)))) := upd_same
      refine ⟨_, rfl, a, CP, dx, _, _, rfl, g1.s _ _ ha, T.clP, T.nP _ (by simp), L.2.2.2.2, ?_⟩
      rw [show ((numOf (Vaflxa.Pos.start m) : Nat) : Int) = ((m : Nat) : Int) from rfl]
      have hbl : (List.range (t.length + 1)).length = t.length + 1 := List.length_range
      have hk : ∀ H', Same H H' → Q (oV (Vaflxa.placeOf (.start m) t)) H' := k
      clear k
      have k := hk
      have pl := placeOf_start m t
      generalize List.range (t.length + 1) = bs at *
      try rw [← hbl] at pl
      refine ⟨_, rfl, _, rfl, _, bs.length, rfl, .inl ⟨_, SqL.of hq1, by simp⟩, _, _, rfl, rfl, _, rfl, ?_⟩
      by_cases hj : m < bs.length
      · rw [decide_eq_false (p := ((bs.length : Nat) : Int) ≤ ((m : Nat) : Int)) (by omega)]
        refine iteF ⟨_, rfl, a, CP, dx, _, _, rfl, g1.s _ _ ha, T.clP, T.nP _ (by simp), L.2.2.2.1, _, rfl, ?_⟩
        have hget : bs[m]? = some (bs[m]) := by simp [hj]
        refine iteT ⟨_, rfl, _, rfl, q, _, _, _, rfl, rfl, SqL.of hq1, at_nvs hget, ?_⟩
        rw [pl, hget] at k
        exact k _ g1.same
      · rw [decide_eq_true (p := ((bs.length : Nat) : Int) ≤ ((m : Nat) : Int)) (by omega)]
        refine iteT ?_
        rw [pl, List.getElem?_eq_none (by omega)] at k
        exact k _ g1.same
    | finish m =>
      cases (show cv = .non from hcv)
      refine ⟨_, rfl, a, CP, dx, _, _, rfl, hs _ _ ha, T.clP, T.nP _ (by simp), L.2.2.1, rfl, _, rfl, iteT ?_⟩
      refine ⟨_, rfl, _, t.length, rfl, .inl ⟨_, SqL.of (hs _ _ haf), by simp⟩, _, _, rfl, rfl, _, rfl, ⟨by omega, by omega, by omega, by omega, by omega⟩, fun q hq => ?_⟩
      rw [show ((t.length : Nat) : Int) + 1 = ((t.length + 1 : Nat) : Int) by omega, rgV0]
      have g1 : Grow [] D H D (upd H q (.lst (nvs (List.range (t.length + 1))))) := (Grow.refl hs).tmp hq
      have hq1 : upd H q (.lst (nvs (List.range (t.length + 1)))) q = some (.lst (nvs (List.range (t.length + 1)))) := upd_same
      refine ⟨_, rfl, a, CP, dx, _, _, rfl, g1.s _ _ ha, T.clP, T.nP _ (by simp), L.2.2.2.2, ?_⟩
      rw [show ((numOf (Vaflxa.Pos.finish m) : Nat) : Int) = ((m : Nat) : Int) from rfl]
      have hbl : (List.range (t.length + 1)).length = t.length + 1 := List.length_range
      have hk : ∀ H', Same H H' → Q (oV (Vaflxa.placeOf (.finish m) t)) H' := k
      clear k
      have k := hk
      have pl := placeOf_finish m t
      generalize List.range (t.length + 1) = bs at *
      try rw [← hbl] at pl
      refine ⟨_, rfl, _, rfl, _, bs.length, rfl, .inl ⟨_, SqL.of hq1, by simp⟩, _, _, rfl, rfl, _, rfl, ?_⟩
      by_cases hj : m < bs.length
      · rw [decide_eq_false (p := ((bs.length : Nat) : Int) ≤ ((m : Nat) : Int)) (by omega)]
        refine iteF ⟨_, rfl, a, CP, dx, _, _, rfl, g1.s _ _ ha, T.clP, T.nP _ (by simp), L.2.2.2.1, _, rfl, ?_⟩
        have hj2 : bs.length - 1 - m < bs.length := by omega
        have hget : bs[bs.length - 1 - m]? = some (bs[bs.length - 1 - m]) := by simp [hj2]
        refine iteF ⟨_, rfl, _, rfl, _, bs.length, rfl, .inl ⟨_, SqL.of hq1, by simp⟩, _, _, rfl, rfl, _, rfl, _, _, rfl, rfl, q, nvs bs, _, nv (bs[bs.length - 1 - m]), rfl, rfl, SqL.of hq1, ?_, ?_⟩
        · have e : ((bs.length : Nat) : Int) - 1 - ((m : Nat) : Int) = ((bs.length - 1 - m : Nat) : Int) := by omega
          rw [e]
          exact at_nvs hget
        · have k1 := k _ g1.same
          rw [pl, if_pos hj, hget] at k1
          exact k1
      · rw [decide_eq_true (p := ((bs.length : Nat) : Int) ≤ ((m : Nat) : Int)) (by omega)]
        refine iteT ?_
        have k1 := k _ g1.same
        rw [pl, if_neg hj] at k1
        exact k1
    | left l r c =>
      obtain ⟨w1, w2, w3, w4, w5⟩ := hw
      have hpr : PrV K D cv l r := hcv
      obtain ⟨ac, x, y, rfl, hc1, hc2, hc3⟩ := id hpr
      refine ⟨_, rfl, a, CP, dx, _, _, rfl, hs _ _ ha, T.clP, T.nP _ (by simp), L.2.2.1, rfl, _, rfl, iteF ?_⟩
      refine ⟨_, rfl, ⟨d, xs, ep, rfl, hs _ _ hd⟩, _, rfl, a, CP, dx, _, _, rfl, hs _ _ ha, T.clP, T.nP _ (by simp), L.2.2.1, sz0, fun q hq => ?_⟩
      have g1 : Grow [] D H D (upd H q (.lst [])) := (Grow.refl hs).tmp hq
      have pl := placeOf_left l r c t w4
      obtain ⟨ab, hab, hget0⟩ : ∃ ab, upd H q (.lst []) ab = some (.lst (nvs (Vaflxa.borders l r t))) ∧ (getE xs (kP l r)).getD (.ref q) = .ref ab := by
        rcases hall l r w1 w2 w3 with ⟨z1, z2⟩ | ⟨ab, z1, z2⟩
        · exact ⟨q, by rw [z1]; exact upd_same, by rw [z2]; rfl⟩
        · exact ⟨ab, g1.s _ _ z2, by rw [z1]; rfl⟩
      refine ⟨_, _, d, xs, ep, kP l r, rfl, ⟨rfl, g1.s _ _ hd, GKeys.up g1.s hks, KeyOf.up g1.s hpr.key⟩, ?_⟩
      rw [hget0]
      refine ⟨_, rfl, a, CP, dx, _, _, rfl, g1.s _ _ ha, T.clP, T.nP _ (by simp), L.2.2.2.2, _, _, rfl, rfl, ?_⟩
      have ec : ((numOf (.left l r c) : Nat) : Int) - 1 = ((c - 1 : Nat) : Int) := by show (c : Int) - 1 = _; omega
      dsimp only
      rw [ec]
      generalize Vaflxa.borders l r t = bs at *
      generalize c - 1 = j at *
      refine ⟨_, rfl, _, rfl, _, bs.length, rfl, .inl ⟨_, SqL.of hab, by simp⟩, _, _, rfl, rfl, _, rfl, ?_⟩
      by_cases hj : j < bs.length
      · rw [decide_eq_false (p := ((bs.length : Nat) : Int) ≤ ((j : Nat) : Int)) (by omega)]
        refine iteF ⟨_, rfl, a, CP, dx, _, _, rfl, g1.s _ _ ha, T.clP, T.nP _ (by simp), L.2.2.2.1, _, rfl, ?_⟩
        have hget : bs[j]? = some (bs[j]) := by simp [hj]
        refine iteT ⟨_, rfl, _, rfl, ab, _, _, _, rfl, rfl, SqL.of hab, at_nvs hget, ?_⟩
        rw [pl, hget] at k
        exact k _ g1.same
      · rw [decide_eq_true (p := ((bs.length : Nat) : Int) ≤ ((j : Nat) : Int)) (by omega)]
        refine iteT ?_
        rw [pl, List.getElem?_eq_none (by omega)] at k
        exact k _ g1.same
    | right l r c =>
      obtain ⟨w1, w2, w3, w4, w5⟩ := hw
      have hpr : PrV K D cv l r := hcv
      obtain ⟨ac, x, y, rfl, hc1, hc2, hc3⟩ := id hpr
      refine ⟨_, rfl, a, CP, dx, _, _, rfl, hs _ _ ha, T.clP, T.nP _ (by simp), L.2.2.1, rfl, _, rfl, iteF ?_⟩
      refine ⟨_, rfl, ⟨d, xs, ep, rfl, hs _ _ hd⟩, _, rfl, a, CP, dx, _, _, rfl, hs _ _ ha, T.clP, T.nP _ (by simp), L.2.2.1, sz0, fun q hq => ?_⟩
      have g1 : Grow [] D H D (upd H q (.lst [])) := (Grow.refl hs).tmp hq
      have pl := placeOf_right l r c t w4
      obtain ⟨ab, hab, hget0⟩ : ∃ ab, upd H q (.lst []) ab = some (.lst (nvs (Vaflxa.borders l r t))) ∧ (getE xs (kP l r)).getD (.ref q) = .ref ab := by
        rcases hall l r w1 w2 w3 with ⟨z1, z2⟩ | ⟨ab, z1, z2⟩
        · exact ⟨q, by rw [z1]; exact upd_same, by rw [z2]; rfl⟩
        · exact ⟨ab, g1.s _ _ z2, by rw [z1]; rfl⟩
      refine ⟨_, _, d, xs, ep, kP l r, rfl, ⟨rfl, g1.s _ _ hd, GKeys.up g1.s hks, KeyOf.up g1.s hpr.key⟩, ?_⟩
      rw [hget0]
      refine ⟨_, rfl, a, CP, dx, _, _, rfl, g1.s _ _ ha, T.clP, T.nP _ (by simp), L.2.2.2.2, _, _, rfl, rfl, ?_⟩
      have ec : ((numOf (.right l r c) : Nat) : Int) - 1 = ((c - 1 : Nat) : Int) := by show (c : Int) - 1 = _; omega
      dsimp only
      rw [ec]
      generalize Vaflxa.borders l r t = bs at *
      generalize c - 1 = j at *
      refine ⟨_, rfl, _, rfl, _, bs.length, rfl, .inl ⟨_, SqL.of hab, by simp⟩, _, _, rfl, rfl, _, rfl, ?_⟩
      by_cases hj : j < bs.length
      · rw [decide_eq_false (p := ((bs.length : Nat) : Int) ≤ ((j : Nat) : Int)) (by omega)]
        refine iteF ⟨_, rfl, a, CP, dx, _, _, rfl, g1.s _ _ ha, T.clP, T.nP _ (by simp), L.2.2.2.1, _, rfl, ?_⟩
        have hj2 : bs.length - 1 - j < bs.length := by omega
        have hget : bs[bs.length - 1 - j]? = some (bs[bs.length - 1 - j]) := by simp [hj2]
        refine iteF ⟨_, rfl, _, rfl, _, bs.length, rfl, .inl ⟨_, SqL.of hab, by simp⟩, _, _, rfl, rfl, _, rfl, _, _, rfl, rfl, ab, nvs bs, _, nv (bs[bs.length - 1 - j]), rfl, rfl, SqL.of hab, ?_, ?_⟩
        · have e : ((bs.length : Nat) : Int) - 1 - ((j : Nat) : Int) = ((bs.length - 1 - j : Nat) : Int) := by omega
          rw [e]
          exact at_nvs hget
        · have k1 := k _ g1.same
          rw [pl, if_pos hj, hget] at k1
          exact k1
      · rw [decide_eq_true (p := ((bs.length : Nat) : Int) ≤ ((j : Nat) : Int)) (by omega)]
        refine iteT ?_
        have k1 := k _ g1.same
        rw [pl, if_neg hj] at k1
        exact k1
end
end Ps
set_option Elab.async false
set_option linter.all false
set_option maxRecDepth 100000
set_option maxHeartbeats 2000000
/-! Counts by a key, as a dict holds them. -/
namespace Ps
open PySem PySem.Spec PyProof.Rows L2 Gd
section
variable {κ : Type} [DecidableEq κ]
def cget (cs : List (κ × Nat)) (o : κ) : Option Nat := (cs.find? fun c => decide (c.1 = o)).map (·.2)
def bump (cs : List (κ × Nat)) (o : κ) (n : Nat) : List (κ × Nat) :=
  if (cget cs o).isSome = true then cs.map (fun c => if c.1 = o then (c.1, (cget cs o).getD 0 + n) else c) else cs ++ [(o, (cget cs o).getD 0 + n)]
theorem cget_none {cs : List (κ × Nat)} {o : κ} : cget cs o = none ↔ o ∉ cs.map (·.1) := by
  unfold cget
  rw [Option.map_eq_none_iff, List.find?_eq_none]
  constructor
  · intro h hk
    rw [List.mem_map] at hk
    obtain ⟨e, he, rfl⟩ := hk
    have := h e he
    simp at this
  · intro h e he z
    exact h (List.mem_map.mpr ⟨e, he, of_decide_eq_true z⟩)
theorem cget_cons (c : κ × Nat) (cs : List (κ × Nat)) (o : κ) : cget (c :: cs) o = if c.1 = o then some c.2 else cget cs o := by
  unfold cget
  rw [List.find?_cons]
  by_cases h : c.1 = o
  · rw [decide_eq_true h, if_pos h]; rfl
  · rw [decide_eq_false h, if_neg h]
theorem cget_set (v : Nat) (o o' : κ) : ∀ cs : List (κ × Nat), cget (cs.map fun c => if c.1 = o then (c.1, v) else c) o' = if o = o' then (cget cs o').map fun _ => v else cget cs o'
  | [] => by by_cases h : o = o' <;> simp [cget]
  | c :: cs => by
    rw [List.map_cons, cget_cons, cget_cons, cget_set v o o' cs]
    by_cases h1 : c.1 = o
    · rw [if_pos h1]
      by_cases h2 : c.1 = o'
      · rw [if_pos h2, if_pos h2, if_pos (h1.symm.trans h2)]; rfl
      · rw [if_neg h2, if_neg h2]
    · rw [if_neg h1]
      by_cases h2 : c.1 = o'
      · rw [if_pos h2]
        by_cases h3 : o = o'
        · exact absurd (h2.trans h3.symm) h1
        · rw [if_neg h3, if_pos h2]
      · rw [if_neg h2, if_neg h2]
theorem cget_append (cs : List (κ × Nat)) (o o' : κ) (n : Nat) : cget (cs ++ [(o, n)]) o' = match cget cs o' with
    | some m => some m
    | none => if o = o' then some n else none := by
  induction cs with
  | nil => rw [List.nil_append, cget_cons]; rfl
  | cons c cs ih =>
    rw [List.cons_append, cget_cons, cget_cons, ih]
    by_cases h : c.1 = o'
    · rw [if_pos h, if_pos h]
    · rw [if_neg h, if_neg h]
theorem cget_bump (cs : List (κ × Nat)) (o o' : κ) (n : Nat) : cget (bump cs o n) o' = if o = o' then some ((cget cs o).getD 0 + n) else cget cs o' := by
  unfold bump
  cases h : cget cs o with
  | none =>
    rw [if_neg (by simp), cget_append]
    by_cases e : o = o'
    · subst e; simp [h]
    · rw [if_neg e, if_neg e]; cases cget cs o' <;> rfl
  | some m =>
    rw [if_pos (by simp), cget_set]
    by_cases e : o = o'
    · subst e; rw [h, if_pos rfl]; simp
    · rw [if_neg e, if_neg e]
theorem keys_bump (cs : List (κ × Nat)) (o : κ) (n : Nat) : (bump cs o n).map (·.1) = if o ∈ cs.map (·.1) then cs.map (·.1) else cs.map (·.1) ++ [o] := by
  unfold bump
  cases h : cget cs o with
  | none =>
    rw [if_neg (by simp), if_neg (cget_none.mp h), List.map_append]; rfl
  | some m =>
    have hm : o ∈ cs.map (·.1) := by
      by_cases hm : o ∈ cs.map (·.1)
      · exact hm
      · rw [cget_none.mpr hm] at h; cases h
    rw [if_pos (by simp), if_pos hm, List.map_map]
    refine List.map_congr_left fun c _ => ?_
    show (if c.1 = o then (c.1, _) else c).1 = c.1
    split <;> rfl
theorem nodup_bump {cs : List (κ × Nat)} (h : (cs.map (·.1)).Nodup) (o : κ) (n : Nat) : ((bump cs o n).map (·.1)).Nodup := by
  rw [keys_bump]
  by_cases hm : o ∈ cs.map (·.1)
  · rw [if_pos hm]; exact h
  · rw [if_neg hm, List.nodup_append]
    refine ⟨h, by simp, fun a ha b hb e => ?_⟩
    simp at hb
    subst hb
    exact hm (e ▸ ha)
theorem bump_le (cs : List (κ × Nat)) (o : κ) (n : Nat) : (bump cs o n).length ≤ cs.length + 1 := by
  unfold bump
  split
  · rw [List.length_map]; omega
  · rw [List.length_append]; simp
/-- an entry of a dict of counts -/
def CEnt (RK : V → κ → Prop) (kk : κ → NestedKey) (e : Ent) (c : κ × Nat) : Prop := e.1 = kk c.1 ∧ RK e.2.1 c.1 ∧ e.2.2 = nv c.2
variable {RK : V → κ → Prop} {kk : κ → NestedKey}
theorem cent_get (hi : ∀ a b, kk a = kk b → a = b) (o : κ) : ∀ {xs : List Ent} {cs : List (κ × Nat)}, All2 (CEnt RK kk) xs cs → getE xs (kk o) = (cget cs o).map nv
  | [], [], _ => rfl
  | e :: xs, c :: cs, ⟨⟨h1, h2, h3⟩, t⟩ => by
    rw [cget_cons, show getE (e :: xs) (kk o) = if e.1 = kk o then some e.2.2 else getE xs (kk o) by
      unfold getE
      rw [List.find?_cons]
      by_cases h : e.1 = kk o
      · rw [decide_eq_true h, if_pos h]; rfl
      · rw [decide_eq_false h, if_neg h], cent_get hi o t, h1, h3]
    by_cases h : c.1 = o
    · rw [if_pos h, if_pos (by rw [h])]; rfl
    · rw [if_neg h, if_neg fun z => h (hi _ _ z)]
  | [], _ :: _, z => z.elim
  | _ :: _, [], z => z.elim
theorem cent_put (hi : ∀ a b, kk a = kk b → a = b) {xs : List Ent} {cs : List (κ × Nat)} (z : All2 (CEnt RK kk) xs cs) {o : κ} {kv : V} (hk : RK kv o) (n : Nat) :
    All2 (CEnt RK kk) (putE xs (kk o) kv (nv ((cget cs o).getD 0 + n))) (bump cs o n) := by
  unfold putE bump
  rw [cent_get hi o z]
  have e : ((cget cs o).map nv).isSome = (cget cs o).isSome := by cases cget cs o <;> rfl
  rw [e]
  by_cases h : (cget cs o).isSome = true
  · rw [if_pos h, if_pos h]
    generalize (cget cs o).getD 0 + n = m
    clear e h
    induction xs generalizing cs with
    | nil => cases cs with
      | nil => exact trivial
      | cons _ _ => exact z.elim
    | cons x xs ih => cases cs with
      | nil => exact z.elim
      | cons c cs =>
        obtain ⟨⟨h1, h2, h3⟩, t⟩ := z
        refine ⟨?_, ih t⟩
        show CEnt RK kk (setV (kk o) (nv m) x) (if c.1 = o then (c.1, m) else c)
        unfold setV
        by_cases h : c.1 = o
        · rw [if_pos h, if_pos (by rw [h1, h])]; exact ⟨h1, h2, rfl⟩
        · rw [if_neg h, if_neg (by rw [h1]; exact fun z => h (hi _ _ z))]; exact ⟨h1, h2, h3⟩
  · rw [if_neg h, if_neg h]
    exact z.snoc ⟨rfl, hk, rfl⟩
theorem cent_mono {RK' : V → κ → Prop} (h : ∀ v o, RK v o → RK' v o) {xs : List Ent} {cs : List (κ × Nat)} (z : All2 (CEnt RK kk) xs cs) : All2 (CEnt RK' kk) xs cs := z.mono fun _ _ q => ⟨q.1, h _ _ q.2.1, q.2.2⟩
theorem cent_keys {K : PySem.W.Frag} {D : Hp} (hk : ∀ v o, RK v o → KeyOf K D (kk o) v) {xs : List Ent} {cs : List (κ × Nat)} (z : All2 (CEnt RK kk) xs cs) : GKeys K D xs := by
  intro e he
  obtain ⟨i, hi⟩ := List.mem_iff_getElem?.mp he
  obtain ⟨c, _, e1, e2, _⟩ := z.get hi
  rw [e1]
  exact hk _ _ e2
end
/-- how many of a set stand at which place -/
def cntP (t : Tx) (ps : List Pos) : List (Option Nat × Nat) := ps.foldl (fun cs p => bump cs (Vaflxa.placeOf p t) 1) []
theorem cntP_snoc (t : Tx) (ps : List Pos) (p : Pos) : cntP t (ps ++ [p]) = bump (cntP t ps) (Vaflxa.placeOf p t) 1 := by unfold cntP; rw [List.foldl_append]; rfl
theorem foldl_bump_le {α κ : Type} [DecidableEq κ] (f : α → κ) (n : α → Nat) : ∀ (ps : List α) (cs : List (κ × Nat)), (ps.foldl (fun cs p => bump cs (f p) (n p)) cs).length ≤ cs.length + ps.length
  | [], cs => Nat.le_refl _
  | p :: ps, cs => by
    rw [List.foldl_cons, List.length_cons]
    have h1 := foldl_bump_le f n ps (bump cs (f p) (n p))
    have h2 := bump_le cs (f p) (n p)
    omega
theorem cntP_le (t : Tx) (ps : List Pos) : (cntP t ps).length ≤ ps.length := by
  have := foldl_bump_le (fun p => Vaflxa.placeOf p t) (fun _ => 1) ps []
  simpa [cntP] using this
def PDict (w : World) (D : Hp) (v : V) (cs : List (Option Nat × Nat)) : Prop := ∃ d xs ep, v = .ref d ∧ D d = some (GD w d xs ep) ∧ All2 (CEnt (fun v o => v = oV o) oK) xs cs
theorem PDict.mono {w : World} {D D' : Hp} {v : V} {cs : List (Option Nat × Nat)} (h : Sub D D') (q : PDict w D v cs) : PDict w D' v cs :=
  let ⟨d, xs, ep, e, e1, z⟩ := q; ⟨d, xs, ep, e, h _ _ e1, z⟩
theorem pkeys {K : PySem.W.Frag} {D : Hp} {xs : List Ent} {cs : List (Option Nat × Nat)} (z : All2 (CEnt (fun v o => v = oV o) oK) xs cs) : GKeys K D xs :=
  cent_keys (fun v o e => by rw [e]; exact oK_of o) z
end Ps
set_option Elab.async false
set_option linter.all false
set_option maxRecDepth 100000
set_option maxHeartbeats 2000000
namespace Ps
open PySem PySem.Spec PyProof.Rows L2 Gd
/-- texts with a blank between -/
def told (ts : List Tx) : Tx := List.intercalate [32] ts
theorem told_snoc (ts : List Tx) (t : Tx) : told (ts ++ [t]) = if ts = [] then t else told ts ++ 32 :: t := by
  unfold told
  induction ts with
  | nil => simp [List.intercalate]
  | cons u ts ih =>
    rw [if_neg (List.cons_ne_nil _ _)]
    cases ts with
    | nil => simp [List.intercalate]
    | cons w ws =>
      rw [if_neg (List.cons_ne_nil _ _)] at ih
      have e : ∀ (x y : Tx) (z : List Tx), List.intercalate [32] (x :: y :: z) = x ++ 32 :: List.intercalate [32] (y :: z) := fun x y z => by
        simp [List.intercalate]
      rw [List.cons_append, List.cons_append, e, e, ← List.cons_append, ih]
      simp
theorem told_nil {ts : List Tx} (h : ∀ t ∈ ts, t ≠ []) : told ts = [] ↔ ts = [] := by
  constructor
  · intro e
    cases ts with
    | nil => rfl
    | cons t ts =>
      exfalso
      unfold told List.intercalate at e
      cases ts with
      | nil => simp at e; exact h t (by simp) e
      | cons u ts => simp at e
  · rintro rfl; rfl
def TxL (K : PySem.W.Frag) (D : Hp) (v : V) (ts : List Tx) : Prop := ∃ a xs, v = .ref a ∧ D a = some (.lst xs) ∧ All2 (BT K D) xs ts
section
variable {P : Program} {w : World} {K : PySem.W.Frag} {mg : Str → Option Value} {base : Heap} {CP CB CPs CPc CS CC : Addr} {f : Addr} {fd : FuncData}
def sp_counts_by_place (w : World) (K : PySem.W.Frag) (CP CB CPs CPc CS CC : Addr) : Sp := fun vs H Q _ => ∃ D ps t v fv, vs = [v, fv] ∧ Sub D H ∧ PSet K w CP D v ps ∧ (∀ p ∈ ps, wfP p) ∧ (ps.map Vaflxa.posText).Nodup ∧ ps.length ≤ 1000 ∧ BL D fv t ∧ good t ∧ ∀ D' H' r, Grow [] D H D' H' → PDict w D' r (cntP t ps) → Q r H'
abbrev s_counts_by_place : Stmt := topS 30
theorem sc_counts_by_place : FnScope ["positions", "field", "borders", "found", "text", "place"] ["positions", "field"] (defScope s_counts_by_place) := ⟨rfl, rfl, rfl, by decide +kernel, rfl, by decide +kernel, by decide +kernel⟩
theorem ok_counts_by_place (F : Fun K "counts_by_place" "counts_by_place" s_counts_by_place f fd) (T : Txt K mg CP CB CPs CPc CS CC) (C_borders_of : Def P w K mg base 6 "borders_of" ["field"] (sp_borders_of w K CP CB CPs CPc CS CC)) (C_place_of : Def P w K mg base 1 "place_of" ["position", "field", "borders"] (sp_place_of w K CP CB CPs CPc CS CC)) : FnOk P w K mg base CX0 7 f fd ["positions", "field"] (sp_counts_by_place w K CP CB CPs CPc CS CC) := by
  refine F.ok sc_counts_by_place (fun vs H Q E h => ?_) (fun cdv A outer s H vs Q E hr h => ?_)
  · obtain ⟨_, _, _, _, _, rfl, _⟩ := h; rfl
  · obtain ⟨D, ps, t, v, fv, rfl, hs, ⟨d1, xs1, ep1, rfl, hd1, z1⟩, hw, hnd, hlen, hb, hg, k⟩ := h
    refine ⟨_, (pss_cons (ps_set (i := 2) sc_counts_by_place.nd rfl (by first | exact Or.inl rfl | exact Or.inr rfl) (pe_callD C_borders_of (hr.mono (by decide)) (by rfl) (pa_cons (pv 1) pa_nil)))
      (pss_cons (ps_set (i := 3) sc_counts_by_place.nd rfl (by first | exact Or.inl rfl | exact Or.inr rfl) pe_newG)
      (pss_cons (ps_for PassesOwn.never rfl (pi_G (pv 0)) (pg_name (i := 4) sc_counts_by_place.nd rfl (by first | exact Or.inl rfl | exact Or.inr rfl)) (pss_cons (ps_set (i := 5) sc_counts_by_place.nd rfl (by first | exact Or.inl rfl | exact Or.inr rfl) (pe_callD C_place_of (hr.mono (by decide)) (by rfl) (pa_cons (pe_getG hr.units (pv 0) (pv 4) (fun _ _ => rfl)) (pa_cons (pv 1) (pa_cons (pv 2) pa_nil)))))
      (pss_one (ps_asg (pe_op op_add (pe_bmG PySem.F.slot_dict_get PySem.F.type_dict_get (mt_getG2 hr.units) (pv 3) (pa_cons (pv 5) (pa_cons pe_int pa_nil))) pe_int) (pg_sub (pv 3) (pv 5) (set_G hr.units))))))
      (pss_one (ps_ret (pv 3)))))), ?_⟩
    refine ⟨_, rfl, D, t, fv, rfl, hs, hb, hg, fun D1 H1 v1 g1 b1 => ?_⟩
    intro d hd0
    have g2 : Grow [] D1 H1 D1 (upd H1 d (GD w d [] 0)) := (Grow.refl g1.s).tmp hd0
    have g12 := g1.trans g2
    have hdD : D1 d = none := g1.s.none hd0
    have hl1 := z1.length
    have z1' : All2 (EntP K CP D1) xs1 ps := z1.mono fun _ _ q => EntP.mono g1.d q
    refine ⟨_, rfl, d1, xs1, ep1, rfl, g12.s _ _ (g1.d _ _ hd1), for_it walk_G (fun i σ H2 => ∃ x4 x5 es ep, σ = [some (.ref d1), some fv, some v1, some (.ref d), x4, x5] ∧ Grow [d] D1 (upd H1 d (GD w d [] 0)) D1 H2 ∧ H2 d = some (GD w d es ep) ∧ All2 (CEnt (fun v o => v = oV o) oK) es (cntP t (ps.take i))) ?_ ?_ ?_ ?_⟩
    · exact ⟨_, _, [], 0, rfl, Grow.refl g2.s, upd_same, trivial⟩
    · rintro i σ H2 hi ⟨x4, x5, es, ep, rfl, g, _⟩
      exact g.s _ _ (g1.d _ _ hd1)
    · rintro i x σ H0 H2 hi ⟨x4, x5, es, ep, rfl, g, hat, zz⟩ ⟨rfl, e, he, rfl⟩
      obtain ⟨q, hq, e1, e2, e3⟩ := z1'.get he
      have key : KeyOf K D1 (kT (Vaflxa.posText q)) e.2.1 := e2.key
      have hget : getE xs1 (kT (Vaflxa.posText q)) = some e.2.2 := by
        rw [← e1]
        exact getE_at (by rw [z1'.keys]; exact kT_nodup hnd) he
      refine ⟨_, rfl, _, rfl, d1, xs1, ep1, kT (Vaflxa.posText q), e.2.2, ⟨rfl, g.s _ _ (g1.d _ _ hd1), GKeys.up g.s (gkeys_of z1'), KeyOf.up g.s key⟩, hget, _, rfl, _, rfl, D1, q, t, e.2.2, fv, v1, rfl, g.s, e3, hw q (List.mem_of_getElem? hq), hb.mono g1.d, hg, b1, fun H3 hH3 => ?_⟩
      have hat3 := hH3 _ _ hat
      have gk : GKeys K H3 es := pkeys zz
      have hel : es.length < sizeLine := by
        have h1 := zz.length
        have h2 := cntP_le t (ps.take i)
        rw [List.length_take] at h2
        exact small_lt (by omega)
      refine ⟨_, rfl, ⟨d, es, ep, rfl, hat3⟩, _, rfl, _, _, d, es, ep, oK (Vaflxa.placeOf q t), rfl, ⟨rfl, hat3, gk, oK_of _⟩, ?_⟩
      rw [cent_get (fun _ _ => oK_inj) _ zz]
      refine ⟨((cget (cntP t (ps.take i)) (Vaflxa.placeOf q t)).getD 0 : Nat), 1, by cases cget (cntP t (ps.take i)) (Vaflxa.placeOf q t) <;> rfl, rfl, _, rfl, _, rfl, d, es, ep, oK (Vaflxa.placeOf q t), ⟨rfl, hat3, gk, oK_of _⟩, hel, fun ep' => ?_⟩
      have g3 : Grow [d] D1 (upd H1 d (GD w d [] 0)) D1 H3 := g.trans (Grow.of_same g.s hH3).anyM
      refine ⟨_, _, _, ep', rfl, g3.write (.inr (List.mem_singleton.mpr rfl)) hdD, upd_same, ?_⟩
      have hsp : ps.take (i + 1) = ps.take i ++ [q] := by rw [List.take_add_one, hq]; rfl
      rw [hsp, cntP_snoc]
      exact cent_put (fun _ _ => oK_inj) zz rfl 1
    · rintro σ H2 ⟨x4, x5, es, ep, rfl, g, hat, zz⟩
      refine ⟨_, rfl, ?_⟩
      rw [List.take_of_length_le (by omega)] at zz
      have G := g12.own g (g1.newOf hd0)
      exact k _ _ _ (G.all hs) ⟨d, es, ep, rfl, by rw [Fz.new (g1.newOf hd0)]; exact hat, zz⟩
def sp_is_field (w : World) (K : PySem.W.Frag) (CP CB CPs CPc CS CC : Addr) : Sp := fun vs H Q _ => ∃ D t fv, vs = [fv] ∧ Sub D H ∧ BL D fv t ∧ t.length ≤ 100000 ∧ ∀ H', Same H H' → Q (.bl (Vaflxb.goodField t)) H'
abbrev s_is_field : Stmt := topS 31
theorem sc_is_field : FnScope ["row", "byte"] ["row"] (defScope s_is_field) := ⟨rfl, rfl, rfl, by decide +kernel, rfl, by decide +kernel, by decide +kernel⟩
theorem ok_is_field (F : Fun K "is_field" "is_field" s_is_field f fd) (T : Txt K mg CP CB CPs CPc CS CC)  : FnOk P w K mg base CX0 1 f fd ["row"] (sp_is_field w K CP CB CPs CPc CS CC) := by
  refine F.ok sc_is_field (fun vs H Q E h => ?_) (fun cdv A outer s H vs Q E hr h => ?_)
  · obtain ⟨_, _, _, rfl, _⟩ := h; rfl
  · obtain ⟨D, t, fv, rfl, hs, ⟨a, rfl, ha⟩, hl, k⟩ := h
    refine ⟨_, (pss_one (ps_ret (pe_and (pe_cmpR op_le (pe_callB call_len (by rfl) T.m_len b_len (pa_cons (pv 0) pa_nil)) (pe_const (by rfl) T.g_MOST_FIELD) (nomark _)) (pe_one (pe_callB (cr_all rfl) (by rfl) T.m_all b_all (pa_cons (pe_lc (own := [("byte", 1)]) (g := gName 1) rfl sc_is_field.nd (pi_list (pv 0)) (blkOk_by (own := [("byte", 1)]) (N := ["row", "byte"]) (sc := defScope s_is_field) (by decide +kernel)) (fun _ _ _ _ _ => pg_name (i := 1) sc_is_field.nd rfl (Or.inl rfl)) (fun _ _ _ _ _ => pts_nil) (fun _ _ _ _ _ => (pe_chain op_le op_le (pe_const (by rfl) T.g_BLANK) (pv 1) (pe_const (by rfl) T.g_LAST_SIGN)))) pa_nil)))))), ?_⟩
    refine ⟨_, rfl, _, t.length, rfl, .inl ⟨_, SqL.of (hs _ _ ha), by simp⟩, _, _, rfl, rfl, _, rfl, ?_⟩
    by_cases h : t.length ≤ 40
    · rw [decide_eq_true (p := ((t.length : Nat) : Int) ≤ 40) (by omega)]
      refine iteT ⟨_, rfl, a, rfl, ⟨_, SqL.of (hs _ _ ha)⟩, fun L hL => lc_it (walk_list (xs := tv t)) (fun i H' => H' = upd H L (.lst ((t.take i).map fun c => V.bl (isByte c)))) rfl ?_ ?_ ?_⟩
      · rintro i H' hi rfl
        exact SqL.of (by rw [upd_ne (ne_of_none (hs _ _ ha) hL)]; exact hs _ _ ha)
      · rintro i x H' H2 hi rfl ⟨rfl, hx⟩
        rw [List.getElem?_map] at hx
        cases hc : t[i]? with
        | none => rw [hc] at hx; cases hx
        | some c =>
          rw [hc] at hx; cases hx
          refine ⟨rfl, _, rfl, 32, _, rfl, rfl, _, rfl, ?_⟩
          have fin : upd H L (.lst ((t.take i).map fun c => V.bl (isByte c))) L = some (.lst ((t.take i).map fun c => V.bl (isByte c))) ∧ ((t.take i).map fun c => V.bl (isByte c)).length < sizeLine ∧
              upd (upd H L (.lst ((t.take i).map fun c => V.bl (isByte c)))) L (.lst (((t.take i).map fun c => V.bl (isByte c)) ++ [V.bl (isByte c)])) = upd H L (.lst ((t.take (i + 1)).map fun c => V.bl (isByte c))) := by
            refine ⟨upd_same, ?_, ?_⟩
            · rw [List.length_map, List.length_take]
              exact small_lt (by omega)
            · rw [upd_upd, List.take_add_one, hc, List.map_append]; rfl
          rw [show isByte c = (decide ((32 : Int) ≤ (c.toNat : Int)) && decide ((c.toNat : Int) ≤ 126)) from (bt_byte c).symm] at fin
          by_cases h1 : (32 : Int) ≤ (c.toNat : Int)
          · rw [decide_eq_true h1] at fin ⊢
            exact iteT ⟨_, _, rfl, rfl, _, fin⟩
          · rw [decide_eq_false h1] at fin ⊢
            exact iteF ⟨_, fin⟩
      · rintro H' rfl
        have e : (tv t).length = t.length := by simp
        rw [e, List.take_length]
        refine ⟨L, t.map isByte, rfl, SqL.of (by rw [upd_same, List.map_map]; rfl), ?_⟩
        have e2 : Vaflxb.goodField t = (t.map isByte).all id := by
          unfold Vaflxb.goodField Vaflxa.goodText
          rw [decide_eq_true (show t.length ≤ Vaflxa.MOST_FIELD from h), Bool.true_and, List.all_map]; rfl
        rw [← e2]
        exact k _ ((Grow.refl (M := []) hs).tmp hL).same
    · rw [decide_eq_false (p := ((t.length : Nat) : Int) ≤ 40) (by omega)]
      have e2 : Vaflxb.goodField t = false := by
        unfold Vaflxb.goodField Vaflxa.goodText
        rw [decide_eq_false (show ¬ t.length ≤ Vaflxa.MOST_FIELD from h)]; rfl
      have k1 := k _ (fun _ _ e => e)
      rw [e2] at k1
      exact iteF k1
def sp_texts_told (w : World) (K : PySem.W.Frag) (CP CB CPs CPc CS CC : Addr) : Sp := fun vs H Q _ => ∃ D ts v, vs = [v] ∧ Sub D H ∧ TxL K D v ts ∧ (∀ t ∈ ts, t ≠ []) ∧ (∀ i, (told (ts.take i)).length ≤ 100000) ∧ (∀ t ∈ ts, t.length ≤ 1000) ∧ ∀ D' H' r, Grow [] D H D' H' → BL D' r (told ts) → Q r H'
abbrev s_texts_told : Stmt := topS 32
theorem sc_texts_told : FnScope ["texts", "found", "text"] ["texts"] (defScope s_texts_told) := ⟨rfl, rfl, rfl, by decide +kernel, rfl, by decide +kernel, by decide +kernel⟩
theorem ok_texts_told (F : Fun K "texts_told" "texts_told" s_texts_told f fd) (T : Txt K mg CP CB CPs CPc CS CC)  : FnOk P w K mg base CX0 1 f fd ["texts"] (sp_texts_told w K CP CB CPs CPc CS CC) := by
  refine F.ok sc_texts_told (fun vs H Q E h => ?_) (fun cdv A outer s H vs Q E hr h => ?_)
  · obtain ⟨_, _, _, rfl, _⟩ := h; rfl
  · obtain ⟨D, ts, v, rfl, hs, ⟨a, xs, rfl, ha, z⟩, hne, hlen, hle, k⟩ := h
    refine ⟨_, (pss_cons (ps_set (i := 1) sc_texts_told.nd rfl (by first | exact Or.inl rfl | exact Or.inr rfl) (pe_lst pa_nil))
      (pss_cons (ps_for PassesOwn.never rfl (pi_list (pv 0)) (pg_name (i := 2) sc_texts_told.nd rfl (by first | exact Or.inl rfl | exact Or.inr rfl)) (pss_cons (ps_if (pt_cmpR (op_neD hr.units) (pv 1) (pe_lst pa_nil) (nomark _)) (pss_one (ps_expr (pe_bm PySem.F.plainAttrs_list PySem.F.slot_list_append PySem.F.type_list_append mt_append (pv 1) (pa_cons (pe_const (by rfl) T.g_BLANK) pa_nil)))) pss_nil)
      (pss_one (ps_expr (pe_bm PySem.F.plainAttrs_list PySem.F.slot_list_extend PySem.F.type_list_extend mt_extendT (pv 1) (pa_cons (pv 2) pa_nil))))))
      (pss_one (ps_ret (pv 1))))), ?_⟩
    refine ⟨sz0, fun p hp => ?_⟩
    have o1 : Own D H D (upd H p (.lst [])) p (.lst []) := Own.mk' (Grow.refl hs) hp
    refine ⟨_, rfl, a, rfl, ⟨_, SqL.of (o1.g.s _ _ ha)⟩, for_it (walk_list (xs := xs)) (fun i σ H' => ∃ x2, σ = [some (.ref a), some (.ref p), x2] ∧ Own D H D H' p (.lst (tv (told (ts.take i))))) ?_ ?_ ?_ ?_⟩
    · exact ⟨_, rfl, o1⟩
    · rintro i σ H' hi ⟨x2, rfl, o⟩
      exact SqL.of (o.g.s _ _ ha)
    · rintro i x σ H0 H' hi ⟨x2, rfl, o⟩ ⟨rfl, hx⟩
      obtain ⟨t, ht, bt⟩ := z.get hx
      have hsp : ts.take (i + 1) = ts.take i ++ [t] := by rw [List.take_add_one, ht]; rfl
      have hnn : told (ts.take i) = [] ↔ ts.take i = [] := told_nil fun t h => hne t (List.mem_of_mem_take h)
      obtain ⟨at_, rfl, hat⟩ := BT.sq (D := D) (H := D) (Sub.refl D) bt
      have htl := hle t (List.mem_of_getElem? ht)
      have hll := hlen i
      refine ⟨_, rfl, sz0, fun q hq => ?_⟩
      have o2 := o.tmp (v := .lst []) hq
      refine ⟨_, _, .lst (SqL.of o2.at_) (dpAll_tv _), (.lst (ds := []) (SqL.of upd_same) .nil), shaped_dL _, by decide, _, rfl, ?_⟩
      have ee : (!(PyData.list ((told (ts.take i)).map fun c => .int (c.toNat : Int))).eqv (.list [])) = !decide (ts.take i = []) := by
        have := eqv_dL (told (ts.take i)) []
        show (!(PyData.eqv (dL (told (ts.take i))) (dL []))) = _
        rw [this]
        congr 1
        exact decide_eq_decide.mpr hnn
      rw [ee]
      by_cases h0 : ts.take i = []
      · rw [decide_eq_true h0]
        refine iteF ⟨_, rfl, .inl ⟨rfl, _, SqL.of o2.at_⟩, _, rfl, p, at_, _, _, rfl, rfl, o2.at_, SqT.up o2.g.s hat, small_le (by simp; omega), ?_⟩
        refine ⟨_, rfl, ?_⟩
        rw [hsp, told_snoc, if_pos h0]
        have : told (ts.take i) = [] := hnn.mpr h0
        rw [this]
        exact o2.set
      · rw [decide_eq_false h0]
        have o3 := o2.set (u' := .lst (tv (told (ts.take i)) ++ [.int 32]))
        refine iteT ⟨_, rfl, .inl ⟨rfl, _, SqL.of o2.at_⟩, p, _, _, rfl, rfl, o2.at_, small_lt (by simp; omega), _, rfl, .inl ⟨rfl, _, SqL.of o3.at_⟩, _, rfl, p, at_, _, _, rfl, rfl, o3.at_, SqT.up o3.g.s hat, small_le (by simp; omega), ?_⟩
        refine ⟨_, rfl, ?_⟩
        rw [hsp, told_snoc, if_neg h0]
        have e : tv (told (ts.take i) ++ 32 :: t) = (tv (told (ts.take i)) ++ [V.int 32]) ++ tv t := by simp [tv]
        rw [e]
        exact o3.set
    · rintro σ H' ⟨x2, rfl, o⟩
      refine ⟨_, rfl, ?_⟩
      have hz := z.length
      rw [List.take_of_length_le (by omega)] at o
      obtain ⟨G, S, at1⟩ := Own.fin hs o
      exact k _ _ _ G ⟨p, rfl, at1⟩
end
end Ps
set_option Elab.async false
set_option linter.all false
set_option maxRecDepth 100000
set_option maxHeartbeats 2000000
namespace Ps
open PySem PySem.Spec PyProof.Rows L2 Gd
theorem cutV_nat (xs : List V) (p q : Nat) : cutV xs (some ((p : Nat) : Int)) (some ((q : Nat) : Int)) = (xs.drop p).take (q - p) := by
  unfold cutV
  rw [HT.sIx_nat, HT.sIx_nat]
  by_cases h : p ≤ xs.length
  · rw [Nat.min_eq_left h]
    by_cases h2 : q ≤ xs.length
    · rw [Nat.min_eq_left h2]
    · rw [Nat.min_eq_right (by omega), List.take_of_length_le (by rw [List.length_drop]; omega), List.take_of_length_le (by rw [List.length_drop]; omega)]
  · rw [Nat.min_eq_right (show xs.length ≤ p by omega), List.drop_of_length_le (Nat.le_refl _), List.drop_of_length_le (show xs.length ≤ p by omega)]; simp
theorem cutV_head (xs : List V) (q : Nat) : cutV xs none (some ((q : Nat) : Int)) = xs.take q := by
  unfold cutV
  rw [HT.sIx_none, HT.sIx_nat, List.drop_zero, Nat.sub_zero]
  by_cases h2 : q ≤ xs.length
  · rw [Nat.min_eq_left h2]
  · rw [Nat.min_eq_right (by omega), List.take_of_length_le (Nat.le_refl _), List.take_of_length_le (by omega)]
theorem cutV_tail (xs : List V) (p : Nat) : cutV xs (some ((p : Nat) : Int)) none = xs.drop p := by
  unfold cutV
  rw [HT.sIx_none, HT.sIx_nat]
  by_cases h : p ≤ xs.length
  · rw [Nat.min_eq_left h, List.take_of_length_le (by rw [List.length_drop]; omega)]
  · rw [Nat.min_eq_right (by omega), List.drop_of_length_le (Nat.le_refl _), List.drop_of_length_le (by omega)]; simp
theorem tv_take (t : Tx) (n : Nat) : (tv t).take n = tv (t.take n) := (List.map_take ..).symm
theorem tv_drop (t : Tx) (n : Nat) : (tv t).drop n = tv (t.drop n) := (List.map_drop ..).symm
theorem cap_num {c : UInt8} (h : Vaflxa.isSmall c = true) : bv (Vaflxa.toCapital c) = .int ((c.toNat : Int) - 32) := by
  have key : ∀ n : Fin 256, Vaflxa.isSmall (UInt8.ofNat n) = true → ((Vaflxa.toCapital (UInt8.ofNat n)).toNat : Int) = ((UInt8.ofNat n).toNat : Int) - 32 := by decide +kernel
  have e : UInt8.ofNat c.toNat = c := UInt8.ofNat_toNat
  have := key ⟨c.toNat, c.toNat_lt⟩
  rw [e] at this
  unfold bv
  rw [this h]
theorem small_num {c : UInt8} (h : Vaflxa.isCapital c = true) : bv (Vaflxa.toSmall c) = .int ((c.toNat : Int) + 32) := by
  have key : ∀ n : Fin 256, Vaflxa.isCapital (UInt8.ofNat n) = true → ((Vaflxa.toSmall (UInt8.ofNat n)).toNat : Int) = ((UInt8.ofNat n).toNat : Int) + 32 := by decide +kernel
  have e : UInt8.ofNat c.toNat = c := UInt8.ofNat_toNat
  have := key ⟨c.toNat, c.toNat_lt⟩
  rw [e] at this
  unfold bv
  rw [this h]
theorem cased_first (t : Tx) : Vaflxa.cased .first t = (t.take 1).map Vaflxa.toCapital ++ (t.drop 1).map Vaflxa.toSmall := by
  cases t <;> rfl
theorem cased_len (k : Vaflxa.Case) (t : Tx) : (Vaflxa.cased k t).length = t.length := by
  cases k with
  | first => cases t <;> simp [Vaflxa.cased]
  | _ => simp [Vaflxa.cased]
section
variable {P : Program} {w : World} {K : PySem.W.Frag} {mg : Str → Option Value} {base : Heap} {CP CB CPs CPc CS CC : Addr} {f : Addr} {fd : FuncData}
def sp_to_capital (w : World) (K : PySem.W.Frag) (CP CB CPs CPc CS CC : Addr) : Sp := fun vs H Q _ => ∃ c, vs = [bv c] ∧ Q (bv (Vaflxa.toCapital c)) H
abbrev s_to_capital : Stmt := topS 45
theorem sc_to_capital : FnScope ["byte"] ["byte"] (defScope s_to_capital) := ⟨rfl, rfl, rfl, by decide +kernel, rfl, by decide +kernel, by decide +kernel⟩
theorem ok_to_capital (F : Fun K "to_capital" "to_capital" s_to_capital f fd) (T : Txt K mg CP CB CPs CPc CS CC) (C_is_between : Def P w K mg base 1 "is_between" ["byte", "bounds"] (sp_is_between K)) : FnOk P w K mg base CX0 2 f fd ["byte"] (sp_to_capital w K CP CB CPs CPc CS CC) := by
  obtain ⟨aSMALL, g_SMALL, qSMALL⟩ := T.g_SMALL
  refine F.ok sc_to_capital (fun vs H Q E h => ?_) (fun cdv A outer s H vs Q E hr h => ?_)
  · obtain ⟨_, rfl, _⟩ := h; rfl
  · obtain ⟨c, rfl, k⟩ := h
    refine ⟨_, (pss_cons (ps_if (pt_val (pe_callD C_is_between (hr.mono (by decide)) (by rfl) (pa_cons (pv 0) (pa_cons (pe_const (by rfl) g_SMALL) pa_nil)))) (pss_one (ps_ret (pe_op op_sub (pv 0) (pe_const (by rfl) T.g_CASE_STEP)))) pss_nil)
      (pss_one (ps_ret (pv 0)))), ?_⟩
    refine ⟨_, rfl, _, _, _, _, rfl, qSMALL H, _, rfl, ?_⟩
    rw [bt_small]
    cases hd : Vaflxa.isSmall c with
    | true =>
      rw [cap_num hd] at k
      exact iteT ⟨_, rfl, _, _, rfl, rfl, k⟩
    | false =>
      rw [show Vaflxa.toCapital c = c by unfold Vaflxa.toCapital; rw [if_neg (by rw [hd]; exact Bool.false_ne_true)]] at k
      exact iteF ⟨_, rfl, k⟩
def sp_to_small (w : World) (K : PySem.W.Frag) (CP CB CPs CPc CS CC : Addr) : Sp := fun vs H Q _ => ∃ c, vs = [bv c] ∧ Q (bv (Vaflxa.toSmall c)) H
abbrev s_to_small : Stmt := topS 46
theorem sc_to_small : FnScope ["byte"] ["byte"] (defScope s_to_small) := ⟨rfl, rfl, rfl, by decide +kernel, rfl, by decide +kernel, by decide +kernel⟩
theorem ok_to_small (F : Fun K "to_small" "to_small" s_to_small f fd) (T : Txt K mg CP CB CPs CPc CS CC) (C_is_between : Def P w K mg base 1 "is_between" ["byte", "bounds"] (sp_is_between K)) : FnOk P w K mg base CX0 2 f fd ["byte"] (sp_to_small w K CP CB CPs CPc CS CC) := by
  obtain ⟨aCAPITALS, g_CAPITALS, qCAPITALS⟩ := T.g_CAPITALS
  refine F.ok sc_to_small (fun vs H Q E h => ?_) (fun cdv A outer s H vs Q E hr h => ?_)
  · obtain ⟨_, rfl, _⟩ := h; rfl
  · obtain ⟨c, rfl, k⟩ := h
    refine ⟨_, (pss_cons (ps_if (pt_val (pe_callD C_is_between (hr.mono (by decide)) (by rfl) (pa_cons (pv 0) (pa_cons (pe_const (by rfl) g_CAPITALS) pa_nil)))) (pss_one (ps_ret (pe_op op_add (pv 0) (pe_const (by rfl) T.g_CASE_STEP)))) pss_nil)
      (pss_one (ps_ret (pv 0)))), ?_⟩
    refine ⟨_, rfl, _, _, _, _, rfl, qCAPITALS H, _, rfl, ?_⟩
    rw [bt_capital]
    cases hd : Vaflxa.isCapital c with
    | true =>
      rw [small_num hd] at k
      exact iteT ⟨_, rfl, _, _, rfl, rfl, k⟩
    | false =>
      rw [show Vaflxa.toSmall c = c by unfold Vaflxa.toSmall; rw [if_neg (by rw [hd]; exact Bool.false_ne_true)]] at k
      exact iteF ⟨_, rfl, k⟩
/-- the heap while bytes are turned -/
theorem turn_step {HB H' : Hp} {L : Addr} {g : UInt8 → UInt8} {t : Tx} {i : Nat} {c : UInt8} (hc : t[i]? = some c) (hl : t.length ≤ 100000) (e : H' = upd HB L (.lst (tv ((t.take i).map g)))) :
    H' L = some (.lst (tv ((t.take i).map g))) ∧ (tv ((t.take i).map g)).length < sizeLine ∧ upd H' L (.lst (tv ((t.take i).map g) ++ [bv (g c)])) = upd HB L (.lst (tv ((t.take (i + 1)).map g))) := by
  subst e
  refine ⟨upd_same, ?_, ?_⟩
  · rw [List.length_map, List.length_map, List.length_take]; exact small_lt (by omega)
  · rw [upd_upd, List.take_add_one, hc, List.map_append]
    unfold tv
    rw [List.map_append]; rfl
def sp_turned (w : World) (K : PySem.W.Frag) (CP CB CPs CPc CS CC : Addr) : Sp := fun vs H Q _ => ∃ D t kc v, vs = [v, nv (Vaflxb.caseNumber kc)] ∧ Sub D H ∧ BL D v t ∧ t.length ≤ 100000 ∧ ∀ D' H' r, Grow [] D H D' H' → BL D' r (Vaflxa.cased kc t) → Q r H'
abbrev s_turned : Stmt := topS 47
theorem sc_turned : FnScope ["row", "case", "byte"] ["row", "case"] (defScope s_turned) := ⟨rfl, rfl, rfl, by decide +kernel, rfl, by decide +kernel, by decide +kernel⟩
theorem ok_turned (F : Fun K "turned" "turned" s_turned f fd) (T : Txt K mg CP CB CPs CPc CS CC) (C_to_capital : Def P w K mg base 2 "to_capital" ["byte"] (sp_to_capital w K CP CB CPs CPc CS CC)) (C_to_small : Def P w K mg base 2 "to_small" ["byte"] (sp_to_small w K CP CB CPs CPc CS CC)) : FnOk P w K mg base CX0 3 f fd ["row", "case"] (sp_turned w K CP CB CPs CPc CS CC) := by
  refine F.ok sc_turned (fun vs H Q E h => ?_) (fun cdv A outer s H vs Q E hr h => ?_)
  · obtain ⟨_, _, _, _, rfl, _⟩ := h; rfl
  · obtain ⟨D, t, kc, v, rfl, hs, ⟨a, rfl, ha⟩, hl, k⟩ := h
    refine ⟨_, (pss_cons (ps_if (pt_cmpR op_eq (pv 1) pe_int (nomark _)) (pss_one (ps_ret (pe_lc (own := [("byte", 2)]) (g := gName 2) rfl sc_turned.nd (pi_list (pv 0)) (blkOk_by (own := [("byte", 2)]) (N := ["row", "case", "byte"]) (sc := defScope s_turned) (by decide +kernel)) (fun _ _ _ _ _ => pg_name (i := 2) sc_turned.nd rfl (Or.inl rfl)) (fun _ _ _ _ _ => pts_nil) (fun _ _ _ _ _ => (pe_callD C_to_capital (hr.mono (by decide)) (by rfl) (pa_cons (pv 2) pa_nil)))))) pss_nil)
      (pss_cons (ps_if (pt_cmpR op_eq (pv 1) pe_int (nomark _)) (pss_one (ps_ret (pe_lc (own := [("byte", 2)]) (g := gName 2) rfl sc_turned.nd (pi_list (pv 0)) (blkOk_by (own := [("byte", 2)]) (N := ["row", "case", "byte"]) (sc := defScope s_turned) (by decide +kernel)) (fun _ _ _ _ _ => pg_name (i := 2) sc_turned.nd rfl (Or.inl rfl)) (fun _ _ _ _ _ => pts_nil) (fun _ _ _ _ _ => (pe_callD C_to_small (hr.mono (by decide)) (by rfl) (pa_cons (pv 2) pa_nil)))))) pss_nil)
      (pss_cons (ps_if (pt_cmpR op_eq (pv 1) pe_int (nomark _)) (pss_one (ps_ret (pe_op op_cat (pe_lc (own := [("byte", 2)]) (g := gName 2) rfl sc_turned.nd (pi_list (pe_slice sl_list (pv 0) po_none (po_some pe_int))) (blkOk_by (own := [("byte", 2)]) (N := ["row", "case", "byte"]) (sc := defScope s_turned) (by decide +kernel)) (fun _ _ _ _ _ => pg_name (i := 2) sc_turned.nd rfl (Or.inl rfl)) (fun _ _ _ _ _ => pts_nil) (fun _ _ _ _ _ => (pe_callD C_to_capital (hr.mono (by decide)) (by rfl) (pa_cons (pv 2) pa_nil)))) (pe_lc (own := [("byte", 2)]) (g := gName 2) rfl sc_turned.nd (pi_list (pe_slice sl_list (pv 0) (po_some pe_int) po_none)) (blkOk_by (own := [("byte", 2)]) (N := ["row", "case", "byte"]) (sc := defScope s_turned) (by decide +kernel)) (fun _ _ _ _ _ => pg_name (i := 2) sc_turned.nd rfl (Or.inl rfl)) (fun _ _ _ _ _ => pts_nil) (fun _ _ _ _ _ => (pe_callD C_to_small (hr.mono (by decide)) (by rfl) (pa_cons (pv 2) pa_nil))))))) pss_nil)
      (pss_one (ps_ret (pe_callTy call_list_of (by rfl) T.m_list b_list (pa_cons (pv 0) pa_nil))))))), ?_⟩
    have ha0 := hs _ _ ha
    cases kc with
    | up =>
      refine ⟨_, rfl, rfl, _, rfl, iteT ⟨_, rfl, a, rfl, ⟨_, SqL.of ha0⟩, fun L hL => lc_it (walk_list (xs := tv t)) (fun i H' => H' = upd H L (.lst (tv ((t.take i).map Vaflxa.toCapital)))) rfl ?_ ?_ ?_⟩⟩
      · rintro i H' hi rfl
        exact SqL.of (by rw [upd_ne (ne_of_none ha0 hL)]; exact ha0)
      · rintro i x H' H2 hi e ⟨rfl, hx⟩
        rw [List.getElem?_map] at hx
        cases hc : t[i]? with
        | none => rw [hc] at hx; cases hx
        | some c =>
          rw [hc] at hx; cases hx
          exact ⟨rfl, _, rfl, c, rfl, _, turn_step hc hl e⟩
      · rintro H' rfl
        rw [List.length_map, List.take_length]
        have g := Grow.fresh (M := []) (u := .lst (tv (t.map Vaflxa.toCapital))) hs hL
        exact k _ _ _ g ⟨L, rfl, upd_same⟩
    | low =>
      refine ⟨_, rfl, rfl, _, rfl, iteF ⟨_, rfl, rfl, _, rfl, iteT ⟨_, rfl, a, rfl, ⟨_, SqL.of ha0⟩, fun L hL => lc_it (walk_list (xs := tv t)) (fun i H' => H' = upd H L (.lst (tv ((t.take i).map Vaflxa.toSmall)))) rfl ?_ ?_ ?_⟩⟩⟩
      · rintro i H' hi rfl
        exact SqL.of (by rw [upd_ne (ne_of_none ha0 hL)]; exact ha0)
      · rintro i x H' H2 hi e ⟨rfl, hx⟩
        rw [List.getElem?_map] at hx
        cases hc : t[i]? with
        | none => rw [hc] at hx; cases hx
        | some c =>
          rw [hc] at hx; cases hx
          exact ⟨rfl, _, rfl, c, rfl, _, turn_step hc hl e⟩
      · rintro H' rfl
        rw [List.length_map, List.take_length]
        have g := Grow.fresh (M := []) (u := .lst (tv (t.map Vaflxa.toSmall))) hs hL
        exact k _ _ _ g ⟨L, rfl, upd_same⟩
    | same =>
      refine ⟨_, rfl, rfl, _, rfl, iteF ⟨_, rfl, rfl, _, rfl, iteF ⟨_, rfl, rfl, _, rfl, iteF ⟨_, rfl, a, _, rfl, .inl (SqL.of ha0), fun L hL => ?_⟩⟩⟩⟩
      have g := Grow.fresh (M := []) (u := .lst (tv t)) hs hL
      exact k _ _ _ g ⟨L, rfl, upd_same⟩
    | first =>
      refine ⟨_, rfl, rfl, _, rfl, iteF ⟨_, rfl, rfl, _, rfl, iteF ⟨_, rfl, rfl, _, rfl, iteT ⟨_, rfl, _, rfl, a, _, rfl, SqL.of ha0, fun p hp => ?_⟩⟩⟩⟩
      rw [show (some (1 : Int)) = some (((1 : Nat) : Nat) : Int) from rfl, cutV_head, tv_take]
      have g1 := Grow.fresh (M := []) (u := .lst (tv (t.take 1))) hs hp
      have l1 : (t.take 1).length ≤ 100000 := by rw [List.length_take]; omega
      refine ⟨p, rfl, ⟨_, SqL.of upd_same⟩, fun L hL => lc_it (walk_list (xs := tv (t.take 1))) (fun i H' => H' = upd (upd H p (.lst (tv (t.take 1)))) L (.lst (tv (((t.take 1).take i).map Vaflxa.toCapital)))) rfl ?_ ?_ ?_⟩
      · rintro i H' hi rfl
        exact SqL.of (by rw [upd_ne (ne_of_none upd_same hL)]; exact upd_same)
      · rintro i x H' H2 hi e ⟨rfl, hx⟩
        rw [List.getElem?_map] at hx
        cases hc : (t.take 1)[i]? with
        | none => rw [hc] at hx; cases hx
        | some c =>
          rw [hc] at hx; cases hx
          exact ⟨rfl, _, rfl, c, rfl, _, turn_step hc l1 e⟩
      · rintro H' rfl
        rw [List.length_map, List.take_length]
        have g2 := Grow.fresh (M := []) (u := .lst (tv ((t.take 1).map Vaflxa.toCapital))) g1.s hL
        refine ⟨_, rfl, _, rfl, a, _, rfl, SqL.of (g2.s _ _ (g2.d _ _ (g1.d _ _ ha))), fun q hq => ?_⟩
        rw [show (some (1 : Int)) = some (((1 : Nat) : Nat) : Int) from rfl, cutV_tail, tv_drop]
        have g3 := Grow.fresh (M := []) (u := .lst (tv (t.drop 1))) g2.s hq
        have l2 : (t.drop 1).length ≤ 100000 := by rw [List.length_drop]; omega
        refine ⟨q, rfl, ⟨_, SqL.of upd_same⟩, fun L2 hL2 => lc_it (walk_list (xs := tv (t.drop 1))) (fun i H' => H' = upd (upd (upd (upd H p (.lst (tv (t.take 1)))) L (.lst (tv ((t.take 1).map Vaflxa.toCapital)))) q (.lst (tv (t.drop 1)))) L2 (.lst (tv (((t.drop 1).take i).map Vaflxa.toSmall)))) rfl ?_ ?_ ?_⟩
        · rintro i H' hi rfl
          exact SqL.of (by rw [upd_ne (ne_of_none upd_same hL2)]; exact upd_same)
        · rintro i x H' H2 hi e ⟨rfl, hx⟩
          rw [List.getElem?_map] at hx
          cases hc : (t.drop 1)[i]? with
          | none => rw [hc] at hx; cases hx
          | some c =>
            rw [hc] at hx; cases hx
            exact ⟨rfl, _, rfl, c, rfl, _, turn_step hc l2 e⟩
        · rintro H' rfl
          rw [List.length_map, List.take_length]
          have g4 := Grow.fresh (M := []) (u := .lst (tv ((t.drop 1).map Vaflxa.toSmall))) g3.s hL2
          refine ⟨L, L2, _, _, rfl, rfl, g4.s _ _ (g4.d _ _ (g3.d _ _ upd_same)), upd_same, ?_, fun r hr => ?_⟩
          · rw [List.length_map, List.length_map, List.length_map, List.length_map, List.length_take, List.length_drop]
            exact small_le (by omega)
          · have g5 := Grow.fresh (M := []) (u := .lst (tv ((t.take 1).map Vaflxa.toCapital) ++ tv ((t.drop 1).map Vaflxa.toSmall))) g4.s hr
            refine k _ _ _ ((((g1.trans g2).trans g3).trans g4).trans g5) ⟨r, rfl, ?_⟩
            rw [upd_same, cased_first]
            unfold tv
            rw [List.map_append]
end
end Ps
set_option Elab.async false
set_option linter.all false
set_option maxRecDepth 100000
set_option maxHeartbeats 2000000
/-! Plain laws: the sort of the spec is the sort of the program. -/
namespace Ps
open PySem PySem.Spec PyProof.Rows L2 Gd
theorem u8_lt (c d : UInt8) : decide ((c.toNat : Int) < (d.toNat : Int)) = decide (c < d) := by
  rw [decide_eq_decide, UInt8.lt_iff_toNat_lt]; omega
theorem eqv_u8 (c d : UInt8) : PyData.eqv (.int (c.toNat : Int)) (.int (d.toNat : Int)) = (c == d) := by
  show ((c.toNat : Int) == (d.toNat : Int)) = (c == d)
  rw [Bool.eq_iff_iff, beq_iff_eq, beq_iff_eq]
  exact ⟨fun h => u8_inj h, fun h => by rw [h]⟩
theorem lt_ints : ∀ s t : Tx, PyProof.Rows.lexLt itemOrd (PySem.W.keyToksAll (s.map fun c => .int (c.toNat : Int))) (PySem.W.keyToksAll (t.map fun c => .int (c.toNat : Int))) = Vaflxa.textAhead s t
  | [], [] => rfl
  | [], d :: t => rfl
  | c :: s, [] => rfl
  | c :: s, d :: t => by
    rw [List.map_cons, List.map_cons, PySem.W.dataLt_cons (show PySem.W.alike (.int (c.toNat : Int)) (.int (d.toNat : Int)) = true from rfl), lt_ints s t, PySem.W.dataLt_int, eqv_u8, u8_lt]
    show _ = (decide (c < d) || (c == d && Vaflxa.textAhead s t))
    by_cases h : c = d
    · subst h
      simp [UInt8.lt_irrefl]
    · have : (c == d) = false := beq_eq_false_iff_ne.mpr h
      rw [this]; simp
theorem lt_dT (s t : Tx) : PySem.W.dataLt (dT s) (dT t) = Vaflxa.textAhead s t := by
  unfold dT
  rw [PySem.W.dataLt_tuple]
  exact lt_ints s t
theorem ahead_self (t : Tx) : Vaflxa.textAhead t t = false := by
  induction t with
  | nil => rfl
  | cons c t ih => unfold Vaflxa.textAhead; rw [ih]; simp [UInt8.lt_irrefl]
theorem lt_ckey (c d : Nat) (s t : Tx) : PySem.W.dataLt (ckey c s) (ckey d t) = (decide (c < d) || (c == d && Vaflxa.textAhead s t)) := by
  unfold ckey
  rw [PySem.W.dataLt_tuple, PySem.W.dataLt_cons (show PySem.W.alike (.int (c : Nat)) (.int (d : Nat)) = true from rfl), PySem.W.dataLt_cons (show PySem.W.alike (dT s) (dT t) = true from alike_ints s t), lt_dT, eqv_dT, PySem.W.dataLt_int]
  have e : PyData.eqv (.int ((c : Nat) : Int)) (.int ((d : Nat) : Int)) = (c == d) := by
    show (((c : Nat) : Int) == ((d : Nat) : Int)) = (c == d)
    rw [Bool.eq_iff_iff, beq_iff_eq, beq_iff_eq]; omega
  rw [e]
  have e2 : decide (((c : Nat) : Int) < ((d : Nat) : Int)) = decide (c < d) := by rw [decide_eq_decide]; omega
  rw [e2]
  by_cases h : c = d
  · subst h
    have e3 : (c == c) = true := beq_self_eq_true c
    rw [if_pos e3, e3]
    by_cases h2 : s = t
    · subst h2
      rw [decide_eq_true rfl, if_pos rfl, ahead_self]
      simp [PySem.W.keyToksAll]
      rfl
    · rw [decide_eq_false h2, if_neg Bool.false_ne_true]; simp
  · have : (c == d) = false := beq_eq_false_iff_ne.mpr h
    rw [this]; simp
theorem dataLe_lt {β : Type} (k : β → PyData) (a b : β) : PySem.W.dataLe false k a b = !PySem.W.dataLt (k b) (k a) := rfl
theorem total_dataLe {β : Type} (k : β → PyData) : PySem.W.TotalLe (PySem.W.dataLe false k) := PySem.W.sortLe_total _ _ _
section
variable {α : Type} {le lt : α → α → Bool}
theorem insert_perm (x : α) : ∀ l : List α, (Vaflxb.insertBy lt x l).Perm (x :: l)
  | [] => .refl _
  | y :: l => by
    unfold Vaflxb.insertBy
    split
    · exact .refl _
    · exact ((insert_perm x l).cons y).trans (.swap x y l)
theorem insert_sorted (h : PySem.W.TotalLe le) (hlt : ∀ a b, lt a b = !le b a) (x : α) : ∀ {l : List α}, l.Pairwise (fun a b => le a b = true) → (Vaflxb.insertBy lt x l).Pairwise (fun a b => le a b = true)
  | [], _ => by simp [Vaflxb.insertBy]
  | y :: l, hp => by
    rw [List.pairwise_cons] at hp
    unfold Vaflxb.insertBy
    by_cases hc : lt x y = true
    · rw [if_pos hc, List.pairwise_cons]
      rw [hlt] at hc
      have hxy : le x y = true := by
        rcases h.total x y with q | q
        · exact q
        · rw [q] at hc; exact absurd hc (by decide)
      refine ⟨fun z hz => ?_, List.pairwise_cons.mpr hp⟩
      rcases List.mem_cons.mp hz with rfl | hz
      · exact hxy
      · exact h.trans _ _ _ hxy (hp.1 z hz)
    · rw [if_neg hc, List.pairwise_cons]
      refine ⟨fun z hz => ?_, insert_sorted h hlt x hp.2⟩
      have hyx : le y x = true := by
        cases q : le y x with
        | true => rfl
        | false => rw [hlt, q] at hc; exact absurd rfl hc
      rcases List.mem_cons.mp ((insert_perm x l).mem_iff.mp hz) with rfl | hz
      · exact hyx
      · exact hp.1 z hz
theorem insert_filter (h : PySem.W.TotalLe le) (hlt : ∀ a b, lt a b = !le b a) (x c : α) : ∀ {l : List α}, l.Pairwise (fun a b => le a b = true) →
    (Vaflxb.insertBy lt x l).filter (PySem.W.sameRank le c) = l.filter (PySem.W.sameRank le c) ++ [x].filter (PySem.W.sameRank le c)
  | [], _ => rfl
  | y :: l, hp => by
    rw [List.pairwise_cons] at hp
    unfold Vaflxb.insertBy
    by_cases hc : lt x y = true
    · rw [if_pos hc]
      have hyx : le y x = false := by
        rw [hlt] at hc
        cases q : le y x with
        | false => rfl
        | true => rw [q] at hc; exact absurd hc (by decide)
      by_cases hr : PySem.W.sameRank le c x = true
      · have none : (y :: l).filter (PySem.W.sameRank le c) = [] := by
          rw [List.filter_eq_nil_iff]
          intro z hz hr2
          unfold PySem.W.sameRank at hr hr2
          rw [Bool.and_eq_true] at hr hr2
          have hzx : le z x = true := h.trans _ _ _ hr2.2 hr.1
          have hyz : le y z = true := by
            rcases List.mem_cons.mp hz with rfl | hz
            · exact h.refl _
            · exact hp.1 z hz
          rw [h.trans _ _ _ hyz hzx] at hyx
          cases hyx
        rw [List.filter_cons, if_pos hr, none]
        simp [List.filter_cons, hr]
      · rw [List.filter_cons, if_neg hr]
        simp [List.filter_cons, hr]
    · rw [if_neg hc]
      by_cases hy : PySem.W.sameRank le c y = true
      · rw [List.filter_cons, if_pos hy, insert_filter h hlt x c hp.2]
        simp [List.filter_cons, hy]
      · rw [List.filter_cons, if_neg hy, insert_filter h hlt x c hp.2]
        simp [List.filter_cons, hy]
theorem fold_sorted (h : PySem.W.TotalLe le) (hlt : ∀ a b, lt a b = !le b a) : ∀ (l s : List α), s.Pairwise (fun a b => le a b = true) →
    (l.foldl (fun s x => Vaflxb.insertBy lt x s) s).Pairwise (fun a b => le a b = true) ∧ ∀ c, (l.foldl (fun s x => Vaflxb.insertBy lt x s) s).filter (PySem.W.sameRank le c) = (s ++ l).filter (PySem.W.sameRank le c)
  | [], s, hp => ⟨hp, fun c => by rw [List.append_nil]; rfl⟩
  | x :: l, s, hp => by
    obtain ⟨h1, h2⟩ := fold_sorted h hlt l (Vaflxb.insertBy lt x s) (insert_sorted h hlt x hp)
    refine ⟨h1, fun c => ?_⟩
    rw [List.foldl_cons, h2, List.filter_append, insert_filter h hlt x c hp, List.append_assoc, ← List.filter_append, ← List.filter_append]
    rfl
/-- the sort of the spec -/
theorem sortBy_eq (h : PySem.W.TotalLe le) (hlt : ∀ a b, lt a b = !le b a) (l : List α) : Vaflxb.sortBy lt l = l.mergeSort le := by
  obtain ⟨h1, h2⟩ := fold_sorted h hlt l [] .nil
  exact PySem.W.sort_unique h h1 fun c => by have := h2 c; simpa [Vaflxb.sortBy] using this
end
theorem posLe_total : PySem.W.TotalLe posLe := total_dataLe _
/-! ### the positions at a place -/
theorem filter_flat {α β γ : Type} (q : α → Bool) (f : α → β) (g : β → List γ) (xs : List α) : ((xs.filter q).map f).flatMap g = xs.flatMap fun x => if q x = true then g (f x) else [] := by
  induction xs with
  | nil => rfl
  | cons x xs ih =>
    rw [List.filter_cons, List.flatMap_cons]
    by_cases h : q x = true
    · rw [if_pos h, if_pos h, List.map_cons, List.flatMap_cons, ih]
    · rw [if_neg h, if_neg h, ih, List.nil_append]
theorem allAt_eq (t : Tx) (p : Nat) : ([.start p, .finish (t.length - p)] : List Pos) ++ (Vaflxb.endings t p).flatMap (fun l => (Vaflxb.beginnings t p).flatMap fun r => Vaflxb.bordersAt t p l r) = allAt t p := by
  unfold allAt prs
  rw [List.flatMap_assoc]
  congr 1
  congr 1
  funext l
  rw [filter_flat]
  congr 1
  funext r
  unfold Vaflxb.bordersAt twoAt
  cases hl : Vaflxa.isEmptyClass l <;> cases hr : Vaflxa.isEmptyClass r <;> simp
theorem ordAt_eq (t : Tx) (p : Nat) : Vaflxb.positionsAt t p = ordAt t p := by
  unfold Vaflxb.positionsAt
  simp only []
  rw [allAt_eq]
  rw [sortBy_eq (le := PySem.W.dataLe false fun x : Nat × Vaflxb.Text × Pos => ckey x.1 x.2.1) (total_dataLe _) (fun a b => by rw [dataLe_lt, lt_ckey]; simp)]
  have := PySem.W.sort_maps (r := posLe) (s := PySem.W.dataLe false fun x : Nat × Vaflxb.Text × Pos => ckey x.1 x.2.1) (fun q : Pos => (Vaflxa.posCost q, Vaflxa.posText q, q)) (l := allAt t p) (fun a _ b _ => rfl)
  rw [← this, List.map_map]
  unfold ordAt
  have e : ((fun x : Nat × Vaflxb.Text × Pos => x.2.2) ∘ fun q : Pos => (Vaflxa.posCost q, Vaflxa.posText q, q)) = id := rfl
  rw [e, List.map_id]
/-! ### what is in both -/
theorem sameCls_iff (k m : Kl) : Vaflxb.sameCls k m = true ↔ k = m := by
  cases k <;> cases m <;> simp [Vaflxb.sameCls]
theorem samePos_iff (p q : Pos) : Vaflxb.samePos p q = true ↔ p = q := by
  cases p <;> cases q <;> simp [Vaflxb.samePos, sameCls_iff]
  · constructor
    · rintro ⟨rfl, rfl, rfl⟩; exact ⟨rfl, rfl, rfl⟩
    · rintro ⟨rfl, rfl, rfl⟩; exact ⟨rfl, rfl, rfl⟩
  · constructor
    · rintro ⟨rfl, rfl, rfl⟩; exact ⟨rfl, rfl, rfl⟩
    · rintro ⟨rfl, rfl, rfl⟩; exact ⟨rfl, rfl, rfl⟩
theorem meetT_eq {ps qs : List Pos} (hp : ∀ p ∈ ps, wfP p) (hq : ∀ q ∈ qs, wfP q) : meetT ps qs = Vaflxb.meetPos ps qs := by
  unfold meetT Vaflxb.meetPos
  refine List.filter_congr fun p h => ?_
  rw [Bool.eq_iff_iff, List.any_eq_true, List.any_eq_true]
  constructor
  · rintro ⟨q, h1, h2⟩
    exact ⟨q, h1, (samePos_iff _ _).mpr (text_inj (hq q h1) (hp p h) (of_decide_eq_true h2)).symm⟩
  · rintro ⟨q, h1, h2⟩
    exact ⟨q, h1, decide_eq_true (by rw [(samePos_iff _ _).mp h2])⟩
end Ps
set_option Elab.async false
set_option linter.all false
set_option maxRecDepth 100000
set_option maxHeartbeats 2000000
/-! Boxes and sets of pieces as data. -/
namespace Ps
open PySem PySem.Spec PyProof.Rows L2 Gd
abbrev Bx := Vaflxb.Box
abbrev Pcs := Vaflxb.Pieces
/-- a set of positions as the program makes it -/
structure wfL (l : List Pos) : Prop where
  wf : ∀ p ∈ l, wfP p
  ord : l.Pairwise fun a b => posLe a b = true
  nd : (l.map Vaflxa.posText).Nodup
  len : l.length ≤ 34
structure wfB (b : Bx) : Prop where
  l : wfL b.left
  r : wfL b.right
  nl : b.left ≠ []
  nr : b.right ≠ []
  f1 : 1 ≤ b.field
  f2 : b.field ≤ 4
theorem classes_le (c : UInt8) : (Vaflxb.classesOf c).length ≤ 3 := by
  have key : ∀ n : Fin 256, (Vaflxb.classesOf (UInt8.ofNat n)).length ≤ 3 := by decide +kernel
  have e : UInt8.ofNat c.toNat = c := UInt8.ofNat_toNat
  have := key ⟨c.toNat, c.toNat_lt⟩
  rwa [e] at this
theorem ends_le4 (t : Tx) (p : Nat) : (Vaflxb.endings t p).length ≤ 4 := by
  unfold Vaflxb.endings
  rw [List.length_cons]
  split
  · simp
  · have h := List.length_filter_le (fun k => Vaflxa.ends k t p) (((t[p - 1]?).map Vaflxb.classesOf).getD [])
    cases e : t[p - 1]? with
    | none => simp
    | some c =>
      rw [e] at h
      have h2 := classes_le c
      exact Nat.succ_le_succ (Nat.le_trans h h2)
theorem begs_le4 (t : Tx) (p : Nat) : (Vaflxb.beginnings t p).length ≤ 4 := by
  unfold Vaflxb.beginnings
  rw [List.length_cons]
  have h := List.length_filter_le (fun k => Vaflxa.begins k t p) (((t[p]?).map Vaflxb.classesOf).getD [])
  cases e : t[p]? with
  | none => simp
  | some c =>
    rw [e] at h
    have h2 := classes_le c
    exact Nat.succ_le_succ (Nat.le_trans h h2)
theorem prs_le16 (t : Tx) (p : Nat) : (prs t p).length ≤ 16 := by
  unfold prs
  have : ∀ xs : List Kl, (xs.flatMap fun l => ((Vaflxb.beginnings t p).filter fun r => !(Vaflxa.isEmptyClass l && Vaflxa.isEmptyClass r)).map fun r => (l, r)).length ≤ 4 * xs.length := by
    intro xs
    induction xs with
    | nil => simp
    | cons x xs ih =>
      rw [List.flatMap_cons, List.length_append, List.length_map, List.length_cons]
      have h1 := List.length_filter_le (fun r => !(Vaflxa.isEmptyClass x && Vaflxa.isEmptyClass r)) (Vaflxb.beginnings t p)
      have h2 := begs_le4 t p
      omega
  have h1 := this (Vaflxb.endings t p)
  have h2 := ends_le4 t p
  exact Nat.le_trans h1 (by omega)
theorem wf_at {t : Tx} (hg : good t) {p : Nat} (hp : p ≤ t.length) : wfL (Vaflxb.positionsAt t p) := by
  rw [ordAt_eq]
  unfold ordAt
  have hperm := List.mergeSort_perm (allAt t p) posLe
  refine ⟨fun q hq => wf_allAt hg hp q (hperm.mem_iff.mp hq), PySem.W.sort_pairwise posLe_total _, (hperm.map _).nodup_iff.mpr (texts_allAt hg hp), ?_⟩
  rw [hperm.length_eq, allAt_len]
  have := prs_le16 t p
  omega
theorem at_ne {t : Tx} {p : Nat} : Vaflxb.positionsAt t p ≠ [] := by
  rw [ordAt_eq]
  intro e
  have hperm := List.mergeSort_perm (allAt t p) posLe
  have := hperm.length_eq
  unfold ordAt at e
  rw [e, allAt_len] at this
  simp only [List.length_nil] at this
  omega
theorem wf_meet {ps qs : List Pos} (h : wfL ps) : wfL (Vaflxb.meetPos ps qs) := by
  unfold Vaflxb.meetPos
  exact ⟨fun p hp => h.wf p (List.mem_filter.mp hp).1, h.ord.filter _, List.Sublist.nodup (List.Sublist.map _ List.filter_sublist) h.nd, Nat.le_trans (List.length_filter_le _ _) h.len⟩
def boxFs (b : Bx) (lv rv : V) : List (Str × V) := [("field", nv b.field), ("case", nv (Vaflxb.caseNumber b.case_)), ("left", lv), ("right", rv)]
def BoxAt (K : PySem.W.Frag) (w : World) (CP CB : Addr) (D : Hp) (v : V) (b : Bx) : Prop := ∃ a dx lv rv, v = .ref a ∧ D a = some (.ins CB dx (boxFs b lv rv)) ∧ PSet K w CP D lv b.left ∧ PSet K w CP D rv b.right
def BoxL (K : PySem.W.Frag) (w : World) (CP CB : Addr) (D : Hp) (v : V) (bs : List Bx) : Prop := ∃ a xs, v = .ref a ∧ D a = some (.lst xs) ∧ All2 (BoxAt K w CP CB D) xs bs
def ConstAt (D : Hp) (v : V) : Option Tx → Prop
  | none => v = .non
  | some t => BL D v t
def PcsAt (K : PySem.W.Frag) (w : World) (CP CB CPs : Addr) (D : Hp) (v : V) (s : Pcs) : Prop := ∃ a dx cv bv, v = .ref a ∧ D a = some (.ins CPs dx [("constant", cv), ("boxes", bv)]) ∧ ConstAt D cv s.const ∧ BoxL K w CP CB D bv s.boxes
section
variable {K : PySem.W.Frag} {w : World} {CP CB CPs : Addr} {D D' : Hp} {v : V}
theorem BoxAt.mono {b : Bx} (h : Sub D D') (q : BoxAt K w CP CB D v b) : BoxAt K w CP CB D' v b :=
  let ⟨a, dx, lv, rv, e, z, x, y⟩ := q; ⟨a, dx, lv, rv, e, h _ _ z, x.mono h, y.mono h⟩
theorem BoxL.mono {bs : List Bx} (h : Sub D D') (q : BoxL K w CP CB D v bs) : BoxL K w CP CB D' v bs :=
  let ⟨a, xs, e, z, b⟩ := q; ⟨a, xs, e, h _ _ z, b.mono fun _ _ q => q.mono h⟩
theorem ConstAt.mono {o : Option Tx} (h : Sub D D') (q : ConstAt D v o) : ConstAt D' v o := by
  cases o with
  | none => exact q
  | some t => exact BL.mono h q
theorem PcsAt.mono {s : Pcs} (h : Sub D D') (q : PcsAt K w CP CB CPs D v s) : PcsAt K w CP CB CPs D' v s :=
  let ⟨a, dx, cv, bv, e, z, x, y⟩ := q; ⟨a, dx, cv, bv, e, h _ _ z, x.mono h, y.mono h⟩
theorem lookup_boxFs (b : Bx) (lv rv : V) : (boxFs b lv rv).lookup ("field" : Str) = some (nv b.field) ∧ (boxFs b lv rv).lookup ("case" : Str) = some (nv (Vaflxb.caseNumber b.case_)) ∧ (boxFs b lv rv).lookup ("left" : Str) = some lv ∧ (boxFs b lv rv).lookup ("right" : Str) = some rv := ⟨rfl, rfl, rfl, rfl⟩
end
/-- the boxes of a text in a field, at one place with one case -/
def box1 (num : Nat) (t u : Tx) (a : Nat) (k : Vaflxa.Case) : Option Bx :=
  if Vaflxa.cased k ((t.drop a).take u.length) = u then some { field := num, case_ := k, left := Vaflxb.positionsAt t a, right := Vaflxb.positionsAt t (a + u.length) } else none
def boxesTo (num : Nat) (t u : Tx) (i : Nat) : List Bx := (List.range i).flatMap fun a => Vaflxb.allCases.filterMap (box1 num t u a)
theorem filterMap_take {α β : Type} (f : α → Option β) (xs : List α) (i : Nat) (x : α) (h : xs[i]? = some x) : (xs.take (i + 1)).filterMap f = (xs.take i).filterMap f ++ (f x).toList := by
  rw [List.take_add_one, h, List.filterMap_append]
  cases e : f x <;> simp [e]
theorem boxesTo_eq (num : Nat) (t u : Tx) : boxesTo num t u ((t.length : Int) - (u.length : Int) + 1).toNat = Vaflxb.boxesIn num t u := by
  unfold boxesTo Vaflxb.boxesIn
  have key : ∀ n, (List.range n).flatMap (fun a => Vaflxb.allCases.filterMap fun k => if a + u.length ≤ t.length ∧ Vaflxa.cased k ((t.drop a).take u.length) = u then some ({ field := num, case_ := k, left := Vaflxb.positionsAt t a, right := Vaflxb.positionsAt t (a + u.length) } : Bx) else none) =
      (List.range (min n ((t.length : Int) - (u.length : Int) + 1).toNat)).flatMap fun a => Vaflxb.allCases.filterMap (box1 num t u a) := by
    intro n
    induction n with
    | zero => simp
    | succ n ih =>
      rw [List.range_succ, List.flatMap_append, ih]
      by_cases h : n + u.length ≤ t.length
      · rw [show min (n + 1) ((t.length : Int) - (u.length : Int) + 1).toNat = min n ((t.length : Int) - (u.length : Int) + 1).toNat + 1 by omega, List.range_succ, List.flatMap_append,
          show min n ((t.length : Int) - (u.length : Int) + 1).toNat = n by omega]
        congr 1
        simp only [List.flatMap_cons, List.flatMap_nil, List.append_nil]
        congr 1
        funext k
        unfold box1
        by_cases h2 : Vaflxa.cased k ((t.drop n).take u.length) = u
        · rw [if_pos ⟨h, h2⟩, if_pos h2]
        · rw [if_neg (fun z => h2 z.2), if_neg h2]
      · rw [show min (n + 1) ((t.length : Int) - (u.length : Int) + 1).toNat = min n ((t.length : Int) - (u.length : Int) + 1).toNat by omega]
        have : (List.flatMap (fun a => List.filterMap (fun k => if a + u.length ≤ t.length ∧ Vaflxa.cased k ((t.drop a).take u.length) = u then some ({ field := num, case_ := k, left := Vaflxb.positionsAt t a, right := Vaflxb.positionsAt t (a + u.length) } : Bx) else none) Vaflxb.allCases) [n]) = [] := by
          simp only [List.flatMap_cons, List.flatMap_nil, List.append_nil]
          rw [List.filterMap_eq_nil_iff]
          intro k _
          rw [if_neg fun z => h z.1]
        rw [this, List.append_nil]
  have := key (t.length + 1)
  rw [this]
  by_cases h0 : ((t.length : Int) - (u.length : Int) + 1).toNat ≤ t.length + 1
  · rw [Nat.min_eq_right h0]
  · omega
theorem boxesTo_le (num : Nat) (t u : Tx) (i : Nat) : (boxesTo num t u i).length ≤ 4 * i := by
  unfold boxesTo
  induction i with
  | zero => simp
  | succ i ih =>
    rw [List.range_succ, List.flatMap_append, List.length_append]
    have : (Vaflxb.allCases.filterMap (box1 num t u i)).length ≤ 4 := List.length_filterMap_le _ _
    simp only [List.flatMap_cons, List.flatMap_nil, List.append_nil]
    omega
end Ps
set_option Elab.async false
set_option linter.all false
set_option maxRecDepth 100000
set_option maxHeartbeats 2000000
namespace Ps
open PySem PySem.Spec PyProof.Rows L2 Gd
theorem case_at {j : Nat} (h : j < 4) : ∃ kc, Vaflxb.allCases[j]? = some kc ∧ Vaflxb.caseNumber kc = j := by
  match j, h with
  | 0, _ => exact ⟨_, rfl, rfl⟩
  | 1, _ => exact ⟨_, rfl, rfl⟩
  | 2, _ => exact ⟨_, rfl, rfl⟩
  | 3, _ => exact ⟨_, rfl, rfl⟩
section
variable {P : Program} {w : World} {K : PySem.W.Frag} {mg : Str → Option Value} {base : Heap} {CP CB CPs CPc CS CC : Addr} {f : Addr} {fd : FuncData}
def sp_boxes_in (w : World) (K : PySem.W.Frag) (CP CB CPs CPc CS CC : Addr) : Sp := fun vs H Q _ => ∃ D num t u fv ov, vs = [nv num, fv, ov] ∧ Sub D H ∧ BL D fv t ∧ good t ∧ BL D ov u ∧ u.length ≤ 40 ∧ ∀ D' H' r, Grow [] D H D' H' → BoxL K w CP CB D' r (Vaflxb.boxesIn num t u) → Q r H'
abbrev s_boxes_in : Stmt := topS 48
theorem sc_boxes_in : FnScope ["number", "field", "output", "found", "sets", "many", "place", "case"] ["number", "field", "output"] (defScope s_boxes_in) := ⟨rfl, rfl, rfl, by decide +kernel, rfl, by decide +kernel, by decide +kernel⟩
theorem ok_boxes_in (F : Fun K "boxes_in" "boxes_in" s_boxes_in f fd) (T : Txt K mg CP CB CPs CPc CS CC) (N_Box : NewD P w K mg base 1 "Box" CB ["self", "field", "case", "left", "right"] (spInit CB ["field", "case", "left", "right"])) (C_position_sets : Def P w K mg base 7 "position_sets" ["field"] (sp_position_sets w K CP CB CPs CPc CS CC)) (C_turned : Def P w K mg base 3 "turned" ["row", "case"] (sp_turned w K CP CB CPs CPc CS CC)) : FnOk P w K mg base CX0 8 f fd ["number", "field", "output"] (sp_boxes_in w K CP CB CPs CPc CS CC) := by
  obtain ⟨aCASES, g_CASES, qCASES⟩ := T.g_CASES
  refine F.ok sc_boxes_in (fun vs H Q E h => ?_) (fun cdv A outer s H vs Q E hr h => ?_)
  · obtain ⟨_, _, _, _, _, _, rfl, _⟩ := h; rfl
  · obtain ⟨D, num, t, u, fv, ov, rfl, hs, hbt, hg, hbu, hul, k⟩ := h
    refine ⟨_, (pss_cons (ps_set (i := 3) sc_boxes_in.nd rfl (by first | exact Or.inl rfl | exact Or.inr rfl) (pe_lst pa_nil))
      (pss_cons (ps_set (i := 4) sc_boxes_in.nd rfl (by first | exact Or.inl rfl | exact Or.inr rfl) (pe_callD C_position_sets (hr.mono (by decide)) (by rfl) (pa_cons (pv 1) pa_nil)))
      (pss_cons (ps_set (i := 5) sc_boxes_in.nd rfl (by first | exact Or.inl rfl | exact Or.inr rfl) (pe_callB call_len (by rfl) T.m_len b_len (pa_cons (pv 2) pa_nil)))
      (pss_cons (ps_for PassesOwn.never rfl (pi_range1 (by rfl) T.m_range (pa_cons (pe_op op_add (pe_op op_sub (pe_callB call_len (by rfl) T.m_len b_len (pa_cons (pv 1) pa_nil)) (pv 5)) pe_int) pa_nil)) (pg_name (i := 6) sc_boxes_in.nd rfl (by first | exact Or.inl rfl | exact Or.inr rfl)) (pss_one (ps_for PassesOwn.never rfl (pi_range1 (by rfl) T.m_range (pa_cons (pe_callB call_len (by rfl) T.m_len b_len (pa_cons (pe_const (by rfl) g_CASES) pa_nil)) pa_nil)) (pg_name (i := 7) sc_boxes_in.nd rfl (by first | exact Or.inl rfl | exact Or.inr rfl)) (pss_one (ps_if (pt_cmpR (op_eqD hr.units) (pe_callD C_turned (hr.mono (by decide)) (by rfl) (pa_cons (pe_slice sl_list (pv 1) (po_some (pv 6)) (po_some (pe_op op_add (pv 6) (pv 5)))) (pa_cons (pv 7) pa_nil))) (pv 2) (nomark _)) (pss_one (ps_expr (pe_bm PySem.F.plainAttrs_list PySem.F.slot_list_append PySem.F.type_list_append mt_append (pv 3) (pa_cons (pe_newD N_Box (hr.mono (by decide)) (by rfl) (pa_cons (pv 0) (pa_cons (pv 7) (pa_cons (pe_ix ix_list (pv 4) (pv 6) (fun _ _ => rfl)) (pa_cons (pe_ix ix_list (pv 4) (pe_op op_add (pv 6) (pv 5)) (fun _ _ => rfl)) pa_nil))))) pa_nil)))) pss_nil)))))
      (pss_one (ps_ret (pv 3))))))), ?_⟩
    have hl := hg.1
    obtain ⟨at_, rfl, hat⟩ := id hbt
    obtain ⟨au, rfl, hau⟩ := id hbu
    refine ⟨sz0, fun p hp => ?_⟩
    have g1 : Grow [] D H D (upd H p (.lst [])) := (Grow.refl hs).tmp hp
    refine ⟨_, rfl, D, t, .ref at_, rfl, g1.s, hbt, hg, fun D2 H2 v2 g2 b2 => ?_⟩
    obtain ⟨asl, xss, rfl, hss, zss⟩ := b2
    have g12 := g1.trans g2
    have hpn : H p = none := hp
    have hp2 : H2 p = some (.lst []) := g2.h p _ (by simp) upd_same
    have hd2 : D2 p = none := g2.keep (by rw [upd_same]; exact Option.some_ne_none _) (hs.none hp)
    have ht2 : D2 at_ = some (.lst (tv t)) := g2.d _ _ hat
    have hu2 : D2 au = some (.lst (tv u)) := g2.d _ _ hau
    refine ⟨_, rfl, _, u.length, rfl, .inl ⟨_, SqL.of (g2.s _ _ hu2), by simp⟩, ?_⟩
    refine ⟨_, rfl, _, t.length, rfl, .inl ⟨_, SqL.of (g2.s _ _ ht2), by simp⟩, _, rfl, _, _, rfl, rfl, _, _, rfl, rfl, _, rfl, by omega, by omega, ?_⟩
    refine for_it walk_range0 (fun i σ H' => ∃ x6 x7 D' acc, σ = [some (nv num), some (.ref at_), some (.ref au), some (.ref p), some (.ref asl), some (.int (u.length : Nat)), x6, x7] ∧ Grow [p] D2 H2 D' H' ∧ H' p = some (.lst acc) ∧ All2 (BoxAt K w CP CB D') acc (boxesTo num t u i)) ?_ ?_ ?_ ?_
    · exact ⟨_, _, D2, [], rfl, Grow.refl g2.s, hp2, trivial⟩
    · intros; trivial
    · rintro i x σ H0 H' hi ⟨x6, x7, D', acc, rfl, g, hacc, z⟩ ⟨rfl, rfl⟩
      have hi2 : i + u.length ≤ t.length := by omega
      refine ⟨_, 4, rfl, .inr ⟨_, qCASES _, rfl⟩, _, rfl, by omega, by omega, ?_⟩
      have h1len : acc.length ≤ 4 * i := by rw [z.length]; exact boxesTo_le _ _ _ _
      refine for_it (walk_range0 (n := 4)) (fun j σ H' => ∃ x7 D' acc, σ = [some (nv num), some (.ref at_), some (.ref au), some (.ref p), some (.ref asl), some (.int (u.length : Nat)), some (.int (i : Nat)), x7] ∧ Grow [p] D2 H2 D' H' ∧ H' p = some (.lst acc) ∧ acc.length ≤ 4 * i + j ∧ All2 (BoxAt K w CP CB D') acc (boxesTo num t u i ++ (Vaflxb.allCases.take j).filterMap (box1 num t u i))) ?_ ?_ ?_ ?_
      · exact ⟨_, D', acc, rfl, g, hacc, h1len, by rw [List.take_zero, List.filterMap_nil, List.append_nil]; exact z⟩
      · intros; trivial
      · rintro j y σ H3' H3 hj ⟨x7, D3, acc3, rfl, g3, hacc3, hl3, z3⟩ ⟨rfl, rfl⟩
        obtain ⟨kc, hkc, hkn⟩ := case_at hj
        refine ⟨_, rfl, _, rfl, _, rfl, _, rfl, _, rfl, _, _, rfl, rfl, _, rfl, at_, _, rfl, SqL.of (g3.s _ _ (g3.d _ _ ht2)), fun q hq => ?_⟩
        have ecut : cutV (tv t) (some ((i : Nat) : Int)) (some (((i : Nat) : Int) + ((u.length : Nat) : Int))) = tv ((t.drop i).take u.length) := by
          rw [show ((i : Nat) : Int) + ((u.length : Nat) : Int) = ((i + u.length : Nat) : Int) by omega, cutV_nat, show i + u.length - i = u.length by omega, tv_drop, tv_take]
        rw [ecut]
        have g4 := Grow.fresh (M := []) (u := .lst (tv ((t.drop i).take u.length))) g3.s hq
        refine ⟨_, rfl, upd D3 q (.lst (tv ((t.drop i).take u.length))), (t.drop i).take u.length, kc, .ref q, by rw [hkn]; rfl, g4.s, ⟨q, rfl, upd_same⟩, by rw [List.length_take, List.length_drop]; omega, fun D5 H5 r g5 b5 => ?_⟩
        obtain ⟨ar, rfl, har⟩ := b5
        have hu5 : D5 au = some (.lst (tv u)) := g5.d _ _ (g4.d _ _ (g3.d _ _ hu2))
        refine ⟨_, rfl, _, _, .lst (SqL.of (g5.s _ _ har)) (dpAll_tv _), .lst (SqL.of (g5.s _ _ hu5)) (dpAll_tv _), shaped_dL _, shaped_dL _, _, rfl, ?_⟩
        rw [show (PyData.list ((Vaflxa.cased kc ((t.drop i).take u.length)).map fun c => .int (c.toNat : Int))).eqv (.list (u.map fun c => .int (c.toNat : Int))) = decide (Vaflxa.cased kc ((t.drop i).take u.length) = u) from eqv_dL _ _]
        have g45 := g4.trans g5
        have hacc5 : H5 p = some (.lst acc3) := g45.h p _ (by simp) hacc3
        have hD3p : D3 p = none := (g3.n p (ne_none hp2)).trans hd2
        have hD5p : D5 p = none := g45.keep (ne_none hacc3) hD3p
        have z5 : All2 (BoxAt K w CP CB D5) acc3 (boxesTo num t u i ++ (Vaflxb.allCases.take j).filterMap (box1 num t u i)) := z3.mono fun _ _ q => BoxAt.mono g45.d q
        have G5 := g3.trans g45.anyM
        have hsplit := filterMap_take (box1 num t u i) Vaflxb.allCases j kc hkc
        by_cases hc : Vaflxa.cased kc ((t.drop i).take u.length) = u
        · rw [decide_eq_true hc]
          have hb1 : box1 num t u i kc = some { field := num, case_ := kc, left := Vaflxb.positionsAt t i, right := Vaflxb.positionsAt t (i + u.length) } := if_pos hc
          have zget : ∀ m, m ≤ t.length → ∃ vv, xss[m]? = some vv ∧ PSet K w CP D5 vv (Vaflxb.positionsAt t m) := fun m hm => by
            obtain ⟨vv, h1, h2⟩ := zss.get' (i := m) (b := ordAt t m) (by rw [List.getElem?_map, List.getElem?_range (by omega)]; rfl)
            refine ⟨vv, h1, ?_⟩
            rw [ordAt_eq]
            exact PSet.mono (g3.d.trans g45.d) h2
          obtain ⟨lv, hlv, plv⟩ := zget i (by omega)
          obtain ⟨rv, hrv, prv⟩ := zget (i + u.length) hi2
          have hss5 : H5 asl = some (.lst xss) := g5.s _ _ (g45.d _ _ (g3.d _ _ hss))
          refine iteT ⟨_, rfl, .inl ⟨rfl, _, SqL.of hacc5⟩, _, rfl, _, rfl, _, rfl, _, rfl, asl, xss, _, lv, rfl, rfl, SqL.of hss5, atI_nat hlv, _, rfl, _, rfl, _, rfl, _, _, rfl, rfl, asl, xss, _, rv, rfl, rfl, SqL.of hss5, ?_, ?_⟩
          · have := atI_nat hrv
            rw [show ((i + u.length : Nat) : Int) = ((i : Nat) : Int) + ((u.length : Nat) : Int) by omega] at this
            exact this
          · intro x dx hx hdx ne
            refine ⟨x, dx, _, rfl, rfl, upd_same, rfl, ?_⟩
            have g6 := make_use (C := CB) (fs := boxFs { field := num, case_ := kc, left := Vaflxb.positionsAt t i, right := Vaflxb.positionsAt t (i + u.length) } lv rv) g5.s hx hdx ne
            have hfs : boxFs { field := num, case_ := kc, left := Vaflxb.positionsAt t i, right := Vaflxb.positionsAt t (i + u.length) } lv rv = ([("field", nv num), ("case", .int (j : Nat)), ("left", lv), ("right", rv)] : List (Str × V)) := by
              unfold boxFs; rw [hkn]
            rw [hfs] at g6
            have hacc6 := g6.h p _ (by simp) hacc5
            have hD6p := g6.keep (ne_none hacc5) hD5p
            refine ⟨p, acc3, .ref x, rfl, rfl, hacc6, small_lt (by omega), ?_⟩
            have G6 := (G5.trans g6.anyM).write (u := .lst (acc3 ++ [.ref x])) (.inr (List.mem_singleton.mpr rfl)) hD6p
            refine ⟨_, _, acc3 ++ [.ref x], rfl, G6, upd_same, by rw [List.length_append]; simp; omega, ?_⟩
            rw [hsplit, hb1, ← List.append_assoc]
            exact (z5.mono fun _ _ q => BoxAt.mono g6.d q).snoc ⟨x, dx, lv, rv, rfl, by rw [upd_same, hfs], PSet.mono g6.d plv, PSet.mono g6.d prv⟩
        · rw [decide_eq_false hc]
          have hb1 : box1 num t u i kc = none := if_neg hc
          refine iteF ⟨_, D5, acc3, rfl, G5, hacc5, by omega, ?_⟩
          rw [hsplit, hb1]
          simp only [Option.toList_none, List.append_nil]
          exact z5
      · rintro σ H3 ⟨x7, D3, acc3, rfl, g3, hacc3, hl3, z3⟩
        refine ⟨_, _, D3, acc3, rfl, g3, hacc3, ?_⟩
        have e : boxesTo num t u (i + 1) = boxesTo num t u i ++ (Vaflxb.allCases.take 4).filterMap (box1 num t u i) := by
          unfold boxesTo
          rw [List.range_succ, List.flatMap_append]
          simp [Vaflxb.allCases]
        rw [e]
        exact z3
    · rintro σ H' ⟨x6, x7, D', acc, rfl, g, hacc, z⟩
      refine ⟨_, rfl, ?_⟩
      rw [boxesTo_eq] at z
      have G := g12.own g hpn
      exact k _ _ _ (G.all hs) ⟨p, acc, rfl, by rw [Fz.new hpn]; exact hacc, z.mono fun _ _ q => BoxAt.mono G.sub q⟩
end
end Ps
set_option Elab.async false
set_option linter.all false
set_option maxRecDepth 100000
set_option maxHeartbeats 2000000
namespace Ps
open PySem PySem.Spec PyProof.Rows L2 Gd
theorem sameCase_iff (a b : Vaflxa.Case) : Vaflxb.sameCase a b = true ↔ Vaflxb.caseNumber a = Vaflxb.caseNumber b := by
  cases a <;> cases b <;> simp [Vaflxb.sameCase, Vaflxb.caseNumber]
theorem meetBox_eq (a b : Bx) : Vaflxb.meetBox a b = if a.field = b.field ∧ Vaflxb.caseNumber a.case_ = Vaflxb.caseNumber b.case_ ∧ Vaflxb.meetPos a.left b.left ≠ [] ∧ Vaflxb.meetPos a.right b.right ≠ [] then
    some { field := a.field, case_ := a.case_, left := Vaflxb.meetPos a.left b.left, right := Vaflxb.meetPos a.right b.right } else none := by
  unfold Vaflxb.meetBox
  by_cases h : a.field = b.field ∧ Vaflxb.sameCase a.case_ b.case_ = true
  · rw [if_pos h]
    have h2 := (sameCase_iff _ _).mp h.2
    cases e1 : Vaflxb.meetPos a.left b.left with
    | nil => rw [if_neg fun z => z.2.2.1 rfl]
    | cons p l =>
      cases e2 : Vaflxb.meetPos a.right b.right with
      | nil => rw [if_neg fun z => z.2.2.2 rfl]
      | cons q r => rw [if_pos ⟨h.1, h2, List.cons_ne_nil _ _, List.cons_ne_nil _ _⟩]
  · rw [if_neg h, if_neg fun z => h ⟨z.1, (sameCase_iff _ _).mpr z.2.1⟩]
theorem wf_meetBox {a b c : Bx} (h : wfB a) (e : Vaflxb.meetBox a b = some c) : wfB c := by
  rw [meetBox_eq] at e
  split at e
  · rename_i z
    cases e
    exact ⟨wf_meet h.l, wf_meet h.r, z.2.2.1, z.2.2.2, h.f1, h.f2⟩
  · cases e
theorem boxesIn_le {num : Nat} {t u : Tx} (h : t.length ≤ 40) : (Vaflxb.boxesIn num t u).length ≤ 164 := by
  rw [← boxesTo_eq]
  refine Nat.le_trans (boxesTo_le _ _ _ _) ?_
  omega
theorem take_flat_le {α β : Type} (f : α → List β) (xs : List α) (i : Nat) : ((xs.take i).flatMap f).length ≤ (xs.flatMap f).length := by
  have e : xs = xs.take i ++ xs.drop i := (List.take_append_drop i xs).symm
  have : (xs.flatMap f).length = ((xs.take i).flatMap f).length + ((xs.drop i).flatMap f).length := by
    conv => lhs; rw [e]
    rw [List.flatMap_append, List.length_append]
  omega
theorem take_filterMap_le {α β : Type} (f : α → Option β) (xs : List α) (i : Nat) : ((xs.take i).filterMap f).length ≤ (xs.filterMap f).length := by
  have e : xs = xs.take i ++ xs.drop i := (List.take_append_drop i xs).symm
  have : (xs.filterMap f).length = ((xs.take i).filterMap f).length + ((xs.drop i).filterMap f).length := by
    conv => lhs; rw [e]
    rw [List.filterMap_append, List.length_append]
  omega
theorem sum_eq (l : List Nat) : Vaflxb.sum l = l.sum := by
  unfold Vaflxb.sum
  rw [List.sum_eq_foldl]
theorem sum_int (l : List Nat) : (l.map fun n => ((n : Nat) : Int)).sum = ((l.sum : Nat) : Int) := by
  induction l with
  | nil => rfl
  | cons n l ih => rw [List.map_cons, List.sum_cons, List.sum_cons, ih]; omega
/-- a record that stands -/
def RecAt (D : Hp) (v : V) (r : List Tx) : Prop := ∃ a xs, v = .ref a ∧ D a = some (.lst xs) ∧ All2 (BL D) xs r
theorem RecAt.mono {D D' : Hp} {v : V} {r : List Tx} (h : Sub D D') (q : RecAt D v r) : RecAt D' v r :=
  let ⟨a, xs, e, z, b⟩ := q; ⟨a, xs, e, h _ _ z, b.mono fun _ _ q => q.mono h⟩
end Ps
set_option Elab.async false
set_option linter.all false
set_option maxRecDepth 100000
set_option maxHeartbeats 2000000
namespace Ps
open PySem PySem.Spec PyProof.Rows L2 Gd
section
variable {P : Program} {w : World} {K : PySem.W.Frag} {mg : Str → Option Value} {base : Heap} {CP CB CPs CPc CS CC : Addr} {f : Addr} {fd : FuncData}
def sp_pieces_for (w : World) (K : PySem.W.Frag) (CP CB CPs CPc CS CC : Addr) : Sp := fun vs H Q _ => ∃ D r u rv ov, vs = [rv, ov] ∧ Sub D H ∧ RecAt D rv r ∧ (∀ t ∈ r, good t) ∧ r.length ≤ 4 ∧ BL D ov u ∧ u.length ≤ 40 ∧ ∀ D' H' v, Grow [] D H D' H' → PcsAt K w CP CB CPs D' v (Vaflxb.piecesFor r u) → Q v H'
abbrev s_pieces_for : Stmt := topS 49
theorem sc_pieces_for : FnScope ["record", "output", "constant", "boxes", "k", "field"] ["record", "output"] (defScope s_pieces_for) := ⟨rfl, rfl, rfl, by decide +kernel, rfl, by decide +kernel, by decide +kernel⟩
theorem ok_pieces_for (F : Fun K "pieces_for" "pieces_for" s_pieces_for f fd) (T : Txt K mg CP CB CPs CPc CS CC) (N_Pieces : NewD P w K mg base 1 "Pieces" CPs ["self", "constant", "boxes"] (spInit CPs ["constant", "boxes"])) (C_boxes_in : Def P w K mg base 8 "boxes_in" ["number", "field", "output"] (sp_boxes_in w K CP CB CPs CPc CS CC)) : FnOk P w K mg base CX0 9 f fd ["record", "output"] (sp_pieces_for w K CP CB CPs CPc CS CC) := by
  refine F.ok sc_pieces_for (fun vs H Q E h => ?_) (fun cdv A outer s H vs Q E hr h => ?_)
  · obtain ⟨_, _, _, _, _, rfl, _⟩ := h; rfl
  · obtain ⟨D, r, u, rv, ov, rfl, hs, hr0, hgr, hrl, hbu, hul, k⟩ := h
    refine ⟨_, (pss_cons (ps_set (i := 2) sc_pieces_for.nd rfl (by first | exact Or.inl rfl | exact Or.inr rfl) pe_non)
      (pss_cons (ps_if (pt_cmpR op_le (pe_callB call_len (by rfl) T.m_len b_len (pa_cons (pv 1) pa_nil)) (pe_const (by rfl) T.g_MOST_CONSTANT) (nomark _)) (pss_one (ps_set (i := 2) sc_pieces_for.nd rfl (by first | exact Or.inl rfl | exact Or.inr rfl) (pe_callTy call_list_of (by rfl) T.m_list b_list (pa_cons (pv 1) pa_nil)))) pss_nil)
      (pss_cons (ps_set (i := 3) sc_pieces_for.nd rfl (by first | exact Or.inl rfl | exact Or.inr rfl) (pe_lst pa_nil))
      (pss_cons (ps_for PassesOwn.never rfl (pi_enum (by rfl) T.m_enumerate (pa_cons (pv 0) pa_nil)) (pg_tup rfl (pgs_cons (pg_name (i := 4) sc_pieces_for.nd rfl (by first | exact Or.inl rfl | exact Or.inr rfl)) (pgs_cons (pg_name (i := 5) sc_pieces_for.nd rfl (by first | exact Or.inl rfl | exact Or.inr rfl)) pgs_nil))) (pss_one (ps_expr (pe_bm PySem.F.plainAttrs_list PySem.F.slot_list_extend PySem.F.type_list_extend mt_extend (pv 3) (pa_cons (pe_callD C_boxes_in (hr.mono (by decide)) (by rfl) (pa_cons (pe_op op_add (pv 4) pe_int) (pa_cons (pv 5) (pa_cons (pv 1) pa_nil)))) pa_nil)))))
      (pss_one (ps_ret (pe_newD N_Pieces (hr.mono (by decide)) (by rfl) (pa_cons (pv 2) (pa_cons (pv 3) pa_nil))))))))), ?_⟩
    obtain ⟨au, rfl, hau⟩ := id hbu
    obtain ⟨ar, xr, rfl, har, zr⟩ := id hr0
    have hlr := zr.length
    refine ⟨_, rfl, _, u.length, rfl, .inl ⟨_, SqL.of (hs _ _ hau), by simp⟩, _, _, rfl, rfl, _, rfl, ?_⟩
    by_cases hc : u.length ≤ 12
    · rw [decide_eq_true (p := ((u.length : Nat) : Int) ≤ 12) (by omega)]
      refine iteT ⟨_, rfl, au, _, rfl, .inl (SqL.of (hs _ _ hau)), fun q hq => ?_⟩
      have g1 := Grow.fresh (M := []) (u := .lst (tv u)) hs hq
      have hcv : ConstAt (upd D q (.lst (tv u))) (.ref q) (Vaflxb.piecesFor r u).const := by
        have : (Vaflxb.piecesFor r u).const = some u := if_pos hc
        rw [this]
        exact ⟨q, rfl, upd_same⟩
      refine ⟨sz0, fun p hp => ?_⟩
      have g2 : Grow [] (upd D q (.lst (tv u))) (upd H q (.lst (tv u))) (upd D q (.lst (tv u))) (upd (upd H q (.lst (tv u))) p (.lst [])) := (Grow.refl g1.s).tmp hp
      have hpn : H p = none := g1.newOf hp
      have hdp : (upd D q (.lst (tv u))) p = none := g1.s.none hp
      refine ⟨_, rfl, ar, xr, rfl, SqL.of (g2.s _ _ (g1.d _ _ har)), for_it (walk_enum (xs := xr)) (fun i σ H' => ∃ x4 x5 D' acc, σ = [some (.ref ar), some (.ref au), some (.ref q), some (.ref p), x4, x5] ∧ Grow [p] (upd D q (.lst (tv u))) (upd (upd H q (.lst (tv u))) p (.lst [])) D' H' ∧ H' p = some (.lst acc) ∧ acc.length ≤ 164 * i ∧ All2 (BoxAt K w CP CB D') acc ((r.zipIdx.take i).flatMap fun x => Vaflxb.boxesIn (x.2 + 1) x.1 u)) ?_ ?_ ?_ ?_⟩
      · exact ⟨_, _, _, [], rfl, Grow.refl g2.s, upd_same, Nat.zero_le _, trivial⟩
      · rintro i σ H' hi ⟨x4, x5, D', acc, rfl, g, _⟩
        exact SqL.of (g.s _ _ (g.d _ _ (g1.d _ _ har)))
      · rintro i x σ H0 H' hi ⟨x4, x5, D', acc, rfl, g, hacc, hal, z⟩ ⟨T0, x1, y1, rfl, hT, rfl, e1, e2⟩
        cases e1
        obtain ⟨t, ht, bt⟩ := zr.get e2
        have g3 : Grow [] D' H0 D' (upd H0 T0 (.tup [.int (i : Nat), y1])) := (Grow.refl g.s).tmp hT
        have htm := List.mem_of_getElem? ht
        have hgt := hgr t htm
        refine ⟨T0, _, rfl, SqT.of upd_same, rfl, _, _, rfl, _, _, rfl, rfl, _, rfl, .inl ⟨rfl, acc, SqL.of (g3.h p _ (by simp) hacc)⟩, _, rfl, _, _, rfl, rfl, _, rfl, _, rfl, D', i + 1, t, u, y1, .ref au, rfl, g3.s, bt.mono (g1.d.trans g.d), hgt, hbu.mono (g1.d.trans g.d), hul, fun D5 H5 v5 g5 b5 => ?_⟩
        obtain ⟨a5, xs5, rfl, e5, z5⟩ := b5
        have g35 := g3.trans g5
        have hp5 : H5 p = some (.lst acc) := g35.h p _ (by simp) hacc
        have h5 := z5.length
        have h5' := boxesIn_le (num := i + 1) (u := u) hgt.1
        refine ⟨p, a5, acc, xs5, rfl, rfl, hp5, g5.s _ _ e5, small_le (by omega), ?_⟩
        have g6 : Grow [p] (upd D q (.lst (tv u))) (upd (upd H q (.lst (tv u))) p (.lst [])) D5 H5 := g.trans g35.anyM
        have hd6 : D5 p = none := (g6.n p (by rw [upd_same]; exact Option.some_ne_none _)).trans hdp
        refine ⟨_, _, D5, acc ++ xs5, rfl, g6.write (.inr (List.mem_singleton.mpr rfl)) hd6, upd_same, by rw [List.length_append]; omega, ?_⟩
        have hz : r.zipIdx[i]? = some (t, i) := by rw [List.getElem?_zipIdx, ht]; simp
        rw [flatMap_take _ _ _ _ hz]
        exact (z.mono fun _ _ q => BoxAt.mono g35.d q).app z5
      · rintro σ H' ⟨x4, x5, D', acc, rfl, g, hacc, hal, z⟩
        rw [List.take_of_length_le (by rw [List.length_zipIdx]; omega)] at z
        have G := (g1.trans g2).own g hpn
        have G2 := G.all hs
        have hp' : Fz H D H' p = some (.lst acc) := by rw [Fz.new hpn]; exact hacc
        refine ⟨_, rfl, _, rfl, fun x dx hx hdx ne => ⟨x, dx, _, rfl, rfl, upd_same, rfl, ?_⟩⟩
        have g7 := fun fs => make_use (C := CPs) (fs := fs) G2.s hx hdx ne
        refine k _ _ _ (G2.trans (make_use (C := CPs) G2.s hx hdx ne)) ⟨x, dx, (.ref q), .ref p, rfl, upd_same, ?_, ?_⟩
        · exact ConstAt.mono (g7 _).d (ConstAt.mono (g.d.trans G.sub) hcv)
        · exact BoxL.mono (g7 _).d ⟨p, acc, rfl, hp', z.mono fun _ _ q => BoxAt.mono G.sub q⟩
    · rw [decide_eq_false (p := ((u.length : Nat) : Int) ≤ 12) (by omega)]
      refine iteF ?_
      have g1 : Grow [] D H D H := Grow.refl hs
      have hcv : ConstAt D .non (Vaflxb.piecesFor r u).const := by
        have : (Vaflxb.piecesFor r u).const = none := if_neg hc
        rw [this]; rfl
      refine ⟨sz0, fun p hp => ?_⟩
      have g2 : Grow [] D H D (upd H p (.lst [])) := (Grow.refl g1.s).tmp hp
      have hpn : H p = none := g1.newOf hp
      have hdp : D p = none := g1.s.none hp
      refine ⟨_, rfl, ar, xr, rfl, SqL.of (g2.s _ _ (g1.d _ _ har)), for_it (walk_enum (xs := xr)) (fun i σ H' => ∃ x4 x5 D' acc, σ = [some (.ref ar), some (.ref au), some .non, some (.ref p), x4, x5] ∧ Grow [p] D (upd H p (.lst [])) D' H' ∧ H' p = some (.lst acc) ∧ acc.length ≤ 164 * i ∧ All2 (BoxAt K w CP CB D') acc ((r.zipIdx.take i).flatMap fun x => Vaflxb.boxesIn (x.2 + 1) x.1 u)) ?_ ?_ ?_ ?_⟩
      · exact ⟨_, _, _, [], rfl, Grow.refl g2.s, upd_same, Nat.zero_le _, trivial⟩
      · rintro i σ H' hi ⟨x4, x5, D', acc, rfl, g, _⟩
        exact SqL.of (g.s _ _ (g.d _ _ (g1.d _ _ har)))
      · rintro i x σ H0 H' hi ⟨x4, x5, D', acc, rfl, g, hacc, hal, z⟩ ⟨T0, x1, y1, rfl, hT, rfl, e1, e2⟩
        cases e1
        obtain ⟨t, ht, bt⟩ := zr.get e2
        have g3 : Grow [] D' H0 D' (upd H0 T0 (.tup [.int (i : Nat), y1])) := (Grow.refl g.s).tmp hT
        have htm := List.mem_of_getElem? ht
        have hgt := hgr t htm
        refine ⟨T0, _, rfl, SqT.of upd_same, rfl, _, _, rfl, _, _, rfl, rfl, _, rfl, .inl ⟨rfl, acc, SqL.of (g3.h p _ (by simp) hacc)⟩, _, rfl, _, _, rfl, rfl, _, rfl, _, rfl, D', i + 1, t, u, y1, .ref au, rfl, g3.s, bt.mono (g1.d.trans g.d), hgt, hbu.mono (g1.d.trans g.d), hul, fun D5 H5 v5 g5 b5 => ?_⟩
        obtain ⟨a5, xs5, rfl, e5, z5⟩ := b5
        have g35 := g3.trans g5
        have hp5 : H5 p = some (.lst acc) := g35.h p _ (by simp) hacc
        have h5 := z5.length
        have h5' := boxesIn_le (num := i + 1) (u := u) hgt.1
        refine ⟨p, a5, acc, xs5, rfl, rfl, hp5, g5.s _ _ e5, small_le (by omega), ?_⟩
        have g6 : Grow [p] D (upd H p (.lst [])) D5 H5 := g.trans g35.anyM
        have hd6 : D5 p = none := (g6.n p (by rw [upd_same]; exact Option.some_ne_none _)).trans hdp
        refine ⟨_, _, D5, acc ++ xs5, rfl, g6.write (.inr (List.mem_singleton.mpr rfl)) hd6, upd_same, by rw [List.length_append]; omega, ?_⟩
        have hz : r.zipIdx[i]? = some (t, i) := by rw [List.getElem?_zipIdx, ht]; simp
        rw [flatMap_take _ _ _ _ hz]
        exact (z.mono fun _ _ q => BoxAt.mono g35.d q).app z5
      · rintro σ H' ⟨x4, x5, D', acc, rfl, g, hacc, hal, z⟩
        rw [List.take_of_length_le (by rw [List.length_zipIdx]; omega)] at z
        have G := (g1.trans g2).own g hpn
        have G2 := G.all hs
        have hp' : Fz H D H' p = some (.lst acc) := by rw [Fz.new hpn]; exact hacc
        refine ⟨_, rfl, _, rfl, fun x dx hx hdx ne => ⟨x, dx, _, rfl, rfl, upd_same, rfl, ?_⟩⟩
        have g7 := fun fs => make_use (C := CPs) (fs := fs) G2.s hx hdx ne
        refine k _ _ _ (G2.trans (make_use (C := CPs) G2.s hx hdx ne)) ⟨x, dx, .non, .ref p, rfl, upd_same, ?_, ?_⟩
        · exact ConstAt.mono (g7 _).d (ConstAt.mono (g.d.trans G.sub) hcv)
        · exact BoxL.mono (g7 _).d ⟨p, acc, rfl, hp', z.mono fun _ _ q => BoxAt.mono G.sub q⟩
def sp_common_box (w : World) (K : PySem.W.Frag) (CP CB CPs CPc CS CC : Addr) : Sp := fun vs H Q _ => ∃ D a b v1 v2, vs = [v1, v2] ∧ Sub D H ∧ BoxAt K w CP CB D v1 a ∧ BoxAt K w CP CB D v2 b ∧ wfB a ∧ wfB b ∧ (Vaflxb.meetBox a b = none → ∀ D' H', Grow [] D H D' H' → Q .non H') ∧ (∀ c, Vaflxb.meetBox a b = some c → ∀ D' H' v, Grow [] D H D' H' → BoxAt K w CP CB D' v c → Q v H')
abbrev s_common_box : Stmt := topS 50
theorem sc_common_box : FnScope ["one", "other", "left", "right"] ["one", "other"] (defScope s_common_box) := ⟨rfl, rfl, rfl, by decide +kernel, rfl, by decide +kernel, by decide +kernel⟩
theorem ok_common_box (F : Fun K "common_box" "common_box" s_common_box f fd) (T : Txt K mg CP CB CPs CPc CS CC) (N_Box : NewD P w K mg base 1 "Box" CB ["self", "field", "case", "left", "right"] (spInit CB ["field", "case", "left", "right"])) (C_common : Def P w K mg base 1 "common" ["one", "other"] (sp_common w K CP CB CPs CPc CS CC)) : FnOk P w K mg base CX0 3 f fd ["one", "other"] (sp_common_box w K CP CB CPs CPc CS CC) := by
  refine F.ok sc_common_box (fun vs H Q E h => ?_) (fun cdv A outer s H vs Q E hr h => ?_)
  · obtain ⟨_, _, _, _, _, rfl, _⟩ := h; rfl
  · obtain ⟨D, a, b, v1, v2, rfl, hs, ⟨a1, dx1, l1, r1, rfl, h1, pl1, pr1⟩, ⟨a2, dx2, l2, r2, rfl, h2, pl2, pr2⟩, hwa, hwb, k0, k1⟩ := h
    refine ⟨_, (pss_cons (ps_if (PW.pt (pw_or (pt_cmpR op_ne (pe_fld (pv 0) rfl) (pe_fld (pv 1) rfl) (nomark _)) (pw_or1 (pt_cmpR op_ne (pe_fld (pv 0) rfl) (pe_fld (pv 1) rfl) (nomark _))))) (pss_one (ps_ret pe_non)) pss_nil)
      (pss_cons (ps_set (i := 2) sc_common_box.nd rfl (by first | exact Or.inl rfl | exact Or.inr rfl) (pe_callD C_common (hr.mono (by decide)) (by rfl) (pa_cons (pe_fld (pv 0) rfl) (pa_cons (pe_fld (pv 1) rfl) pa_nil))))
      (pss_cons (ps_set (i := 3) sc_common_box.nd rfl (by first | exact Or.inl rfl | exact Or.inr rfl) (pe_callD C_common (hr.mono (by decide)) (by rfl) (pa_cons (pe_fld (pv 0) rfl) (pa_cons (pe_fld (pv 1) rfl) pa_nil))))
      (pss_cons (ps_if (PW.pt (pw_or (pt_cmpR (op_eqG hr.units) (pv 2) pe_newG (nomark _)) (pw_or1 (pt_cmpR (op_eqG hr.units) (pv 3) pe_newG (nomark _))))) (pss_one (ps_ret pe_non)) pss_nil)
      (pss_one (ps_ret (pe_newD N_Box (hr.mono (by decide)) (by rfl) (pa_cons (pe_fld (pv 0) rfl) (pa_cons (pe_fld (pv 0) rfl) (pa_cons (pv 2) (pa_cons (pv 3) pa_nil))))))))))), ?_⟩
    rw [meetBox_eq] at k0 k1
    have L1 := lookup_boxFs a l1 r1
    have L2 := lookup_boxFs b l2 r2
    have nvi : ∀ m n : Nat, decide (nv m = nv n) = decide (m = n) := fun m n => decide_eq_decide.mpr ⟨fun e => by have := V.int.inj e; omega, fun e => by rw [e]⟩
    refine ⟨_, rfl, a1, CB, dx1, _, _, rfl, hs _ _ h1, T.clB, T.nB _ (by simp), L1.1, _, rfl, a2, CB, dx2, _, _, rfl, hs _ _ h2, T.clB, T.nB _ (by simp), L2.1, rfl, _, rfl, ?_⟩
    rw [nvi]
    by_cases hf : a.field = b.field
    · rw [decide_eq_true hf]
      refine iteF ⟨_, rfl, a1, CB, dx1, _, _, rfl, hs _ _ h1, T.clB, T.nB _ (by simp), L1.2.1, _, rfl, a2, CB, dx2, _, _, rfl, hs _ _ h2, T.clB, T.nB _ (by simp), L2.2.1, rfl, _, rfl, ?_⟩
      rw [nvi]
      by_cases hk : Vaflxb.caseNumber a.case_ = Vaflxb.caseNumber b.case_
      · rw [decide_eq_true hk]
        refine iteF ⟨_, rfl, a1, CB, dx1, _, _, rfl, hs _ _ h1, T.clB, T.nB _ (by simp), L1.2.2.1, _, rfl, a2, CB, dx2, _, _, rfl, hs _ _ h2, T.clB, T.nB _ (by simp), L2.2.2.1, D, a.left, b.left, l1, l2, rfl, hs, pl1, pl2, hwa.l.nd, Nat.le_trans hwa.l.len (by decide), fun D3 H3 lv g3 bl => ?_⟩
        rw [meetT_eq hwa.l.wf hwb.l.wf] at bl
        have g3s := g3.s
        refine ⟨_, rfl, a1, CB, dx1, _, _, rfl, g3s _ _ (g3.d _ _ h1), T.clB, T.nB _ (by simp), L1.2.2.2, _, rfl, a2, CB, dx2, _, _, rfl, g3s _ _ (g3.d _ _ h2), T.clB, T.nB _ (by simp), L2.2.2.2, D3, a.right, b.right, r1, r2, rfl, g3s, PSet.mono g3.d pr1, PSet.mono g3.d pr2, hwa.r.nd, Nat.le_trans hwa.r.len (by decide), fun D4 H4 rv g4 br => ?_⟩
        rw [meetT_eq hwa.r.wf hwb.r.wf] at br
        obtain ⟨dl, xl, epl, rfl, hdl, zl⟩ := PSet.mono g4.d bl
        obtain ⟨dr, xr, epr, rfl, hdr, zr⟩ := id br
        refine ⟨_, rfl, fun d hd => ?_⟩
        have g5 : Grow [] D4 H4 D4 (upd H4 d (GD w d [] 0)) := (Grow.refl g4.s).tmp hd
        have G5 := (g3.trans g4).trans g5
        refine ⟨dl, xl, epl, d, 0, rfl, rfl, g5.s _ _ hdl, upd_same, _, rfl, ?_⟩
        cases xl with
        | nil =>
          have e0 : Vaflxb.meetPos a.left b.left = [] := List.length_eq_zero_iff.mp zl.length.symm
          rw [if_neg fun z => z.2.2.1 e0] at k0
          exact iteT (iteT (k0 rfl _ _ G5))
        | cons xl0 xl1 =>
          have e0 : Vaflxb.meetPos a.left b.left ≠ [] := fun e => by rw [e] at zl; exact zl
          refine iteF ⟨_, rfl, fun d2 hd2 => ?_⟩
          have g6 : Grow [] D4 _ D4 (upd _ d2 (GD w d2 [] 0)) := (Grow.refl g5.s).tmp hd2
          have G6 := G5.trans g6
          refine ⟨dr, xr, epr, d2, 0, rfl, rfl, g6.s _ _ hdr, upd_same, _, rfl, ?_⟩
          cases xr with
          | nil =>
            have e1 : Vaflxb.meetPos a.right b.right = [] := List.length_eq_zero_iff.mp zr.length.symm
            rw [if_neg fun z => z.2.2.2 e1] at k0
            exact iteT (k0 rfl _ _ G6)
          | cons xr0 xr1 =>
            have e1 : Vaflxb.meetPos a.right b.right ≠ [] := fun e => by rw [e] at zr; exact zr
            rw [if_pos ⟨hf, hk, e0, e1⟩] at k1
            have h16 := g6.s _ _ (g4.d _ _ (g3.d _ _ h1))
            refine iteF ⟨_, rfl, a1, CB, dx1, _, _, rfl, h16, T.clB, T.nB _ (by simp), L1.1, _, rfl, a1, CB, dx1, _, _, rfl, h16, T.clB, T.nB _ (by simp), L1.2.1, _, rfl, _, rfl, fun x dx hx hdx ne => ⟨x, dx, _, rfl, rfl, upd_same, rfl, ?_⟩⟩
            have g7 := fun fs => make_use (C := CB) (fs := fs) g6.s hx hdx ne
            exact k1 _ rfl _ _ _ (G6.trans (make_use (C := CB) g6.s hx hdx ne)) ⟨x, dx, _, _, rfl, upd_same, PSet.mono (g7 _).d ⟨dl, _, epl, rfl, hdl, zl⟩, PSet.mono (g7 _).d br⟩
      · rw [decide_eq_false hk]
        rw [if_neg fun z => hk z.2.1] at k0
        exact iteT (k0 rfl _ _ (Grow.refl hs))
    · rw [decide_eq_false hf]
      rw [if_neg fun z => hf z.1] at k0
      exact iteT (iteT (k0 rfl _ _ (Grow.refl hs)))
end
end Ps
set_option Elab.async false
set_option linter.all false
set_option maxRecDepth 100000
set_option maxHeartbeats 2000000
namespace Ps
open PySem PySem.Spec PyProof.Rows L2 Gd
theorem eqv_dL_none (t : Tx) : PyData.eqv (dL t) .none = false := rfl
theorem const_eq_some (t : Tx) (o : Option Tx) : ((some t) == o) = true ↔ o = some t := by
  rw [beq_iff_eq]; exact eq_comm
section
variable {P : Program} {w : World} {K : PySem.W.Frag} {mg : Str → Option Value} {base : Heap} {CP CB CPs CPc CS CC : Addr} {f : Addr} {fd : FuncData}
def sp_common_pieces (w : World) (K : PySem.W.Frag) (CP CB CPs CPc CS CC : Addr) : Sp := fun vs H Q _ => ∃ D a b v1 v2, vs = [v1, v2] ∧ Sub D H ∧ PcsAt K w CP CB CPs D v1 a ∧ PcsAt K w CP CB CPs D v2 b ∧ (∀ x ∈ a.boxes, wfB x) ∧ (∀ x ∈ b.boxes, wfB x) ∧ (Vaflxb.meetPieces a b).boxes.length ≤ 100000 ∧ ∀ D' H' v, Grow [] D H D' H' → PcsAt K w CP CB CPs D' v (Vaflxb.meetPieces a b) → Q v H'
abbrev s_common_pieces : Stmt := topS 51
theorem sc_common_pieces : FnScope ["one", "other", "constant", "boxes", "box", "second", "both"] ["one", "other"] (defScope s_common_pieces) := ⟨rfl, rfl, rfl, by decide +kernel, rfl, by decide +kernel, by decide +kernel⟩
theorem ok_common_pieces (F : Fun K "common_pieces" "common_pieces" s_common_pieces f fd) (T : Txt K mg CP CB CPs CPc CS CC) (N_Pieces : NewD P w K mg base 1 "Pieces" CPs ["self", "constant", "boxes"] (spInit CPs ["constant", "boxes"])) (C_common_box : Def P w K mg base 3 "common_box" ["one", "other"] (sp_common_box w K CP CB CPs CPc CS CC)) : FnOk P w K mg base CX0 4 f fd ["one", "other"] (sp_common_pieces w K CP CB CPs CPc CS CC) := by
  refine F.ok sc_common_pieces (fun vs H Q E h => ?_) (fun cdv A outer s H vs Q E hr h => ?_)
  · obtain ⟨_, _, _, _, _, rfl, _⟩ := h; rfl
  · obtain ⟨D, a, b, v1, v2, rfl, hs, ⟨a1, dx1, c1, b1, rfl, h1, hc1, hb1⟩, ⟨a2, dx2, c2, b2, rfl, h2, hc2, hb2⟩, hwa, hwb, hlen, k⟩ := h
    refine ⟨_, (pss_cons (ps_set (i := 2) sc_common_pieces.nd rfl (by first | exact Or.inl rfl | exact Or.inr rfl) pe_non)
      (pss_cons (ps_if (PW.pt (pw_and (pt_cmpR op_notN (pe_fld (pv 0) rfl) pe_non (nomark _)) (pw_and1 (pt_cmpR (op_eqD hr.units) (pe_fld (pv 0) rfl) (pe_fld (pv 1) rfl) (nomark _))))) (pss_one (ps_set (i := 2) sc_common_pieces.nd rfl (by first | exact Or.inl rfl | exact Or.inr rfl) (pe_fld (pv 0) rfl))) pss_nil)
      (pss_cons (ps_set (i := 3) sc_common_pieces.nd rfl (by first | exact Or.inl rfl | exact Or.inr rfl) (pe_lst pa_nil))
      (pss_cons (ps_for PassesOwn.never rfl (pi_list (pe_fld (pv 0) rfl)) (pg_name (i := 4) sc_common_pieces.nd rfl (by first | exact Or.inl rfl | exact Or.inr rfl)) (pss_one (ps_for PassesOwn.never rfl (pi_list (pe_fld (pv 1) rfl)) (pg_name (i := 5) sc_common_pieces.nd rfl (by first | exact Or.inl rfl | exact Or.inr rfl)) (pss_cons (ps_set (i := 6) sc_common_pieces.nd rfl (by first | exact Or.inl rfl | exact Or.inr rfl) (pe_callD C_common_box (hr.mono (by decide)) (by rfl) (pa_cons (pv 4) (pa_cons (pv 5) pa_nil))))
      (pss_one (ps_if (pt_cmpR op_notN (pv 6) pe_non (nomark _)) (pss_one (ps_expr (pe_bm PySem.F.plainAttrs_list PySem.F.slot_list_append PySem.F.type_list_append mt_append (pv 3) (pa_cons (pv 6) pa_nil)))) pss_nil))))))
      (pss_one (ps_ret (pe_newD N_Pieces (hr.mono (by decide)) (by rfl) (pa_cons (pv 2) (pa_cons (pv 3) pa_nil))))))))), ?_⟩
    obtain ⟨ab1, xb1, rfl, eb1, zb1⟩ := id hb1
    obtain ⟨ab2, xb2, rfl, eb2, zb2⟩ := id hb2
    have hs1 := hs _ _ h1
    have hs2 := hs _ _ h2
    refine ⟨_, rfl, a1, CPs, dx1, _, c1, rfl, hs1, T.clPs, T.nPs _ (by simp), rfl, rfl, _, rfl, ?_⟩
    cases hac : a.const with
    | none =>
      rw [hac] at hc1
      cases (show c1 = .non from hc1)
      have hcv : ConstAt D .non (Vaflxb.meetPieces a b).const := by
        have : (Vaflxb.meetPieces a b).const = none := by
          show (if (a.const == b.const) = true then a.const else none) = none
          rw [hac]; split <;> rfl
        rw [this]; rfl
      refine iteF (iteF ?_)
      refine ⟨sz0, fun p hp => ?_⟩
      have g1 : Grow [] D H D (upd H p (.lst [])) := (Grow.refl hs).tmp hp
      have hdp : D p = none := hs.none hp
      have hl1 := zb1.length
      have hl2 := zb2.length
      refine ⟨_, rfl, a1, CPs, dx1, _, .ref ab1, rfl, g1.s _ _ h1, T.clPs, T.nPs _ (by simp), rfl, ab1, rfl, ⟨_, SqL.of (g1.s _ _ eb1)⟩, for_it (walk_list (xs := xb1)) (fun i σ H' => ∃ x4 x5 x6 D' acc, σ = [some (.ref a1), some (.ref a2), some (.non), some (.ref p), x4, x5, x6] ∧ Grow [p] D (upd H p (.lst [])) D' H' ∧ H' p = some (.lst acc) ∧ All2 (BoxAt K w CP CB D') acc ((a.boxes.take i).flatMap fun x => b.boxes.filterMap (Vaflxb.meetBox x))) ?_ ?_ ?_ ?_⟩
      · exact ⟨_, _, _, D, [], rfl, Grow.refl g1.s, upd_same, trivial⟩
      · rintro i σ H' hi ⟨x4, x5, x6, D', acc, rfl, g, _⟩
        exact SqL.of (g.s _ _ (g.d _ _ eb1))
      · rintro i x σ H0 H' hi ⟨x4, x5, x6, D', acc, rfl, g, hacc, z⟩ ⟨rfl, hx⟩
        obtain ⟨bx, hbx, bbx⟩ := zb1.get hx
        refine ⟨_, rfl, a2, CPs, dx2, _, .ref ab2, rfl, g.s _ _ (g.d _ _ h2), T.clPs, T.nPs _ (by simp), rfl, ab2, rfl, ⟨_, SqL.of (g.s _ _ (g.d _ _ eb2))⟩, for_it (walk_list (xs := xb2)) (fun j σ H' => ∃ x5 x6 D' acc, σ = [some (.ref a1), some (.ref a2), some (.non), some (.ref p), some x, x5, x6] ∧ Grow [p] D (upd H p (.lst [])) D' H' ∧ H' p = some (.lst acc) ∧ All2 (BoxAt K w CP CB D') acc (((a.boxes.take i).flatMap fun x => b.boxes.filterMap (Vaflxb.meetBox x)) ++ (b.boxes.take j).filterMap (Vaflxb.meetBox bx))) ?_ ?_ ?_ ?_⟩
        · exact ⟨_, _, D', acc, rfl, g, hacc, by rw [List.take_zero, List.filterMap_nil, List.append_nil]; exact z⟩
        · rintro j σ H3 hj ⟨x5, x6, D3, acc3, rfl, g3, _⟩
          exact SqL.of (g3.s _ _ (g3.d _ _ eb2))
        · rintro j y σ H3' H3 hj ⟨x5, x6, D3, acc3, rfl, g3, hacc3, z3⟩ ⟨rfl, hy⟩
          obtain ⟨bY, hby, bby⟩ := zb2.get hy
          have hsplit := filterMap_take (Vaflxb.meetBox bx) b.boxes j bY hby
          refine ⟨_, rfl, _, rfl, D3, bx, bY, x, y, rfl, g3.s, bbx.mono g3.d, bby.mono g3.d, hwa _ (List.mem_of_getElem? hbx), hwb _ (List.mem_of_getElem? hby), fun hn D4 H4 g4 => ?_, fun c hcc D4 H4 v g4 bc => ?_⟩
          · refine ⟨_, rfl, rfl, _, rfl, iteF ⟨_, _, D4, acc3, rfl, g3.trans g4.anyM, g4.h p _ (by simp) hacc3, ?_⟩⟩
            rw [hsplit, hn]
            simp only [Option.toList_none, List.append_nil]
            exact z3.mono fun _ _ q => BoxAt.mono g4.d q
          · obtain ⟨av, dxv, lv, rv, rfl, hav, plv, prv⟩ := id bc
            have hp4 := g4.h p _ (by simp) hacc3
            have hd4 : D4 p = none := ((g3.trans g4.anyM).n p (by rw [upd_same]; exact Option.some_ne_none _)).trans hdp
            have z4 : All2 (BoxAt K w CP CB D4) (acc3 ++ [.ref av]) (((a.boxes.take i).flatMap fun x => b.boxes.filterMap (Vaflxb.meetBox x)) ++ (b.boxes.take (j + 1)).filterMap (Vaflxb.meetBox bx)) := by
              rw [hsplit, hcc, ← List.append_assoc]
              exact (z3.mono fun _ _ q => BoxAt.mono g4.d q).snoc bc
            have hsz : acc3.length < sizeLine := by
              have h1 := z3.length
              have h2 : (((a.boxes.take i).flatMap fun x => b.boxes.filterMap (Vaflxb.meetBox x)) ++ (b.boxes.take j).filterMap (Vaflxb.meetBox bx)).length ≤ 100000 := by
                refine Nat.le_trans ?_ hlen
                have h3 := take_flat_le (fun x => b.boxes.filterMap (Vaflxb.meetBox x)) a.boxes (i + 1)
                rw [flatMap_take _ _ _ _ hbx, List.length_append] at h3
                have h4 := take_filterMap_le (Vaflxb.meetBox bx) b.boxes j
                rw [List.length_append]
                show _ ≤ (a.boxes.flatMap fun x => b.boxes.filterMap (Vaflxb.meetBox x)).length
                omega
              exact small_lt (by omega)
            refine ⟨_, rfl, rfl, _, rfl, iteT ⟨_, rfl, .inl ⟨rfl, _, SqL.of hp4⟩, _, rfl, p, acc3, _, rfl, rfl, hp4, hsz, ?_⟩⟩
            exact ⟨_, _, D4, _, rfl, (g3.trans g4.anyM).write (.inr (List.mem_singleton.mpr rfl)) hd4, upd_same, z4⟩
        · rintro σ H3 ⟨x5, x6, D3, acc3, rfl, g3, hacc3, z3⟩
          rw [List.take_of_length_le (show b.boxes.length ≤ xb2.length by omega)] at z3
          refine ⟨_, _, _, D3, acc3, rfl, g3, hacc3, ?_⟩
          rw [flatMap_take _ _ _ _ hbx]
          exact z3
      · rintro σ H' ⟨x4, x5, x6, D', acc, rfl, g, hacc, z⟩
        rw [List.take_of_length_le (by omega)] at z
        have G := g1.own g hp
        have G2 := G.all hs
        have hp' : Fz H D H' p = some (.lst acc) := by rw [Fz.new hp]; exact hacc
        refine ⟨_, rfl, _, rfl, fun x dx hx hdx ne => ⟨x, dx, _, rfl, rfl, upd_same, rfl, ?_⟩⟩
        have g7 := fun fs => make_use (C := CPs) (fs := fs) G2.s hx hdx ne
        refine k _ _ _ (G2.trans (make_use (C := CPs) G2.s hx hdx ne)) ⟨x, dx, .non, .ref p, rfl, upd_same, ?_, ?_⟩
        · exact ConstAt.mono (g7 _).d (ConstAt.mono (g.d.trans G.sub) hcv)
        · exact BoxL.mono (g7 _).d ⟨p, acc, rfl, hp', z.mono fun _ _ q => BoxAt.mono G.sub q⟩
    | some t =>
      rw [hac] at hc1
      obtain ⟨ac1, rfl, ec1⟩ := id hc1
      refine iteT ⟨_, rfl, a1, CPs, dx1, _, .ref ac1, rfl, hs1, T.clPs, T.nPs _ (by simp), rfl, _, rfl, a2, CPs, dx2, _, c2, rfl, hs2, T.clPs, T.nPs _ (by simp), rfl, ?_⟩
      cases hbc : b.const with
      | none =>
        rw [hbc] at hc2
        cases (show c2 = .non from hc2)
        have hcv : ConstAt D .non (Vaflxb.meetPieces a b).const := by
          have : (Vaflxb.meetPieces a b).const = none := by
            show (if (a.const == b.const) = true then a.const else none) = none
            rw [hac, hbc]; rfl
          rw [this]; rfl
        refine ⟨dL t, .none, .lst (SqL.of (hs _ _ ec1)) (dpAll_tv _), .non, shaped_dL _, by decide, _, rfl, iteF ?_⟩
        refine ⟨sz0, fun p hp => ?_⟩
        have g1 : Grow [] D H D (upd H p (.lst [])) := (Grow.refl hs).tmp hp
        have hdp : D p = none := hs.none hp
        have hl1 := zb1.length
        have hl2 := zb2.length
        refine ⟨_, rfl, a1, CPs, dx1, _, .ref ab1, rfl, g1.s _ _ h1, T.clPs, T.nPs _ (by simp), rfl, ab1, rfl, ⟨_, SqL.of (g1.s _ _ eb1)⟩, for_it (walk_list (xs := xb1)) (fun i σ H' => ∃ x4 x5 x6 D' acc, σ = [some (.ref a1), some (.ref a2), some (.non), some (.ref p), x4, x5, x6] ∧ Grow [p] D (upd H p (.lst [])) D' H' ∧ H' p = some (.lst acc) ∧ All2 (BoxAt K w CP CB D') acc ((a.boxes.take i).flatMap fun x => b.boxes.filterMap (Vaflxb.meetBox x))) ?_ ?_ ?_ ?_⟩
        · exact ⟨_, _, _, D, [], rfl, Grow.refl g1.s, upd_same, trivial⟩
        · rintro i σ H' hi ⟨x4, x5, x6, D', acc, rfl, g, _⟩
          exact SqL.of (g.s _ _ (g.d _ _ eb1))
        · rintro i x σ H0 H' hi ⟨x4, x5, x6, D', acc, rfl, g, hacc, z⟩ ⟨rfl, hx⟩
          obtain ⟨bx, hbx, bbx⟩ := zb1.get hx
          refine ⟨_, rfl, a2, CPs, dx2, _, .ref ab2, rfl, g.s _ _ (g.d _ _ h2), T.clPs, T.nPs _ (by simp), rfl, ab2, rfl, ⟨_, SqL.of (g.s _ _ (g.d _ _ eb2))⟩, for_it (walk_list (xs := xb2)) (fun j σ H' => ∃ x5 x6 D' acc, σ = [some (.ref a1), some (.ref a2), some (.non), some (.ref p), some x, x5, x6] ∧ Grow [p] D (upd H p (.lst [])) D' H' ∧ H' p = some (.lst acc) ∧ All2 (BoxAt K w CP CB D') acc (((a.boxes.take i).flatMap fun x => b.boxes.filterMap (Vaflxb.meetBox x)) ++ (b.boxes.take j).filterMap (Vaflxb.meetBox bx))) ?_ ?_ ?_ ?_⟩
          · exact ⟨_, _, D', acc, rfl, g, hacc, by rw [List.take_zero, List.filterMap_nil, List.append_nil]; exact z⟩
          · rintro j σ H3 hj ⟨x5, x6, D3, acc3, rfl, g3, _⟩
            exact SqL.of (g3.s _ _ (g3.d _ _ eb2))
          · rintro j y σ H3' H3 hj ⟨x5, x6, D3, acc3, rfl, g3, hacc3, z3⟩ ⟨rfl, hy⟩
            obtain ⟨bY, hby, bby⟩ := zb2.get hy
            have hsplit := filterMap_take (Vaflxb.meetBox bx) b.boxes j bY hby
            refine ⟨_, rfl, _, rfl, D3, bx, bY, x, y, rfl, g3.s, bbx.mono g3.d, bby.mono g3.d, hwa _ (List.mem_of_getElem? hbx), hwb _ (List.mem_of_getElem? hby), fun hn D4 H4 g4 => ?_, fun c hcc D4 H4 v g4 bc => ?_⟩
            · refine ⟨_, rfl, rfl, _, rfl, iteF ⟨_, _, D4, acc3, rfl, g3.trans g4.anyM, g4.h p _ (by simp) hacc3, ?_⟩⟩
              rw [hsplit, hn]
              simp only [Option.toList_none, List.append_nil]
              exact z3.mono fun _ _ q => BoxAt.mono g4.d q
            · obtain ⟨av, dxv, lv, rv, rfl, hav, plv, prv⟩ := id bc
              have hp4 := g4.h p _ (by simp) hacc3
              have hd4 : D4 p = none := ((g3.trans g4.anyM).n p (by rw [upd_same]; exact Option.some_ne_none _)).trans hdp
              have z4 : All2 (BoxAt K w CP CB D4) (acc3 ++ [.ref av]) (((a.boxes.take i).flatMap fun x => b.boxes.filterMap (Vaflxb.meetBox x)) ++ (b.boxes.take (j + 1)).filterMap (Vaflxb.meetBox bx)) := by
                rw [hsplit, hcc, ← List.append_assoc]
                exact (z3.mono fun _ _ q => BoxAt.mono g4.d q).snoc bc
              have hsz : acc3.length < sizeLine := by
                have h1 := z3.length
                have h2 : (((a.boxes.take i).flatMap fun x => b.boxes.filterMap (Vaflxb.meetBox x)) ++ (b.boxes.take j).filterMap (Vaflxb.meetBox bx)).length ≤ 100000 := by
                  refine Nat.le_trans ?_ hlen
                  have h3 := take_flat_le (fun x => b.boxes.filterMap (Vaflxb.meetBox x)) a.boxes (i + 1)
                  rw [flatMap_take _ _ _ _ hbx, List.length_append] at h3
                  have h4 := take_filterMap_le (Vaflxb.meetBox bx) b.boxes j
                  rw [List.length_append]
                  show _ ≤ (a.boxes.flatMap fun x => b.boxes.filterMap (Vaflxb.meetBox x)).length
                  omega
                exact small_lt (by omega)
              refine ⟨_, rfl, rfl, _, rfl, iteT ⟨_, rfl, .inl ⟨rfl, _, SqL.of hp4⟩, _, rfl, p, acc3, _, rfl, rfl, hp4, hsz, ?_⟩⟩
              exact ⟨_, _, D4, _, rfl, (g3.trans g4.anyM).write (.inr (List.mem_singleton.mpr rfl)) hd4, upd_same, z4⟩
          · rintro σ H3 ⟨x5, x6, D3, acc3, rfl, g3, hacc3, z3⟩
            rw [List.take_of_length_le (show b.boxes.length ≤ xb2.length by omega)] at z3
            refine ⟨_, _, _, D3, acc3, rfl, g3, hacc3, ?_⟩
            rw [flatMap_take _ _ _ _ hbx]
            exact z3
        · rintro σ H' ⟨x4, x5, x6, D', acc, rfl, g, hacc, z⟩
          rw [List.take_of_length_le (by omega)] at z
          have G := g1.own g hp
          have G2 := G.all hs
          have hp' : Fz H D H' p = some (.lst acc) := by rw [Fz.new hp]; exact hacc
          refine ⟨_, rfl, _, rfl, fun x dx hx hdx ne => ⟨x, dx, _, rfl, rfl, upd_same, rfl, ?_⟩⟩
          have g7 := fun fs => make_use (C := CPs) (fs := fs) G2.s hx hdx ne
          refine k _ _ _ (G2.trans (make_use (C := CPs) G2.s hx hdx ne)) ⟨x, dx, .non, .ref p, rfl, upd_same, ?_, ?_⟩
          · exact ConstAt.mono (g7 _).d (ConstAt.mono (g.d.trans G.sub) hcv)
          · exact BoxL.mono (g7 _).d ⟨p, acc, rfl, hp', z.mono fun _ _ q => BoxAt.mono G.sub q⟩
      | some u =>
        rw [hbc] at hc2
        obtain ⟨ac2, rfl, ec2⟩ := id hc2
        refine ⟨dL t, dL u, .lst (SqL.of (hs _ _ ec1)) (dpAll_tv _), .lst (SqL.of (hs _ _ ec2)) (dpAll_tv _), shaped_dL _, shaped_dL _, _, rfl, ?_⟩
        rw [eqv_dL]
        by_cases htu : t = u
        · rw [decide_eq_true htu]
          have hcv : ConstAt D (.ref ac1) (Vaflxb.meetPieces a b).const := by
            have : (Vaflxb.meetPieces a b).const = some t := by
              show (if (a.const == b.const) = true then a.const else none) = some t
              rw [hac, hbc, ← htu]; simp
            rw [this]; exact hc1
          refine iteT ⟨_, rfl, a1, CPs, dx1, _, .ref ac1, rfl, hs1, T.clPs, T.nPs _ (by simp), rfl, ?_⟩
          refine ⟨sz0, fun p hp => ?_⟩
          have g1 : Grow [] D H D (upd H p (.lst [])) := (Grow.refl hs).tmp hp
          have hdp : D p = none := hs.none hp
          have hl1 := zb1.length
          have hl2 := zb2.length
          refine ⟨_, rfl, a1, CPs, dx1, _, .ref ab1, rfl, g1.s _ _ h1, T.clPs, T.nPs _ (by simp), rfl, ab1, rfl, ⟨_, SqL.of (g1.s _ _ eb1)⟩, for_it (walk_list (xs := xb1)) (fun i σ H' => ∃ x4 x5 x6 D' acc, σ = [some (.ref a1), some (.ref a2), some (.ref ac1), some (.ref p), x4, x5, x6] ∧ Grow [p] D (upd H p (.lst [])) D' H' ∧ H' p = some (.lst acc) ∧ All2 (BoxAt K w CP CB D') acc ((a.boxes.take i).flatMap fun x => b.boxes.filterMap (Vaflxb.meetBox x))) ?_ ?_ ?_ ?_⟩
          · exact ⟨_, _, _, D, [], rfl, Grow.refl g1.s, upd_same, trivial⟩
          · rintro i σ H' hi ⟨x4, x5, x6, D', acc, rfl, g, _⟩
            exact SqL.of (g.s _ _ (g.d _ _ eb1))
          · rintro i x σ H0 H' hi ⟨x4, x5, x6, D', acc, rfl, g, hacc, z⟩ ⟨rfl, hx⟩
            obtain ⟨bx, hbx, bbx⟩ := zb1.get hx
            refine ⟨_, rfl, a2, CPs, dx2, _, .ref ab2, rfl, g.s _ _ (g.d _ _ h2), T.clPs, T.nPs _ (by simp), rfl, ab2, rfl, ⟨_, SqL.of (g.s _ _ (g.d _ _ eb2))⟩, for_it (walk_list (xs := xb2)) (fun j σ H' => ∃ x5 x6 D' acc, σ = [some (.ref a1), some (.ref a2), some (.ref ac1), some (.ref p), some x, x5, x6] ∧ Grow [p] D (upd H p (.lst [])) D' H' ∧ H' p = some (.lst acc) ∧ All2 (BoxAt K w CP CB D') acc (((a.boxes.take i).flatMap fun x => b.boxes.filterMap (Vaflxb.meetBox x)) ++ (b.boxes.take j).filterMap (Vaflxb.meetBox bx))) ?_ ?_ ?_ ?_⟩
            · exact ⟨_, _, D', acc, rfl, g, hacc, by rw [List.take_zero, List.filterMap_nil, List.append_nil]; exact z⟩
            · rintro j σ H3 hj ⟨x5, x6, D3, acc3, rfl, g3, _⟩
              exact SqL.of (g3.s _ _ (g3.d _ _ eb2))
            · rintro j y σ H3' H3 hj ⟨x5, x6, D3, acc3, rfl, g3, hacc3, z3⟩ ⟨rfl, hy⟩
              obtain ⟨bY, hby, bby⟩ := zb2.get hy
              have hsplit := filterMap_take (Vaflxb.meetBox bx) b.boxes j bY hby
              refine ⟨_, rfl, _, rfl, D3, bx, bY, x, y, rfl, g3.s, bbx.mono g3.d, bby.mono g3.d, hwa _ (List.mem_of_getElem? hbx), hwb _ (List.mem_of_getElem? hby), fun hn D4 H4 g4 => ?_, fun c hcc D4 H4 v g4 bc => ?_⟩
              · refine ⟨_, rfl, rfl, _, rfl, iteF ⟨_, _, D4, acc3, rfl, g3.trans g4.anyM, g4.h p _ (by simp) hacc3, ?_⟩⟩
                rw [hsplit, hn]
                simp only [Option.toList_none, List.append_nil]
                exact z3.mono fun _ _ q => BoxAt.mono g4.d q
              · obtain ⟨av, dxv, lv, rv, rfl, hav, plv, prv⟩ := id bc
                have hp4 := g4.h p _ (by simp) hacc3
                have hd4 : D4 p = none := ((g3.trans g4.anyM).n p (by rw [upd_same]; exact Option.some_ne_none _)).trans hdp
                have z4 : All2 (BoxAt K w CP CB D4) (acc3 ++ [.ref av]) (((a.boxes.take i).flatMap fun x => b.boxes.filterMap (Vaflxb.meetBox x)) ++ (b.boxes.take (j + 1)).filterMap (Vaflxb.meetBox bx)) := by
                  rw [hsplit, hcc, ← List.append_assoc]
                  exact (z3.mono fun _ _ q => BoxAt.mono g4.d q).snoc bc
                have hsz : acc3.length < sizeLine := by
                  have h1 := z3.length
                  have h2 : (((a.boxes.take i).flatMap fun x => b.boxes.filterMap (Vaflxb.meetBox x)) ++ (b.boxes.take j).filterMap (Vaflxb.meetBox bx)).length ≤ 100000 := by
                    refine Nat.le_trans ?_ hlen
                    have h3 := take_flat_le (fun x => b.boxes.filterMap (Vaflxb.meetBox x)) a.boxes (i + 1)
                    rw [flatMap_take _ _ _ _ hbx, List.length_append] at h3
                    have h4 := take_filterMap_le (Vaflxb.meetBox bx) b.boxes j
                    rw [List.length_append]
                    show _ ≤ (a.boxes.flatMap fun x => b.boxes.filterMap (Vaflxb.meetBox x)).length
                    omega
                  exact small_lt (by omega)
                refine ⟨_, rfl, rfl, _, rfl, iteT ⟨_, rfl, .inl ⟨rfl, _, SqL.of hp4⟩, _, rfl, p, acc3, _, rfl, rfl, hp4, hsz, ?_⟩⟩
                exact ⟨_, _, D4, _, rfl, (g3.trans g4.anyM).write (.inr (List.mem_singleton.mpr rfl)) hd4, upd_same, z4⟩
            · rintro σ H3 ⟨x5, x6, D3, acc3, rfl, g3, hacc3, z3⟩
              rw [List.take_of_length_le (show b.boxes.length ≤ xb2.length by omega)] at z3
              refine ⟨_, _, _, D3, acc3, rfl, g3, hacc3, ?_⟩
              rw [flatMap_take _ _ _ _ hbx]
              exact z3
          · rintro σ H' ⟨x4, x5, x6, D', acc, rfl, g, hacc, z⟩
            rw [List.take_of_length_le (by omega)] at z
            have G := g1.own g hp
            have G2 := G.all hs
            have hp' : Fz H D H' p = some (.lst acc) := by rw [Fz.new hp]; exact hacc
            refine ⟨_, rfl, _, rfl, fun x dx hx hdx ne => ⟨x, dx, _, rfl, rfl, upd_same, rfl, ?_⟩⟩
            have g7 := fun fs => make_use (C := CPs) (fs := fs) G2.s hx hdx ne
            refine k _ _ _ (G2.trans (make_use (C := CPs) G2.s hx hdx ne)) ⟨x, dx, (.ref ac1), .ref p, rfl, upd_same, ?_, ?_⟩
            · exact ConstAt.mono (g7 _).d (ConstAt.mono (g.d.trans G.sub) hcv)
            · exact BoxL.mono (g7 _).d ⟨p, acc, rfl, hp', z.mono fun _ _ q => BoxAt.mono G.sub q⟩
        · rw [decide_eq_false htu]
          have hcv : ConstAt D .non (Vaflxb.meetPieces a b).const := by
            have : (Vaflxb.meetPieces a b).const = none := by
              show (if (a.const == b.const) = true then a.const else none) = none
              rw [hac, hbc]
              simp [htu]
            rw [this]; rfl
          refine iteF ?_
          refine ⟨sz0, fun p hp => ?_⟩
          have g1 : Grow [] D H D (upd H p (.lst [])) := (Grow.refl hs).tmp hp
          have hdp : D p = none := hs.none hp
          have hl1 := zb1.length
          have hl2 := zb2.length
          refine ⟨_, rfl, a1, CPs, dx1, _, .ref ab1, rfl, g1.s _ _ h1, T.clPs, T.nPs _ (by simp), rfl, ab1, rfl, ⟨_, SqL.of (g1.s _ _ eb1)⟩, for_it (walk_list (xs := xb1)) (fun i σ H' => ∃ x4 x5 x6 D' acc, σ = [some (.ref a1), some (.ref a2), some (.non), some (.ref p), x4, x5, x6] ∧ Grow [p] D (upd H p (.lst [])) D' H' ∧ H' p = some (.lst acc) ∧ All2 (BoxAt K w CP CB D') acc ((a.boxes.take i).flatMap fun x => b.boxes.filterMap (Vaflxb.meetBox x))) ?_ ?_ ?_ ?_⟩
          · exact ⟨_, _, _, D, [], rfl, Grow.refl g1.s, upd_same, trivial⟩
          · rintro i σ H' hi ⟨x4, x5, x6, D', acc, rfl, g, _⟩
            exact SqL.of (g.s _ _ (g.d _ _ eb1))
          · rintro i x σ H0 H' hi ⟨x4, x5, x6, D', acc, rfl, g, hacc, z⟩ ⟨rfl, hx⟩
            obtain ⟨bx, hbx, bbx⟩ := zb1.get hx
            refine ⟨_, rfl, a2, CPs, dx2, _, .ref ab2, rfl, g.s _ _ (g.d _ _ h2), T.clPs, T.nPs _ (by simp), rfl, ab2, rfl, ⟨_, SqL.of (g.s _ _ (g.d _ _ eb2))⟩, for_it (walk_list (xs := xb2)) (fun j σ H' => ∃ x5 x6 D' acc, σ = [some (.ref a1), some (.ref a2), some (.non), some (.ref p), some x, x5, x6] ∧ Grow [p] D (upd H p (.lst [])) D' H' ∧ H' p = some (.lst acc) ∧ All2 (BoxAt K w CP CB D') acc (((a.boxes.take i).flatMap fun x => b.boxes.filterMap (Vaflxb.meetBox x)) ++ (b.boxes.take j).filterMap (Vaflxb.meetBox bx))) ?_ ?_ ?_ ?_⟩
            · exact ⟨_, _, D', acc, rfl, g, hacc, by rw [List.take_zero, List.filterMap_nil, List.append_nil]; exact z⟩
            · rintro j σ H3 hj ⟨x5, x6, D3, acc3, rfl, g3, _⟩
              exact SqL.of (g3.s _ _ (g3.d _ _ eb2))
            · rintro j y σ H3' H3 hj ⟨x5, x6, D3, acc3, rfl, g3, hacc3, z3⟩ ⟨rfl, hy⟩
              obtain ⟨bY, hby, bby⟩ := zb2.get hy
              have hsplit := filterMap_take (Vaflxb.meetBox bx) b.boxes j bY hby
              refine ⟨_, rfl, _, rfl, D3, bx, bY, x, y, rfl, g3.s, bbx.mono g3.d, bby.mono g3.d, hwa _ (List.mem_of_getElem? hbx), hwb _ (List.mem_of_getElem? hby), fun hn D4 H4 g4 => ?_, fun c hcc D4 H4 v g4 bc => ?_⟩
              · refine ⟨_, rfl, rfl, _, rfl, iteF ⟨_, _, D4, acc3, rfl, g3.trans g4.anyM, g4.h p _ (by simp) hacc3, ?_⟩⟩
                rw [hsplit, hn]
                simp only [Option.toList_none, List.append_nil]
                exact z3.mono fun _ _ q => BoxAt.mono g4.d q
              · obtain ⟨av, dxv, lv, rv, rfl, hav, plv, prv⟩ := id bc
                have hp4 := g4.h p _ (by simp) hacc3
                have hd4 : D4 p = none := ((g3.trans g4.anyM).n p (by rw [upd_same]; exact Option.some_ne_none _)).trans hdp
                have z4 : All2 (BoxAt K w CP CB D4) (acc3 ++ [.ref av]) (((a.boxes.take i).flatMap fun x => b.boxes.filterMap (Vaflxb.meetBox x)) ++ (b.boxes.take (j + 1)).filterMap (Vaflxb.meetBox bx)) := by
                  rw [hsplit, hcc, ← List.append_assoc]
                  exact (z3.mono fun _ _ q => BoxAt.mono g4.d q).snoc bc
                have hsz : acc3.length < sizeLine := by
                  have h1 := z3.length
                  have h2 : (((a.boxes.take i).flatMap fun x => b.boxes.filterMap (Vaflxb.meetBox x)) ++ (b.boxes.take j).filterMap (Vaflxb.meetBox bx)).length ≤ 100000 := by
                    refine Nat.le_trans ?_ hlen
                    have h3 := take_flat_le (fun x => b.boxes.filterMap (Vaflxb.meetBox x)) a.boxes (i + 1)
                    rw [flatMap_take _ _ _ _ hbx, List.length_append] at h3
                    have h4 := take_filterMap_le (Vaflxb.meetBox bx) b.boxes j
                    rw [List.length_append]
                    show _ ≤ (a.boxes.flatMap fun x => b.boxes.filterMap (Vaflxb.meetBox x)).length
                    omega
                  exact small_lt (by omega)
                refine ⟨_, rfl, rfl, _, rfl, iteT ⟨_, rfl, .inl ⟨rfl, _, SqL.of hp4⟩, _, rfl, p, acc3, _, rfl, rfl, hp4, hsz, ?_⟩⟩
                exact ⟨_, _, D4, _, rfl, (g3.trans g4.anyM).write (.inr (List.mem_singleton.mpr rfl)) hd4, upd_same, z4⟩
            · rintro σ H3 ⟨x5, x6, D3, acc3, rfl, g3, hacc3, z3⟩
              rw [List.take_of_length_le (show b.boxes.length ≤ xb2.length by omega)] at z3
              refine ⟨_, _, _, D3, acc3, rfl, g3, hacc3, ?_⟩
              rw [flatMap_take _ _ _ _ hbx]
              exact z3
          · rintro σ H' ⟨x4, x5, x6, D', acc, rfl, g, hacc, z⟩
            rw [List.take_of_length_le (by omega)] at z
            have G := g1.own g hp
            have G2 := G.all hs
            have hp' : Fz H D H' p = some (.lst acc) := by rw [Fz.new hp]; exact hacc
            refine ⟨_, rfl, _, rfl, fun x dx hx hdx ne => ⟨x, dx, _, rfl, rfl, upd_same, rfl, ?_⟩⟩
            have g7 := fun fs => make_use (C := CPs) (fs := fs) G2.s hx hdx ne
            refine k _ _ _ (G2.trans (make_use (C := CPs) G2.s hx hdx ne)) ⟨x, dx, .non, .ref p, rfl, upd_same, ?_, ?_⟩
            · exact ConstAt.mono (g7 _).d (ConstAt.mono (g.d.trans G.sub) hcv)
            · exact BoxL.mono (g7 _).d ⟨p, acc, rfl, hp', z.mono fun _ _ q => BoxAt.mono G.sub q⟩
def sp_box_size (w : World) (K : PySem.W.Frag) (CP CB CPs CPc CS CC : Addr) : Sp := fun vs H Q _ => ∃ D b v, vs = [v] ∧ Sub D H ∧ BoxAt K w CP CB D v b ∧ b.left.length ≤ 1000 ∧ b.right.length ≤ 1000 ∧ Q (nv (b.left.length * b.right.length)) H
abbrev s_box_size : Stmt := topS 52
theorem sc_box_size : FnScope ["box"] ["box"] (defScope s_box_size) := ⟨rfl, rfl, rfl, by decide +kernel, rfl, by decide +kernel, by decide +kernel⟩
theorem ok_box_size (F : Fun K "box_size" "box_size" s_box_size f fd) (T : Txt K mg CP CB CPs CPc CS CC)  : FnOk P w K mg base CX0 1 f fd ["box"] (sp_box_size w K CP CB CPs CPc CS CC) := by
  refine F.ok sc_box_size (fun vs H Q E h => ?_) (fun cdv A outer s H vs Q E hr h => ?_)
  · obtain ⟨_, _, _, rfl, _⟩ := h; rfl
  · obtain ⟨D, b, v, rfl, hs, ⟨a, dx, lv, rv, rfl, ha, ⟨dl, xl, epl, rfl, hdl, zl⟩, ⟨dr, xr, epr, rfl, hdr, zr⟩⟩, hl, hr2, k⟩ := h
    refine ⟨_, (pss_one (ps_ret (pe_op op_mul (pe_callB call_lenG (by rfl) T.m_len b_len (pa_cons (pe_fld (pv 0) rfl) pa_nil)) (pe_callB call_lenG (by rfl) T.m_len b_len (pa_cons (pe_fld (pv 0) rfl) pa_nil))))), ?_⟩
    have L := lookup_boxFs b (.ref dl) (.ref dr)
    have h1 := zl.length
    have h2 := zr.length
    refine ⟨_, rfl, a, CB, dx, _, _, rfl, hs _ _ ha, T.clB, T.nB _ (by simp), L.2.2.1, dl, xl, epl, rfl, hs _ _ hdl, _, rfl, a, CB, dx, _, _, rfl, hs _ _ ha, T.clB, T.nB _ (by simp), L.2.2.2, dr, xr, epr, rfl, hs _ _ hdr, _, _, rfl, rfl, .inl ⟨?_, ?_⟩, ?_⟩
    · rw [h1]; exact Int.lt_of_lt_of_le (by decide : -(2 ^ 64 : Int) < 0) (by omega)
    · rw [h1]; exact Int.lt_of_le_of_lt (show ((b.left.length : Nat) : Int) ≤ 1000 by omega) (by decide)
    · rw [h1, h2]
      have e : ((b.left.length : Nat) : Int) * ((b.right.length : Nat) : Int) = ((b.left.length * b.right.length : Nat) : Int) := by rw [Int.natCast_mul]
      dsimp only
      rw [e]
      exact k
def sp_size_of (w : World) (K : PySem.W.Frag) (CP CB CPs CPc CS CC : Addr) : Sp := fun vs H Q _ => ∃ D p v, vs = [v] ∧ Sub D H ∧ PcsAt K w CP CB CPs D v p ∧ (∀ b ∈ p.boxes, wfB b) ∧ p.boxes.length ≤ 100000 ∧ ∀ H', Same H H' → Q (nv (Vaflxb.countOf p)) H'
abbrev s_size_of : Stmt := topS 53
theorem sc_size_of : FnScope ["pieces", "box"] ["pieces"] (defScope s_size_of) := ⟨rfl, rfl, rfl, by decide +kernel, rfl, by decide +kernel, by decide +kernel⟩
theorem ok_size_of (F : Fun K "size_of" "size_of" s_size_of f fd) (T : Txt K mg CP CB CPs CPc CS CC) (C_box_size : Def P w K mg base 1 "box_size" ["box"] (sp_box_size w K CP CB CPs CPc CS CC)) : FnOk P w K mg base CX0 2 f fd ["pieces"] (sp_size_of w K CP CB CPs CPc CS CC) := by
  refine F.ok sc_size_of (fun vs H Q E h => ?_) (fun cdv A outer s H vs Q E hr h => ?_)
  · obtain ⟨_, _, _, rfl, _⟩ := h; rfl
  · obtain ⟨D, p, v, rfl, hs, ⟨a, dx, cv, bv1, rfl, ha, hcv, ⟨ab, xb, rfl, eb, zb⟩⟩, hw, hlen, k⟩ := h
    refine ⟨_, (pss_one (ps_ret (pe_op op_add (pe_callTy call_int1 (by rfl) T.m_int b_int (pa_cons (pe_cmpR op_notN (pe_fld (pv 0) rfl) pe_non (nomark _)) pa_nil)) (pe_callB (cr_sum rfl) (by rfl) T.m_sum b_sum (pa_cons (pe_lc (own := [("box", 1)]) (g := gName 1) rfl sc_size_of.nd (pi_list (pe_fld (pv 0) rfl)) (blkOk_by (own := [("box", 1)]) (N := ["pieces", "box"]) (sc := defScope s_size_of) (by decide +kernel)) (fun _ _ _ _ _ => pg_name (i := 1) sc_size_of.nd rfl (Or.inl rfl)) (fun _ _ _ _ _ => pts_nil) (fun _ _ _ _ _ => (pe_callD C_box_size (hr.mono (by decide)) (by rfl) (pa_cons (pv 1) pa_nil)))) pa_nil))))), ?_⟩
    have hl := zb.length
    have hcn : (!decide (cv = V.non)) = p.const.isSome := by
      cases hc : p.const with
      | none => rw [hc] at hcv; cases (show cv = .non from hcv); rfl
      | some t => rw [hc] at hcv; obtain ⟨x, rfl, _⟩ := hcv; rfl
    refine ⟨_, rfl, a, CPs, dx, _, cv, rfl, hs _ _ ha, T.clPs, T.nPs _ (by simp), rfl, rfl, .inr ⟨_, rfl, ?_⟩⟩
    rw [hcn]
    refine ⟨_, rfl, a, CPs, dx, _, .ref ab, rfl, hs _ _ ha, T.clPs, T.nPs _ (by simp), rfl, ab, rfl, ⟨_, SqL.of (hs _ _ eb)⟩, fun L hL => lc_it (walk_list (xs := xb)) (fun i H' => H' = upd H L (.lst (((p.boxes.take i).map fun b => b.left.length * b.right.length).map fun n => nv n))) rfl ?_ ?_ ?_⟩
    · rintro i H' hi rfl
      exact SqL.of (by rw [upd_ne (ne_of_none (hs _ _ eb) hL)]; exact hs _ _ eb)
    · rintro i x H' H2 hi rfl ⟨rfl, hx⟩
      obtain ⟨bx, hbx, bbx⟩ := zb.get hx
      have hwb := hw _ (List.mem_of_getElem? hbx)
      have g : Grow [] D H D (upd H L (.lst (((p.boxes.take i).map fun b => b.left.length * b.right.length).map fun n => nv n))) := (Grow.refl hs).tmp hL
      refine ⟨rfl, _, rfl, D, bx, x, rfl, g.s, bbx, Nat.le_trans hwb.l.len (by decide), Nat.le_trans hwb.r.len (by decide), _, upd_same, ?_, ?_⟩
      · rw [List.length_map, List.length_map, List.length_take]; exact small_lt (by omega)
      · rw [upd_upd, List.take_add_one, hbx, List.map_append, List.map_append]; rfl
    · rintro H' rfl
      rw [List.take_of_length_le (by omega)]
      refine ⟨L, ((p.boxes.map fun b => b.left.length * b.right.length).map fun n => ((n : Nat) : Int)), rfl, SqL.of (by rw [upd_same, List.map_map, List.map_map, List.map_map]; rfl), _, _, rfl, rfl, ?_⟩
      rw [sum_int]
      have e : (if p.const.isSome = true then (1 : Int) else 0) + (((p.boxes.map fun b => b.left.length * b.right.length).sum : Nat) : Int) = ((Vaflxb.countOf p : Nat) : Int) := by
        unfold Vaflxb.countOf
        rw [sum_eq]
        cases p.const.isSome <;> simp <;> omega
      dsimp only
      rw [e]
      exact k _ ((Grow.refl (M := []) hs).tmp hL).same
end
end Ps
set_option Elab.async false
set_option linter.all false
set_option maxRecDepth 100000
set_option maxHeartbeats 2000000
namespace Ps
open PySem PySem.Spec PyProof.Rows L2 Gd
abbrev Pc := Vaflxa.Piece
def pieceFs (tt : V) (x : Pc) : List (Str × V) := [("text", tt), ("cost", nv (Vaflxa.pieceCost x))]
def PieceAt (K : PySem.W.Frag) (CPc : Addr) (D : Hp) (v : V) (x : Pc) : Prop := ∃ a dx tt, v = .ref a ∧ D a = some (.ins CPc dx (pieceFs tt x)) ∧ BT K D tt (Vaflxa.pieceText x)
theorem PieceAt.mono {K : PySem.W.Frag} {CPc : Addr} {D D' : Hp} {v : V} {x : Pc} (h : Sub D D') (q : PieceAt K CPc D v x) : PieceAt K CPc D' v x :=
  let ⟨a, dx, tt, e, z, b⟩ := q; ⟨a, dx, tt, e, h _ _ z, b.mono h⟩
def PcL (K : PySem.W.Frag) (CPc : Addr) (D : Hp) (v : V) (xs : List Pc) : Prop := ∃ a vs, v = .ref a ∧ D a = some (.lst vs) ∧ All2 (PieceAt K CPc D) vs xs
def quoteIn (t : Tx) : Tx := 34 :: t.flatMap fun c => if c = 34 then [34, 34] else [c]
theorem pos_len {p : Pos} (h : wfP p) : (Vaflxa.posText p).length ≤ 10 := by
  have hc := fun k => cls_le k
  cases p with
  | start k => have := dec_le k (Nat.le_trans h (by decide)); simp [Vaflxa.posText]; omega
  | finish k => have := dec_le k (Nat.le_trans h (by decide)); simp [Vaflxa.posText]; omega
  | left l r c =>
    have h1 := dec_le c (Nat.le_trans h.2.2.2.2 (by decide))
    have h2 := hc l
    have h3 := hc r
    simp only [tv, List.length_map] at h2 h3
    simp [Vaflxa.posText]; omega
  | right l r c =>
    have h1 := dec_le c (Nat.le_trans h.2.2.2.2 (by decide))
    have h2 := hc l
    have h3 := hc r
    simp only [tv, List.length_map] at h2 h3
    simp [Vaflxa.posText]; omega
theorem field_ok (n : Nat) (h : n ≤ 60) : cpsV (toString ((n : Nat) : Int) ++ "[") = tv (Vaflxa.decimal n ++ [91]) ∧ (toString ((n : Nat) : Int) ++ "[" : Str).cps.size ≤ 1000 ∧ (toString ((n : Nat) : Int) : Str).length + ("[" : Str).length ≤ sizeLine ∧ ((n : Nat) : Int).natAbs.log2 < 1920 := by
  have key : ∀ n : Fin 61, cpsV (toString ((n.val : Nat) : Int) ++ "[") = tv (Vaflxa.decimal n.val ++ [91]) ∧ (toString ((n.val : Nat) : Int) ++ "[" : Str).cps.size ≤ 1000 ∧ (toString ((n.val : Nat) : Int) : Str).length + ("[" : Str).length ≤ sizeLine ∧ ((n.val : Nat) : Int).natAbs.log2 < 1920 := by decide +kernel
  exact key ⟨n, by omega⟩
def caseS : Vaflxa.Case → Str
  | .same => ""
  | .up => "^"
  | .low => "_"
  | .first => "~"
theorem case_ok (k : Vaflxa.Case) : cpsV ("]" ++ caseS k) = tv (93 :: Vaflxa.caseText k) ∧ ("]" ++ caseS k : Str).cps.size ≤ 1000 ∧ ("]" : Str).length + (caseS k).length ≤ sizeLine ∧
    ([.str "", .str "^", .str "_", .str "~"] : List V)[Vaflxb.caseNumber k]? = some (.str (caseS k)) := by
  cases k <;> exact ⟨by decide +kernel, by decide +kernel, by decide +kernel, rfl⟩
/-- the texts of two tuples put together -/
theorem cat_tv (s t : Tx) : tv s ++ tv t = tv (s ++ t) := (List.map_append).symm
section
variable {P : Program} {w : World} {K : PySem.W.Frag} {mg : Str → Option Value} {base : Heap} {CP CB CPs CPc CS CC : Addr} {f : Addr} {fd : FuncData}
def sp_constant_piece (w : World) (K : PySem.W.Frag) (CP CB CPs CPc CS CC : Addr) : Sp := fun vs H Q _ => ∃ D t v, vs = [v] ∧ Sub D H ∧ BL D v t ∧ t.length ≤ 12 ∧ ∀ D' H' r, Grow [] D H D' H' → PieceAt K CPc D' r (.const t) → Q r H'
abbrev s_constant_piece : Stmt := topS 54
theorem sc_constant_piece : FnScope ["constant", "text", "byte"] ["constant"] (defScope s_constant_piece) := ⟨rfl, rfl, rfl, by decide +kernel, rfl, by decide +kernel, by decide +kernel⟩
theorem ok_constant_piece (F : Fun K "constant_piece" "constant_piece" s_constant_piece f fd) (T : Txt K mg CP CB CPs CPc CS CC) (N_Piece : NewD P w K mg base 1 "Piece" CPc ["self", "text", "cost"] (spInit CPc ["text", "cost"])) : FnOk P w K mg base CX0 3 f fd ["constant"] (sp_constant_piece w K CP CB CPs CPc CS CC) := by
  refine F.ok sc_constant_piece (fun vs H Q E h => ?_) (fun cdv A outer s H vs Q E hr h => ?_)
  · obtain ⟨_, _, _, rfl, _⟩ := h; rfl
  · obtain ⟨D, t, v, rfl, hs, ⟨a, rfl, ha⟩, hl, k⟩ := h
    refine ⟨_, (pss_cons (ps_set (i := 1) sc_constant_piece.nd rfl (by first | exact Or.inl rfl | exact Or.inr rfl) (pe_lst (pa_cons (pe_const (by rfl) T.g_QUOTE) pa_nil)))
      (pss_cons (ps_for PassesOwn.never rfl (pi_list (pv 0)) (pg_name (i := 2) sc_constant_piece.nd rfl (by first | exact Or.inl rfl | exact Or.inr rfl)) (pss_cons (ps_expr (pe_bm PySem.F.plainAttrs_list PySem.F.slot_list_append PySem.F.type_list_append mt_append (pv 1) (pa_cons (pv 2) pa_nil)))
      (pss_one (ps_if (pt_cmpR op_eq (pv 2) (pe_const (by rfl) T.g_QUOTE) (nomark _)) (pss_one (ps_expr (pe_bm PySem.F.plainAttrs_list PySem.F.slot_list_append PySem.F.type_list_append mt_append (pv 1) (pa_cons (pv 2) pa_nil)))) pss_nil))))
      (pss_cons (ps_expr (pe_bm PySem.F.plainAttrs_list PySem.F.slot_list_append PySem.F.type_list_append mt_append (pv 1) (pa_cons (pe_const (by rfl) T.g_QUOTE) pa_nil)))
      (pss_one (ps_ret (pe_newD N_Piece (hr.mono (by decide)) (by rfl) (pa_cons (pe_callTy call_tuple_of (by rfl) T.m_tuple b_tuple (pa_cons (pv 1) pa_nil)) (pa_cons (pe_op op_add (pe_const (by rfl) T.g_CONSTANT_COST) (pe_op op_mul (pe_const (by rfl) T.g_BYTE_COST) (pe_callB call_len (by rfl) T.m_len b_len (pa_cons (pv 0) pa_nil)))) pa_nil)))))))), ?_⟩
    refine ⟨sz1, fun p hp => ?_⟩
    have o1 : Own D H D (upd H p (.lst [.int 34])) p (.lst [.int 34]) := Own.mk' (Grow.refl hs) hp
    refine ⟨_, rfl, a, rfl, ⟨_, SqL.of (o1.g.s _ _ ha)⟩, for_it (walk_list (xs := tv t)) (fun i σ H' => ∃ x2, σ = [some (.ref a), some (.ref p), x2] ∧ Own D H D H' p (.lst (tv (quoteIn (t.take i)))) ∧ (quoteIn (t.take i)).length ≤ 1 + 2 * i) ?_ ?_ ?_ ?_⟩
    · exact ⟨_, rfl, o1, by simp [quoteIn]⟩
    · rintro i σ H' hi ⟨x2, rfl, o, _⟩
      exact SqL.of (o.g.s _ _ ha)
    · rintro i x σ H0 H' hi ⟨x2, rfl, o, hql⟩ ⟨rfl, hx⟩
      rw [List.getElem?_map] at hx
      cases hc : t[i]? with
      | none => rw [hc] at hx; cases hx
      | some c =>
        rw [hc] at hx; cases hx
        have hit : i < t.length := by simpa using hi
        have hsplit : quoteIn (t.take (i + 1)) = quoteIn (t.take i) ++ (if c = 34 then [34, 34] else [c]) := by
          unfold quoteIn
          rw [flatMap_take _ _ _ _ hc]; rfl
        have o2 := o.set (u' := .lst (tv (quoteIn (t.take i)) ++ [bv c]))
        refine ⟨_, rfl, .inl ⟨rfl, _, SqL.of o.at_⟩, _, rfl, p, _, _, rfl, rfl, o.at_, small_lt (by rw [List.length_map]; omega), _, rfl, rfl, _, rfl, ?_⟩
        have hd : decide (bv c = .int 34) = decide (c = 34) := decide_eq_decide.mpr ⟨fun e => by
          have e : (c.toNat : Int) = 34 := V.int.inj e
          exact UInt8.toNat_inj.mp (by show c.toNat = 34; omega), fun e => by rw [e]; rfl⟩
        rw [hd]
        by_cases h34 : c = 34
        · rw [decide_eq_true h34]
          refine iteT ⟨_, rfl, .inl ⟨rfl, _, SqL.of o2.at_⟩, _, rfl, p, _, _, rfl, rfl, o2.at_, small_lt (by rw [List.length_append, List.length_map]; simp; omega), ?_⟩
          refine ⟨_, rfl, ?_, ?_⟩
          · rw [hsplit, if_pos h34]
            have e : tv (quoteIn (t.take i) ++ [34, 34]) = (tv (quoteIn (t.take i)) ++ [bv c]) ++ [bv c] := by
              rw [h34]; simp [tv]
            rw [e]
            exact o2.set
          · rw [hsplit, if_pos h34, List.length_append]; simp; omega
        · rw [decide_eq_false h34]
          refine iteF ⟨_, rfl, ?_, ?_⟩
          · rw [hsplit, if_neg h34]
            have e : tv (quoteIn (t.take i) ++ [c]) = tv (quoteIn (t.take i)) ++ [bv c] := by simp [tv]
            rw [e]
            exact o2
          · rw [hsplit, if_neg h34, List.length_append]; simp; omega
    · rintro σ H' ⟨x2, rfl, o, hql⟩
      rw [List.length_map] at o hql
      rw [List.take_length] at o hql
      have eq1 : tv (quoteIn t) ++ [V.int 34] = tv (Vaflxa.quoted t) := by
        unfold quoteIn Vaflxa.quoted tv
        simp
      have o2 := o.set (u' := .lst (tv (quoteIn t) ++ [.int 34]))
      refine ⟨_, rfl, .inl ⟨rfl, _, SqL.of o.at_⟩, p, _, _, rfl, rfl, o.at_, small_lt (by rw [List.length_map]; omega), ?_⟩
      refine ⟨_, rfl, p, _, rfl, .inl ⟨SqL.of upd_same, fun q hq => ?_⟩⟩
      have o3 := o2.new (v := .tup (tv (quoteIn t) ++ [.int 34])) hq
      refine ⟨_, rfl, _, t.length, rfl, .inl ⟨_, SqL.of (o3.g.s _ _ (o3.g.d _ _ ha)), by simp⟩, _, _, rfl, rfl, .inl (by decide), _, _, rfl, rfl, fun x dx hx hdx ne => ⟨x, dx, _, rfl, rfl, upd_same, rfl, ?_⟩⟩
      have g7 := fun fs => make_use (C := CPc) (fs := fs) o3.g.s hx hdx ne
      refine k _ _ _ (o3.g.trans (make_use (C := CPc) o3.g.s hx hdx ne)) ⟨x, dx, .ref q, rfl, ?_, ?_⟩
      · rw [upd_same]
        have e : ((Vaflxa.pieceCost (.const t) : Nat) : Int) = (3 : Int) + 2 * ((t.length : Nat) : Int) := by
          show ((3 + 2 * t.length : Nat) : Int) = _
          omega
        unfold pieceFs nv
        rw [e]; rfl
      · refine ⟨q, rfl, SqT.up (g7 _).d ?_⟩
        rw [eq1]
        exact SqT.of upd_same
def sp_part_piece (w : World) (K : PySem.W.Frag) (CP CB CPs CPc CS CC : Addr) : Sp := fun vs H Q _ => ∃ D b p q v1 v2 v3, vs = [v1, v2, v3] ∧ Sub D H ∧ BoxAt K w CP CB D v1 b ∧ b.field ≤ 60 ∧ PosAt K CP D v2 p ∧ wfP p ∧ PosAt K CP D v3 q ∧ wfP q ∧ ∀ D' H' r, Grow [] D H D' H' → PieceAt K CPc D' r (.sub b.field p q b.case_) → Q r H'
abbrev s_part_piece : Stmt := topS 55
theorem sc_part_piece : FnScope ["box", "left", "right", "head", "text"] ["box", "left", "right"] (defScope s_part_piece) := ⟨rfl, rfl, rfl, by decide +kernel, rfl, by decide +kernel, by decide +kernel⟩
theorem ok_part_piece (F : Fun K "part_piece" "part_piece" s_part_piece f fd) (T : Txt K mg CP CB CPs CPc CS CC) (N_Piece : NewD P w K mg base 1 "Piece" CPc ["self", "text", "cost"] (spInit CPc ["text", "cost"])) (C_bytes_of : Def P w K mg base 1 "bytes_of" ["text"] sp_bytes_of) : FnOk P w K mg base CX0 3 f fd ["box", "left", "right"] (sp_part_piece w K CP CB CPs CPc CS CC) := by
  obtain ⟨aCASES, g_CASES, qCASES⟩ := T.g_CASES
  refine F.ok sc_part_piece (fun vs H Q E h => ?_) (fun cdv A outer s H vs Q E hr h => ?_)
  · obtain ⟨_, _, _, _, _, _, _, rfl, _⟩ := h; rfl
  · obtain ⟨D, b, p, q, v1, v2, v3, rfl, hs, ⟨ab, dxb, lv, rv, rfl, hab, _, _⟩, hf, ⟨ap, dxp, tp, cp, rfl, hap, btp, _⟩, hwp, ⟨aq, dxq, tq, cq, rfl, haq, btq, _⟩, hwq, k⟩ := h
    refine ⟨_, (pss_cons (ps_set (i := 3) sc_part_piece.nd rfl (by first | exact Or.inl rfl | exact Or.inr rfl) (pe_callD C_bytes_of (hr.mono (by decide)) (by rfl) (pa_cons (pe_op op_add_str (pe_callTy call_str_int (by rfl) T.m_str b_str (pa_cons (pe_fld (pv 0) rfl) pa_nil)) pe_str) pa_nil)))
      (pss_cons (ps_set (i := 4) sc_part_piece.nd rfl (by first | exact Or.inl rfl | exact Or.inr rfl) (pe_op op_catA (pe_op op_catA (pe_op op_catA (pe_op op_catA (pv 3) (pe_fld (pv 1) rfl)) (pe_callD C_bytes_of (hr.mono (by decide)) (by rfl) (pa_cons pe_str pa_nil))) (pe_fld (pv 2) rfl)) (pe_callD C_bytes_of (hr.mono (by decide)) (by rfl) (pa_cons (pe_op op_add_str pe_str (pe_ix ix_tup (pe_const (by rfl) g_CASES) (pe_fld (pv 0) rfl) (fun _ _ => rfl))) pa_nil))))
      (pss_one (ps_ret (pe_newD N_Piece (hr.mono (by decide)) (by rfl) (pa_cons (pv 4) (pa_cons (pe_op op_add (pe_op op_add (pe_op op_add (pe_const (by rfl) T.g_PART_COST) (pe_fld (pv 1) rfl)) (pe_fld (pv 2) rfl)) (pe_op op_mul (pe_const (by rfl) T.g_CASE_COST) (pe_callTy call_int1 (by rfl) T.m_int b_int (pa_cons (pe_cmpR op_gt (pe_fld (pv 0) rfl) pe_int (nomark _)) pa_nil)))) pa_nil))))))), ?_⟩
    have LB := lookup_boxFs b lv rv
    have LP := lookup_posFs tp cp p
    have LQ := lookup_posFs tq cq q
    obtain ⟨f1, f2, f3, f4⟩ := field_ok b.field hf
    obtain ⟨c1, c2, c3, c4⟩ := case_ok b.case_
    have lp := pos_len hwp
    have lq := pos_len hwq
    have lf := dec_le b.field hf
    refine ⟨_, rfl, ab, CB, dxb, _, _, rfl, hs _ _ hab, T.clB, T.nB _ (by simp), LB.1, b.field, rfl, f4, _, _, rfl, rfl, f3, _, rfl, f2, fun H1 p1 s1 n1 e1 => ?_⟩
    obtain ⟨D1, g1, b1⟩ := bytes_new (K := K) f1 hs s1 n1 e1
    obtain ⟨ah, e1', hah⟩ := BT.sq g1.s b1
    cases e1'
    obtain ⟨atp, rfl, hatp⟩ := BT.sq (H := D) (Sub.refl D) btp
    obtain ⟨atq, rfl, hatq⟩ := BT.sq (H := D) (Sub.refl D) btq
    refine ⟨_, rfl, _, rfl, ap, CP, dxp, _, _, rfl, g1.s _ _ (g1.d _ _ hap), T.clP, T.nP _ (by simp), LP.1, p1, atp, _, _, rfl, rfl, hah, SqT.up g1.s (SqT.up g1.d hatp), small_le (by simp; omega), cat_ok (by simp) (by cases p <;> simp [Vaflxa.posText]) fun p2 hp2 => ?_⟩
    rw [cat_tv]
    have g2 := Grow.fresh (M := []) (u := .tup (tv ((Vaflxa.decimal b.field ++ [91]) ++ Vaflxa.posText p))) g1.s hp2
    refine ⟨_, rfl, by decide, fun H3 p3 s3 n3 e3 => ?_⟩
    obtain ⟨D3, g3, b3⟩ := bytes_new (K := K) (t := [58]) rfl g2.s s3 n3 e3
    obtain ⟨ac, e3', hac⟩ := BT.sq g3.s b3
    cases e3'
    refine ⟨p2, p3, _, _, rfl, rfl, SqT.of (g3.h p2 _ (by simp) upd_same), hac, small_le (by simp; omega), cat_ok (by simp) (by simp) fun p4 hp4 => ?_⟩
    rw [cat_tv]
    have g4 := Grow.fresh (M := []) (u := .tup (tv (((Vaflxa.decimal b.field ++ [91]) ++ Vaflxa.posText p) ++ [58]))) g3.s hp4
    have d14 := ((g1.d.trans g2.d).trans g3.d).trans g4.d
    refine ⟨_, rfl, aq, CP, dxq, _, _, rfl, g4.s _ _ (d14 _ _ haq), T.clP, T.nP _ (by simp), LQ.1, p4, atq, _, _, rfl, rfl, SqT.of upd_same, SqT.up g4.s (SqT.up d14 hatq), small_le (by simp; omega), cat_ok (by simp) (by cases q <;> simp [Vaflxa.posText]) fun p5 hp5 => ?_⟩
    rw [cat_tv]
    have g5 := Grow.fresh (M := []) (u := .tup (tv ((((Vaflxa.decimal b.field ++ [91]) ++ Vaflxa.posText p) ++ [58]) ++ Vaflxa.posText q))) g4.s hp5
    refine ⟨_, rfl, ab, CB, dxb, _, _, rfl, g5.s _ _ (g5.d _ _ (d14 _ _ hab)), T.clB, T.nB _ (by simp), LB.2.1, aCASES, _, _, _, rfl, rfl, qCASES _, atI_nat c4, _, _, rfl, rfl, c3, _, rfl, c2, fun H6 p6 s6 n6 e6 => ?_⟩
    obtain ⟨D6, g6, b6⟩ := bytes_new (K := K) c1 g5.s s6 n6 e6
    obtain ⟨ae, e6', hae⟩ := BT.sq g6.s b6
    cases e6'
    refine ⟨p5, p6, _, _, rfl, rfl, SqT.of (g6.h p5 _ (by simp) upd_same), hae, ?_, cat_ok (by simp) (by simp) fun p7 hp7 => ?_⟩
    · have : (Vaflxa.caseText b.case_).length ≤ 1 := by cases b.case_ <;> decide
      exact small_le (by simp; omega)
    rw [cat_tv]
    have g7 := Grow.fresh (M := []) (u := .tup (tv (((((Vaflxa.decimal b.field ++ [91]) ++ Vaflxa.posText p) ++ [58]) ++ Vaflxa.posText q) ++ (93 :: Vaflxa.caseText b.case_)))) g6.s hp7
    have d7 := ((d14.trans g5.d).trans g6.d).trans g7.d
    refine ⟨_, rfl, _, rfl, ap, CP, dxp, _, _, rfl, g7.s _ _ (d7 _ _ hap), T.clP, T.nP _ (by simp), LP.2.1, _, _, rfl, rfl, _, rfl, aq, CP, dxq, _, _, rfl, g7.s _ _ (d7 _ _ haq), T.clP, T.nP _ (by simp), LQ.2.1, _, _, rfl, rfl, ?_⟩
    refine ⟨_, rfl, ab, CB, dxb, _, _, rfl, g7.s _ _ (d7 _ _ hab), T.clB, T.nB _ (by simp), LB.2.1, _, _, rfl, rfl, .inr ⟨_, rfl, _, _, rfl, rfl, .inl (by decide), _, _, rfl, rfl, fun x dx hx hdx ne => ⟨x, dx, _, rfl, rfl, upd_same, rfl, ?_⟩⟩⟩
    have g8 := fun fs => make_use (C := CPc) (fs := fs) g7.s hx hdx ne
    have G := (((((g1.trans g2).trans g3).trans g4).trans g5).trans g6).trans g7
    refine k _ _ _ (G.trans (make_use (C := CPc) g7.s hx hdx ne)) ⟨x, dx, .ref p7, rfl, ?_, ?_⟩
    · rw [upd_same]
      have e : ((Vaflxa.pieceCost (.sub b.field p q b.case_) : Nat) : Int) = (2 : Int) + ((Vaflxa.posCost p : Nat) : Int) + ((Vaflxa.posCost q : Nat) : Int) + 3 * (if decide ((0 : Int) < ((Vaflxb.caseNumber b.case_ : Nat) : Int)) = true then 1 else 0) := by
        show ((2 + Vaflxa.posCost p + Vaflxa.posCost q + Vaflxa.caseCost b.case_ : Nat) : Int) = _
        cases b.case_ <;> simp [Vaflxa.caseCost, Vaflxb.caseNumber]
      unfold pieceFs nv
      rw [e]; rfl
    · refine ⟨p7, rfl, SqT.up (g8 _).d ?_⟩
      have e : Vaflxa.pieceText (.sub b.field p q b.case_) = ((((Vaflxa.decimal b.field ++ [91]) ++ Vaflxa.posText p) ++ [58]) ++ Vaflxa.posText q) ++ (93 :: Vaflxa.caseText b.case_) := by
        simp [Vaflxa.pieceText]
      rw [e]
      exact SqT.of upd_same
end
end Ps
set_option Elab.async false
set_option linter.all false
set_option maxRecDepth 100000
set_option maxHeartbeats 2000000
namespace Ps
open PySem PySem.Spec PyProof.Rows L2 Gd
theorem posLe_cost {p q : Pos} (h : posLe p q = true) : Vaflxa.posCost p ≤ Vaflxa.posCost q := by
  unfold posLe at h
  rw [dataLe_lt] at h
  unfold posKey at h
  rw [lt_ckey] at h
  by_cases hc : Vaflxa.posCost q < Vaflxa.posCost p
  · rw [decide_eq_true hc] at h; simp at h
  · omega
theorem head_least {p0 : Pos} {l : List Pos} (h : wfL (p0 :: l)) : ∀ q ∈ p0 :: l, Vaflxa.posCost p0 ≤ Vaflxa.posCost q := by
  intro q hq
  have := h.ord
  rw [List.pairwise_cons] at this
  rcases List.mem_cons.mp hq with rfl | hq
  · exact Nat.le_refl _
  · exact posLe_cost (this.1 q hq)
section
variable {P : Program} {w : World} {K : PySem.W.Frag} {mg : Str → Option Value} {base : Heap} {CP CB CPs CPc CS CC : Addr} {f : Addr} {fd : FuncData}
def sp_cheapest (w : World) (K : PySem.W.Frag) (CP CB CPs CPc CS CC : Addr) : Sp := fun vs H Q _ => ∃ D l v, vs = [v] ∧ Sub D H ∧ PSet K w CP D v l ∧ wfL l ∧ l ≠ [] ∧ ∀ D' H' r, Grow [] D H D' H' → PLs K CP D' r (Vaflxb.cheapest l) → Q r H'
abbrev s_cheapest : Stmt := topS 56
theorem sc_cheapest : FnScope ["positions", "least", "text"] ["positions"] (defScope s_cheapest) := ⟨rfl, rfl, rfl, by decide +kernel, rfl, by decide +kernel, by decide +kernel⟩
theorem ok_cheapest (F : Fun K "cheapest" "cheapest" s_cheapest f fd) (T : Txt K mg CP CB CPs CPc CS CC)  : FnOk P w K mg base CX0 1 f fd ["positions"] (sp_cheapest w K CP CB CPs CPc CS CC) := by
  refine F.ok sc_cheapest (fun vs H Q E h => ?_) (fun cdv A outer s H vs Q E hr h => ?_)
  · obtain ⟨_, _, _, rfl, _⟩ := h; rfl
  · obtain ⟨D, l, v, rfl, hs, ⟨d, xs, ep, rfl, hd, z⟩, hw, hne, k⟩ := h
    refine ⟨_, (pss_cons (ps_set (i := 1) sc_cheapest.nd rfl (by first | exact Or.inl rfl | exact Or.inr rfl) (pe_callB (cr_min rfl) (by rfl) T.m_min b_min (pa_cons (pe_lc (own := [("text", 2)]) (g := gName 2) rfl sc_cheapest.nd (pi_G (pv 0)) (blkOk_by (own := [("text", 2)]) (N := ["positions", "least", "text"]) (sc := defScope s_cheapest) (by decide +kernel)) (fun _ _ _ _ _ => pg_name (i := 2) sc_cheapest.nd rfl (Or.inl rfl)) (fun _ _ _ _ _ => pts_nil) (fun _ _ _ _ _ => (pe_fldR (K := K) (pe_getR (K := K) (w := w) hr (pv 0) (pv 2) (fun _ _ => rfl)) rfl))) pa_nil)))
      (pss_one (ps_ret (pe_lc (own := [("text", 2)]) (g := gName 2) rfl sc_cheapest.nd (pi_G (pv 0)) (blkOk_by (own := [("text", 2)]) (N := ["positions", "least", "text"]) (sc := defScope s_cheapest) (by decide +kernel)) (fun _ _ _ _ _ => pg_name (i := 2) sc_cheapest.nd rfl (Or.inl rfl)) (fun _ _ _ _ _ => (pts_one (pt_cmpR op_eq (pe_fldR (K := K) (pe_getR (K := K) (w := w) hr (pv 0) (pv 2) (fun _ _ => rfl)) rfl) (pv 1) (nomark _)))) (fun _ _ _ _ _ => (pe_getR (K := K) (w := w) hr (pv 0) (pv 2) (fun _ _ => rfl))))))), ?_⟩
    have hl := z.length
    have hll := hw.len
    obtain ⟨p0, l', rfl⟩ : ∃ p0 l', l = p0 :: l' := by
      cases l with
      | nil => exact absurd rfl hne
      | cons a b => exact ⟨a, b, rfl⟩
    generalize hlist : p0 :: l' = l at *
    have hleast : ∀ q ∈ l, Vaflxa.posCost p0 ≤ Vaflxa.posCost q := by subst hlist; exact head_least hw
    have hp0 : p0 ∈ l := by subst hlist; exact List.mem_cons_self
    have hch : Vaflxb.cheapest l = l.filter fun q => Vaflxa.posCost q == Vaflxa.posCost p0 := by subst hlist; rfl
    have got : ∀ {i : Nat} {e : Ent}, xs[i]? = some e → ∃ q, l[i]? = some q ∧ getE xs (kT (Vaflxa.posText q)) = some e.2.2 ∧ KeyOf K D (kT (Vaflxa.posText q)) e.2.1 ∧ PosAt K CP D e.2.2 q := by
      intro i e he
      obtain ⟨q, hq, e1, e2, e3⟩ := z.get he
      refine ⟨q, hq, ?_, e2.key, e3⟩
      rw [← e1]
      exact getE_at (by rw [z.keys]; exact kT_nodup hw.nd) he
    refine ⟨_, rfl, d, xs, ep, rfl, hs _ _ hd, fun L hL => lc_it walk_G (fun i H' => H' = upd H L (.lst (nvs ((l.take i).map Vaflxa.posCost)))) rfl ?_ ?_ ?_⟩
    · rintro i H' hi rfl
      rw [upd_ne (ne_of_none (hs _ _ hd) hL)]; exact hs _ _ hd
    · rintro i x H' H2 hi rfl ⟨rfl, e, he, rfl⟩
      obtain ⟨q, hq, hget, hkey, a, dx, tt, cv, hev, ha, htt, hcv⟩ := got he
      have g : Grow [] D H D (upd H L (.lst (nvs ((l.take i).map Vaflxa.posCost)))) := (Grow.refl hs).tmp hL
      refine ⟨rfl, _, rfl, _, rfl, d, xs, ep, kT (Vaflxa.posText q), e.2.2, ⟨rfl, g.s _ _ hd, GKeys.up g.s (gkeys_of z), KeyOf.up g.s hkey⟩, hget, a, CP, dx, _, _, hev, g.s _ _ ha, T.clP, T.nP _ (by simp), (lookup_posFs tt cv q).2.1, _, upd_same, ?_, ?_⟩
      · unfold nvs
        rw [List.length_map, List.length_map, List.length_take]; exact small_lt (by omega)
      · rw [upd_upd, List.take_add_one, hq, List.map_append]
        unfold nvs
        rw [List.map_append]; rfl
    · rintro H' rfl
      rw [List.take_of_length_le (by omega)]
      have g1 : Grow [] D H D (upd H L (.lst (nvs (l.map Vaflxa.posCost)))) := (Grow.refl hs).tmp hL
      refine ⟨L, ((l.map Vaflxa.posCost).map fun n => ((n : Nat) : Int)), rfl, SqL.of (by rw [upd_same, List.map_map]; rfl), ?_, fun m hm hmin => ?_⟩
      · rw [List.length_map, List.length_map]
        exact List.length_pos_of_mem hp0
      have hmeq : m = ((Vaflxa.posCost p0 : Nat) : Int) := by
        rw [List.mem_map] at hm
        obtain ⟨c, hc, rfl⟩ := hm
        rw [List.mem_map] at hc
        obtain ⟨q, hq, rfl⟩ := hc
        have h1 := hleast q hq
        have h2 := hmin ((Vaflxa.posCost p0 : Nat) : Int) (List.mem_map.mpr ⟨_, List.mem_map.mpr ⟨p0, hp0, rfl⟩, rfl⟩)
        omega
      subst hmeq
      refine ⟨_, rfl, d, xs, ep, rfl, g1.s _ _ hd, fun L2 hL2 => lc_it walk_G (fun i H' => ∃ acc, H' = upd (upd H L (.lst (nvs (l.map Vaflxa.posCost)))) L2 (.lst acc) ∧ acc.length ≤ i ∧ All2 (PosAt K CP D) acc ((l.take i).filter fun q => Vaflxa.posCost q == Vaflxa.posCost p0)) ⟨[], rfl, Nat.le_refl _, trivial⟩ ?_ ?_ ?_⟩
      · rintro i H' hi ⟨acc, rfl, _⟩
        rw [upd_ne (ne_of_none (g1.s _ _ hd) hL2)]; exact g1.s _ _ hd
      · rintro i x H' H2 hi ⟨acc, rfl, hal, zz⟩ ⟨rfl, e, he, rfl⟩
        obtain ⟨q, hq, hget, hkey, a, dx, tt, cv, hev, ha, htt, hcv⟩ := got he
        have g : Grow [] D _ D (upd (upd H L (.lst (nvs (l.map Vaflxa.posCost)))) L2 (.lst acc)) := (Grow.refl g1.s).tmp hL2
        have hsp : (l.take (i + 1)).filter (fun q => Vaflxa.posCost q == Vaflxa.posCost p0) = (l.take i).filter (fun q => Vaflxa.posCost q == Vaflxa.posCost p0) ++ if (Vaflxa.posCost q == Vaflxa.posCost p0) = true then [q] else [] := filter_take _ _ _ _ hq
        refine ⟨rfl, _, rfl, _, rfl, d, xs, ep, kT (Vaflxa.posText q), e.2.2, ⟨rfl, g.s _ _ hd, GKeys.up g.s (gkeys_of z), KeyOf.up g.s hkey⟩, hget, a, CP, dx, _, _, hev, g.s _ _ ha, T.clP, T.nP _ (by simp), (lookup_posFs tt cv q).2.1, _, rfl, rfl, _, rfl, ?_⟩
        have hde : decide (V.int ((Vaflxa.posCost q : Nat) : Int) = V.int ((Vaflxa.posCost p0 : Nat) : Int)) = (Vaflxa.posCost q == Vaflxa.posCost p0) := by
          rw [Bool.eq_iff_iff, decide_eq_true_eq, beq_iff_eq]
          exact ⟨fun e => by have := V.int.inj e; omega, fun e => by rw [e]⟩
        rw [hde]
        cases hc : (Vaflxa.posCost q == Vaflxa.posCost p0) with
        | true =>
          refine iteT ⟨_, rfl, _, rfl, d, xs, ep, kT (Vaflxa.posText q), e.2.2, ⟨rfl, g.s _ _ hd, GKeys.up g.s (gkeys_of z), KeyOf.up g.s hkey⟩, hget, acc, upd_same, small_lt (by omega), acc ++ [e.2.2], by rw [upd_upd], by rw [List.length_append]; simp; omega, ?_⟩
          rw [hsp, hc, if_pos rfl]
          exact zz.snoc ⟨a, dx, tt, cv, hev, ha, htt, hcv⟩
        | false =>
          refine iteF ⟨acc, rfl, by omega, ?_⟩
          rw [hsp, hc, if_neg Bool.false_ne_true, List.append_nil]
          exact zz
      · rintro H' ⟨acc, rfl, hal, zz⟩
        rw [List.take_of_length_le (by omega)] at zz
        have g2 := Grow.fresh (M := []) (u := .lst acc) g1.s hL2
        refine k _ _ _ (g1.trans g2) ⟨L2, acc, rfl, upd_same, ?_⟩
        rw [hch]
        exact zz.mono fun _ _ q => PosAt.mono g2.d q
def partsP (b : Bx) (ls rs : List Pos) : List Pc := ls.flatMap fun p => rs.map fun q => .sub b.field p q b.case_
theorem partsP_len (b : Bx) (rs : List Pos) : ∀ ls : List Pos, (partsP b ls rs).length = ls.length * rs.length
  | [] => by simp [partsP]
  | p :: ls => by
    have := partsP_len b rs ls
    unfold partsP at this ⊢
    rw [List.flatMap_cons, List.length_append, this, List.length_map, List.length_cons, Nat.add_mul]; omega
def sp_parts_of (w : World) (K : PySem.W.Frag) (CP CB CPs CPc CS CC : Addr) : Sp := fun vs H Q _ => ∃ D b ls rs v1 v2 v3, vs = [v1, v2, v3] ∧ Sub D H ∧ BoxAt K w CP CB D v1 b ∧ b.field ≤ 60 ∧ PLs K CP D v2 ls ∧ PLs K CP D v3 rs ∧ (∀ p ∈ ls, wfP p) ∧ (∀ p ∈ rs, wfP p) ∧ ls.length ≤ 34 ∧ rs.length ≤ 34 ∧ ∀ D' H' r, Grow [] D H D' H' → PcL K CPc D' r (partsP b ls rs) → Q r H'
abbrev s_parts_of : Stmt := topS 57
theorem sc_parts_of : FnScope ["box", "lefts", "rights", "found", "left", "right"] ["box", "lefts", "rights"] (defScope s_parts_of) := ⟨rfl, rfl, rfl, by decide +kernel, rfl, by decide +kernel, by decide +kernel⟩
theorem ok_parts_of (F : Fun K "parts_of" "parts_of" s_parts_of f fd) (T : Txt K mg CP CB CPs CPc CS CC) (C_part_piece : Def P w K mg base 3 "part_piece" ["box", "left", "right"] (sp_part_piece w K CP CB CPs CPc CS CC)) : FnOk P w K mg base CX0 4 f fd ["box", "lefts", "rights"] (sp_parts_of w K CP CB CPs CPc CS CC) := by
  refine F.ok sc_parts_of (fun vs H Q E h => ?_) (fun cdv A outer s H vs Q E hr h => ?_)
  · obtain ⟨_, _, _, _, _, _, _, rfl, _⟩ := h; rfl
  · obtain ⟨D, b, ls, rs, v1, v2, v3, rfl, hs, hb, hf, ⟨a2, x2, rfl, e2, z2⟩, ⟨a3, x3, rfl, e3, z3⟩, hwl, hwr, hll, hlr, k⟩ := h
    refine ⟨_, (pss_cons (ps_set (i := 3) sc_parts_of.nd rfl (by first | exact Or.inl rfl | exact Or.inr rfl) (pe_lst pa_nil))
      (pss_cons (ps_for PassesOwn.never rfl (pi_list (pv 1)) (pg_name (i := 4) sc_parts_of.nd rfl (by first | exact Or.inl rfl | exact Or.inr rfl)) (pss_one (ps_expr (pe_bm PySem.F.plainAttrs_list PySem.F.slot_list_extend PySem.F.type_list_extend mt_extend (pv 3) (pa_cons (pe_lc (own := [("right", 5)]) (g := gName 5) rfl sc_parts_of.nd (pi_list (pv 2)) (blkOk_by (own := [("right", 5)]) (N := ["box", "lefts", "rights", "found", "left", "right"]) (sc := defScope s_parts_of) (by decide +kernel)) (fun _ _ _ _ _ => pg_name (i := 5) sc_parts_of.nd rfl (Or.inl rfl)) (fun _ _ _ _ _ => pts_nil) (fun _ _ _ _ _ => (pe_callD C_part_piece (hr.mono (by decide)) (by rfl) (pa_cons (pv 0) (pa_cons (pv 4) (pa_cons (pv 5) pa_nil)))))) pa_nil)))))
      (pss_one (ps_ret (pv 3))))), ?_⟩
    have l2 := z2.length
    have l3 := z3.length
    refine ⟨sz0, fun p hp => ?_⟩
    have g1 : Grow [] D H D (upd H p (.lst [])) := (Grow.refl hs).tmp hp
    have hdp : D p = none := hs.none hp
    refine ⟨_, rfl, a2, rfl, ⟨_, SqL.of (g1.s _ _ e2)⟩, for_it (walk_list (xs := x2)) (fun i σ H' => ∃ x4 x5 D' acc, σ = [some v1, some (.ref a2), some (.ref a3), some (.ref p), x4, x5] ∧ Grow [p] D (upd H p (.lst [])) D' H' ∧ H' p = some (.lst acc) ∧ All2 (PieceAt K CPc D') acc (partsP b (ls.take i) rs)) ?_ ?_ ?_ ?_⟩
    · exact ⟨_, _, D, [], rfl, Grow.refl g1.s, upd_same, trivial⟩
    · rintro i σ H' hi ⟨x4, x5, D', acc, rfl, g, _⟩
      exact SqL.of (g.s _ _ (g.d _ _ e2))
    · rintro i x σ H0 H' hi ⟨x4, x5, D', acc, rfl, g, hacc, z⟩ ⟨rfl, hx⟩
      obtain ⟨pl, hpl, bpl⟩ := z2.get hx
      refine ⟨_, rfl, .inl ⟨rfl, acc, SqL.of hacc⟩, _, rfl, a3, rfl, ⟨_, SqL.of (g.s _ _ (g.d _ _ e3))⟩, fun L hL => lc_it (walk_list (xs := x3)) (fun j H5 => ∃ D5 acc5, Own D' H' D5 H5 L (.lst acc5) ∧ acc5.length ≤ j ∧ All2 (PieceAt K CPc D5) acc5 ((rs.take j).map fun q => .sub b.field pl q b.case_)) ?_ ?_ ?_ ?_⟩
      · exact ⟨D', [], Own.mk' (Grow.refl g.s) hL, Nat.le_refl _, trivial⟩
      · rintro j H5 hj ⟨D5, acc5, o5, _⟩
        exact SqL.of (o5.g.s _ _ (o5.g.d _ _ (g.d _ _ e3)))
      · rintro j y H5' H5 hj ⟨D5, acc5, o5, hal5, zz5⟩ ⟨rfl, hy⟩
        obtain ⟨pr, hpr, bpr⟩ := z3.get hy
        have d5 := g.d.trans o5.g.d
        refine ⟨rfl, _, rfl, _, rfl, _, rfl, D5, b, pl, pr, v1, x, y, rfl, o5.g.s, hb.mono d5, hf, bpl.mono d5, hwl _ (List.mem_of_getElem? hpl), bpr.mono d5, hwr _ (List.mem_of_getElem? hpr), fun D6 H6 r g6 b6 => ?_⟩
        have o6 := o5.call g6
        refine ⟨acc5, o6.at_, small_lt (by omega), D6, acc5 ++ [r], o6.set, by rw [List.length_append]; simp; omega, ?_⟩
        rw [List.take_add_one, hpr, List.map_append]
        exact (zz5.mono fun _ _ q => PieceAt.mono g6.d q).snoc b6
      · rintro H5 ⟨D5, acc5, o5, hal5, zz5⟩
        rw [List.take_of_length_le (by omega)] at zz5
        have hp5 : H5 p = some (.lst acc) := o5.g.h p _ (by simp) hacc
        have g6 : Grow [p] D (upd H p (.lst [])) D5 H5 := g.trans o5.g.anyM
        have hd6 : D5 p = none := (g6.n p (by rw [upd_same]; exact Option.some_ne_none _)).trans hdp
        have la : acc.length ≤ 34 * 34 := by
          rw [z.length, partsP_len, List.length_take]
          exact Nat.mul_le_mul (by omega) hlr
        refine ⟨p, L, acc, acc5, rfl, rfl, hp5, o5.at_, small_le (by omega), ?_⟩
        refine ⟨_, _, D5, acc ++ acc5, rfl, g6.write (.inr (List.mem_singleton.mpr rfl)) hd6, upd_same, ?_⟩
        unfold partsP
        rw [flatMap_take _ _ _ _ hpl]
        exact (z.mono fun _ _ q => PieceAt.mono o5.g.d q).app zz5
    · rintro σ H' ⟨x4, x5, D', acc, rfl, g, hacc, z⟩
      refine ⟨_, rfl, ?_⟩
      rw [List.take_of_length_le (by omega)] at z
      have G := g1.own g hp
      exact k _ _ _ (G.all hs) ⟨p, acc, rfl, by rw [Fz.new hp]; exact hacc, z.mono fun _ _ q => PieceAt.mono G.sub q⟩
end
end Ps
set_option Elab.async false
set_option linter.all false
set_option maxRecDepth 100000
set_option maxHeartbeats 2000000
namespace Ps
open PySem PySem.Spec PyProof.Rows L2 Gd
def pieceKey (x : Pc) : PyData := ckey (Vaflxa.pieceCost x) (Vaflxa.pieceText x)
theorem ahead_eq (x y : Pc) : PySem.W.dataLt (pieceKey x) (pieceKey y) = Vaflxa.pieceAhead x y := lt_ckey _ _ _ _
theorem lookup_pieceFs (tt : V) (x : Pc) : (pieceFs tt x).lookup ("text" : Str) = some tt ∧ (pieceFs tt x).lookup ("cost" : Str) = some (.int (Vaflxa.pieceCost x : Nat)) := ⟨rfl, rfl⟩
def bestAt (l : List Pc) (i j : Nat) : Bool := match l[i]?, l[j]? with
  | some x, some y => PySem.W.dataLt (pieceKey x) (pieceKey y)
  | _, _ => false
theorem leastIn_snoc (l : List Pc) (x : Pc) : Vaflxb.leastIn (l ++ [x]) = match Vaflxb.leastIn l with
    | none => some x
    | some y => if Vaflxa.pieceAhead x y = true then some x else some y := by
  unfold Vaflxb.leastIn
  rw [List.foldl_append]
  show (match _ with | none => some x | some y => if Vaflxa.pieceAhead x y = true then some x else _) = _
  split <;> rename_i h <;> rw [h]
theorem best_least (l : List Pc) : ∀ n, n < l.length → Vaflxb.leastIn (l.take (n + 1)) = l[argBest (bestAt l) n]?
  | 0, h => by
    cases l with
    | nil => exact absurd h (by simp)
    | cons x l => rfl
  | n + 1, h => by
    have ih := best_least l n (by omega)
    have hx : l[n + 1]? = some (l[n + 1]) := by simp [h]
    rw [show l.take (n + 1 + 1) = l.take (n + 1) ++ [l[n + 1]] by rw [List.take_add_one, hx]; rfl, leastIn_snoc, ih]
    have hle := Gd.argBest_lt (bt := bestAt l) n
    have hy : l[argBest (bestAt l) n]? = some (l[argBest (bestAt l) n]'(by omega)) := by simp
    rw [hy]
    show (if Vaflxa.pieceAhead _ _ = true then _ else _) = l[if bestAt l (n + 1) (argBest (bestAt l) n) = true then n + 1 else argBest (bestAt l) n]?
    have hb : bestAt l (n + 1) (argBest (bestAt l) n) = Vaflxa.pieceAhead (l[n + 1]) (l[argBest (bestAt l) n]'(by omega)) := by
      have e : bestAt l (n + 1) (argBest (bestAt l) n) = match l[n + 1]?, l[argBest (bestAt l) n]? with
        | some x, some y => PySem.W.dataLt (pieceKey x) (pieceKey y)
        | _, _ => false := rfl
      rw [e, hx, hy]
      exact ahead_eq _ _
    rw [hb]
    split
    · rw [hx]
    · rw [hy]
theorem best_all (l : List Pc) (h : l ≠ []) : Vaflxb.leastIn l = l[argBest (bestAt l) (l.length - 1)]? := by
  have hp : 0 < l.length := List.length_pos_iff.mpr h
  have := best_least l (l.length - 1) (by omega)
  rw [show l.length - 1 + 1 = l.length by omega, List.take_length] at this
  exact this
theorem leastIn_nil : Vaflxb.leastIn [] = none := rfl
theorem flat_len_le {α β : Type} (f : α → List β) (g : α → Nat) (h : ∀ x, (f x).length ≤ g x) : ∀ xs : List α, (xs.flatMap f).length ≤ (xs.map g).sum
  | [] => Nat.le_refl _
  | x :: xs => by
    rw [List.flatMap_cons, List.length_append, List.map_cons, List.sum_cons]
    have := flat_len_le f g h xs
    have := h x
    omega
theorem cheap_le (l : List Pos) : (Vaflxb.cheapest l).length ≤ l.length := by
  cases l with
  | nil => exact Nat.le_refl _
  | cons p l => exact List.length_filter_le _ _
theorem cheap_sub {l : List Pos} {q : Pos} (h : q ∈ Vaflxb.cheapest l) : q ∈ l := by
  cases l with
  | nil => exact h
  | cons p l => exact (List.mem_filter.mp h).1
def cheapP (b : Bx) : List Pc := partsP b (Vaflxb.cheapest b.left) (Vaflxb.cheapest b.right)
def allP (b : Bx) : List Pc := partsP b b.left b.right
theorem cheapP_le (b : Bx) : (cheapP b).length ≤ b.left.length * b.right.length := by
  unfold cheapP
  rw [partsP_len]
  exact Nat.mul_le_mul (cheap_le _) (cheap_le _)
theorem least_eq (s : Pcs) : Vaflxb.leastPiece s = Vaflxb.leastIn (Vaflxb.constPieces s ++ s.boxes.flatMap cheapP) := rfl
theorem all_eq (s : Pcs) : Vaflxb.allPieces s = Vaflxb.constPieces s ++ s.boxes.flatMap allP := rfl
theorem count_eq (s : Pcs) : Vaflxb.countOf s = (Vaflxb.constPieces s).length + (s.boxes.map fun b => b.left.length * b.right.length).sum := by
  unfold Vaflxb.countOf Vaflxb.constPieces
  rw [sum_eq]
  cases s.const <;> rfl
theorem const_le (s : Pcs) : (Vaflxb.constPieces s).length ≤ 1 := by
  unfold Vaflxb.constPieces
  cases s.const <;> simp
section
variable {P : Program} {w : World} {K : PySem.W.Frag} {mg : Str → Option Value} {base : Heap} {CP CB CPs CPc CS CC : Addr} {f : Addr} {fd : FuncData}
/-- what ahead_key does to a piece -/
theorem key_piece (T : Txt K mg CP CB CPs CPc CS CC) {D H' : Hp} {v : V} {x : Pc} (hs : Sub D H') (q : PieceAt K CPc D v x) : sp_ahead_key w K CP CB CPs CPc CS CC [v] H' (fun v H'' => Same H' H'' ∧ Dp K H'' v (pieceKey x)) E0 := by
  obtain ⟨b, dx, tt, rfl, hb, htt⟩ := q
  refine ⟨b, CPc, dx, _, _, _, rfl, hs _ _ hb, T.clPc, T.nPc _ (by simp), T.nPc _ (by simp), (lookup_pieceFs tt x).2, (lookup_pieceFs tt x).1, fun p hp => ?_⟩
  have sm : Same H' (upd H' p (.tup [.int (Vaflxa.pieceCost x : Nat), tt])) := (Grow.fresh (M := []) hs hp).same
  exact ⟨sm, .tup (SqT.of upd_same) (.cons (.int _) (.cons (Dp.mono (rd_same sm) _ _ (Dp.up hs htt.dp)) .nil))⟩
def sp_least_piece (w : World) (K : PySem.W.Frag) (CP CB CPs CPc CS CC : Addr) : Sp := fun vs H Q _ => ∃ D s v, vs = [v] ∧ Sub D H ∧ PcsAt K w CP CB CPs D v s ∧ (∀ b ∈ s.boxes, wfB b) ∧ (∀ t, s.const = some t → t.length ≤ 12) ∧ Vaflxb.countOf s ≤ 900000 ∧ (Vaflxb.leastPiece s = none → ∀ D' H', Grow [] D H D' H' → Q .non H') ∧ (∀ x, Vaflxb.leastPiece s = some x → ∀ D' H' r, Grow [] D H D' H' → PieceAt K CPc D' r x → Q r H')
abbrev s_least_piece : Stmt := topS 58
theorem sc_least_piece : FnScope ["pieces", "some", "box"] ["pieces"] (defScope s_least_piece) := ⟨rfl, rfl, rfl, by decide +kernel, rfl, by decide +kernel, by decide +kernel⟩
theorem ok_least_piece (F : Fun K "least_piece" "least_piece" s_least_piece f fd) (T : Txt K mg CP CB CPs CPc CS CC) (C_ahead_key : Def P w K mg base 1 "ahead_key" ["one"] (sp_ahead_key w K CP CB CPs CPc CS CC)) (C_cheapest : Def P w K mg base 1 "cheapest" ["positions"] (sp_cheapest w K CP CB CPs CPc CS CC)) (C_constant_piece : Def P w K mg base 3 "constant_piece" ["constant"] (sp_constant_piece w K CP CB CPs CPc CS CC)) (C_parts_of : Def P w K mg base 4 "parts_of" ["box", "lefts", "rights"] (sp_parts_of w K CP CB CPs CPc CS CC)) : FnOk P w K mg base CX0 5 f fd ["pieces"] (sp_least_piece w K CP CB CPs CPc CS CC) := by
  obtain ⟨f_ahead_key, fd_ahead_key, F_ahead_key, m_ahead_key, kp_ahead_key, b_ahead_key⟩ := C_ahead_key.ex
  refine F.ok sc_least_piece (fun vs H Q E h => ?_) (fun cdv A outer s H vs Q E hr h => ?_)
  · obtain ⟨_, _, _, rfl, _⟩ := h; rfl
  · obtain ⟨D, s, v, rfl, hs, ⟨a, dx, cv, bv1, rfl, ha, hcv, ⟨ab, xb, rfl, eb, zb⟩⟩, hw, hcl, hcount, k0, k1⟩ := h
    refine ⟨_, (pss_cons (ps_set (i := 1) sc_least_piece.nd rfl (by first | exact Or.inl rfl | exact Or.inr rfl) (pe_lst pa_nil))
      (pss_cons (ps_if (pt_cmpR op_notN (pe_fld (pv 0) rfl) pe_non (nomark _)) (pss_one (ps_expr (pe_bm PySem.F.plainAttrs_list PySem.F.slot_list_append PySem.F.type_list_append mt_append (pv 1) (pa_cons (pe_callD C_constant_piece (hr.mono (by decide)) (by rfl) (pa_cons (pe_fld (pv 0) rfl) pa_nil)) pa_nil)))) pss_nil)
      (pss_cons (ps_for PassesOwn.never rfl (pi_list (pe_fld (pv 0) rfl)) (pg_name (i := 2) sc_least_piece.nd rfl (by first | exact Or.inl rfl | exact Or.inr rfl)) (pss_one (ps_expr (pe_bm PySem.F.plainAttrs_list PySem.F.slot_list_extend PySem.F.type_list_extend mt_extend (pv 1) (pa_cons (pe_callD C_parts_of (hr.mono (by decide)) (by rfl) (pa_cons (pv 2) (pa_cons (pe_callD C_cheapest (hr.mono (by decide)) (by rfl) (pa_cons (pe_fld (pv 2) rfl) pa_nil)) (pa_cons (pe_callD C_cheapest (hr.mono (by decide)) (by rfl) (pa_cons (pe_fld (pv 2) rfl) pa_nil)) pa_nil)))) pa_nil)))))
      (pss_cons (ps_if (pt_cmpR (op_eqNil hr.units) (pv 1) (pe_lst pa_nil) (nomark _)) (pss_one (ps_ret pe_non)) pss_nil)
      (pss_one (ps_ret (pe_callBK (cr_minF rfl F_ahead_key (hr.mono (by decide)) b_ahead_key) (by rfl) T.m_min b_min (pa_cons (pv 1) pa_nil) (pk_cons (pe_ref (by rfl) m_ahead_key) pk_nil)))))))), ?_⟩
    rw [least_eq] at k0 k1
    rw [count_eq] at hcount
    have hlb := zb.length
    refine ⟨sz0, fun p hp => ?_⟩
    have g1 : Grow [] D H D (upd H p (.lst [])) := (Grow.refl hs).tmp hp
    have hdp : D p = none := hs.none hp
    refine ⟨_, rfl, a, CPs, dx, _, cv, rfl, g1.s _ _ ha, T.clPs, T.nPs _ (by simp), rfl, rfl, _, rfl, ?_⟩
    cases hc : s.const with
    | none =>
      have z0 : All2 (PieceAt K CPc D) [] (Vaflxb.constPieces s) := by unfold Vaflxb.constPieces; rw [hc]; trivial
      rw [hc] at hcv
      cases (show cv = .non from hcv)
      have g0 : Grow [p] D (upd H p (.lst [])) D (upd H p (.lst [])) := Grow.refl g1.s
      have hp0 : (upd H p (.lst [])) p = some (.lst []) := upd_same
      refine iteF ?_
      refine ⟨_, rfl, a, CPs, dx, _, .ref ab, rfl, g0.s _ _ (g0.d _ _ ha), T.clPs, T.nPs _ (by simp), rfl, ab, rfl, ⟨_, SqL.of (g0.s _ _ (g0.d _ _ eb))⟩, for_it (walk_list (xs := xb)) (fun i σ H' => ∃ x2 D' acc, σ = [some (.ref a), some (.ref p), x2] ∧ Grow [p] D (upd H p (.lst [])) D' H' ∧ H' p = some (.lst acc) ∧ All2 (PieceAt K CPc D') acc (Vaflxb.constPieces s ++ (s.boxes.take i).flatMap cheapP)) ?_ ?_ ?_ ?_⟩
      · exact ⟨_, _, _, rfl, g0, hp0, by rw [List.take_zero, List.flatMap_nil, List.append_nil]; exact z0⟩
      · rintro i σ H' hi ⟨x2, D', acc, rfl, g, _⟩
        exact SqL.of (g.s _ _ (g.d _ _ eb))
      · rintro i x σ H0 H' hi ⟨x2, D', acc, rfl, g, hacc, z⟩ ⟨rfl, hx⟩
        obtain ⟨bx, hbx, bbx⟩ := zb.get hx
        have hwb := hw _ (List.mem_of_getElem? hbx)
        obtain ⟨abx, dxb, lv, rv, rfl, habx, plv, prv⟩ := id bbx
        have LB := lookup_boxFs bx lv rv
        refine ⟨_, rfl, .inl ⟨rfl, acc, SqL.of hacc⟩, _, rfl, _, rfl, abx, CB, dxb, _, _, rfl, g.s _ _ (g.d _ _ habx), T.clB, T.nB _ (by simp), LB.2.2.1, D', bx.left, lv, rfl, g.s, plv.mono g.d, hwb.l, hwb.nl, fun D3 H3 r3 g3 b3 => ?_⟩
        refine ⟨_, rfl, abx, CB, dxb, _, _, rfl, g3.s _ _ (g3.d _ _ (g.d _ _ habx)), T.clB, T.nB _ (by simp), LB.2.2.2, D3, bx.right, rv, rfl, g3.s, (prv.mono g.d).mono g3.d, hwb.r, hwb.nr, fun D4 H4 r4 g4 b4 => ?_⟩
        have d4 := (g.d.trans g3.d).trans g4.d
        refine ⟨D4, bx, _, _, .ref abx, r3, r4, rfl, g4.s, bbx.mono d4, Nat.le_trans hwb.f2 (by decide), b3.mono g4.d, b4, fun p hp => hwb.l.wf p (cheap_sub hp), fun p hp => hwb.r.wf p (cheap_sub hp), Nat.le_trans (cheap_le _) hwb.l.len, Nat.le_trans (cheap_le _) hwb.r.len, fun D5 H5 r5 g5 b5 => ?_⟩
        obtain ⟨a5, xs5, rfl, e5, z5⟩ := b5
        have g35 := (g3.trans g4).trans g5
        have hp5 : H5 p = some (.lst acc) := g35.h p _ (by simp) hacc
        have hd5 : D5 p = none := ((g.trans g35.anyM).n p (by rw [upd_same]; exact Option.some_ne_none _)).trans hdp
        have zz : All2 (PieceAt K CPc D5) (acc ++ xs5) (Vaflxb.constPieces s ++ (s.boxes.take (i + 1)).flatMap cheapP) := by
          rw [flatMap_take _ _ _ _ hbx, ← List.append_assoc]
          exact (z.mono fun _ _ q => PieceAt.mono g35.d q).app z5
        have hsz : acc.length + xs5.length ≤ sizeLine := by
          have h1 := zz.length
          rw [List.length_append, List.length_append] at h1
          have h2 := take_flat_le cheapP s.boxes (i + 1)
          have h3 : (Vaflxb.constPieces s).length + (s.boxes.flatMap cheapP).length ≤ 900000 := Nat.le_trans (Nat.add_le_add_left (flat_len_le cheapP (fun b => b.left.length * b.right.length) cheapP_le s.boxes) _) hcount
          exact small_le (by omega)
        refine ⟨p, a5, acc, xs5, rfl, rfl, hp5, g5.s _ _ e5, hsz, ?_⟩
        exact ⟨_, D5, acc ++ xs5, rfl, (g.trans g35.anyM).write (.inr (List.mem_singleton.mpr rfl)) hd5, upd_same, zz⟩
      · rintro σ H' ⟨x2, D', acc, rfl, g, hacc, z⟩
        rw [List.take_of_length_le (by omega)] at z
        have G := g1.own g hp
        refine ⟨_, rfl, sz0, fun q hq => ?_⟩
        have g2 : Grow [] D' H' D' (upd H' q (.lst [])) := (Grow.refl g.s).tmp hq
        have G2 := G.trans g2
        have hacc2 : upd H' q (.lst []) p = some (.lst acc) := g2.h p _ (by simp) hacc
        refine ⟨p, q, acc, rfl, rfl, hacc2, upd_same, _, rfl, ?_⟩
        have zl := z.length
        cases acc with
        | nil =>
          have e0 : Vaflxb.constPieces s ++ s.boxes.flatMap cheapP = [] := List.length_eq_zero_iff.mp zl.symm
          rw [e0] at k0
          exact iteT (k0 rfl _ _ G2)
        | cons y ys =>
          have e0 : Vaflxb.constPieces s ++ s.boxes.flatMap cheapP ≠ [] := fun e => by rw [e] at zl; cases zl
          obtain ⟨f1, f2, f3⟩ := all2_zip z
          refine iteF ⟨_, rfl, V × Pc, Prod.fst, fun b => pieceKey b.2, p, (y :: ys).zip (Vaflxb.constPieces s ++ s.boxes.flatMap cheapP), rfl, rfl, by rw [f1]; exact hacc2, ?_, allAlike_ckey _ _ _, fun x _ => ⟨depth_ckey _ _, by unfold pieceKey ckey; exact fun z => nomatch z⟩, fun x hx H3 hH3 => ?_, ?_⟩
          · intro e
            rw [e] at f1; exact absurd f1 (by simp)
          · exact key_piece T (fun c o e => hH3 c o (g2.s c o e)) (f3 x hx)
          · intro H3 x hH3 hx
            have zkey : ∀ i, ((y :: ys).zip (Vaflxb.constPieces s ++ s.boxes.flatMap cheapP))[i]?.map Prod.snd = (Vaflxb.constPieces s ++ s.boxes.flatMap cheapP)[i]? := fun i => by rw [← List.getElem?_map, f2]
            have hx : ((y :: ys).zip (Vaflxb.constPieces s ++ s.boxes.flatMap cheapP))[argBest (bestAt (Vaflxb.constPieces s ++ s.boxes.flatMap cheapP)) (((y :: ys).zip (Vaflxb.constPieces s ++ s.boxes.flatMap cheapP)).length - 1)]? = some x := by
              have key : ∀ (F : Nat → Nat → Bool) (n : Nat), (∀ i j, F i j = bestAt (Vaflxb.constPieces s ++ s.boxes.flatMap cheapP) i j) → ((y :: ys).zip (Vaflxb.constPieces s ++ s.boxes.flatMap cheapP))[argBest F n]? = some x → ((y :: ys).zip (Vaflxb.constPieces s ++ s.boxes.flatMap cheapP))[argBest (bestAt (Vaflxb.constPieces s ++ s.boxes.flatMap cheapP)) n]? = some x := fun F n hF h => by
                rw [← (funext fun i => funext fun j => hF i j : F = bestAt (Vaflxb.constPieces s ++ s.boxes.flatMap cheapP))]; exact h
              refine key _ _ (fun i j => ?_) hx
              have e : bestAt (Vaflxb.constPieces s ++ s.boxes.flatMap cheapP) i j = match (Vaflxb.constPieces s ++ s.boxes.flatMap cheapP)[i]?, (Vaflxb.constPieces s ++ s.boxes.flatMap cheapP)[j]? with
                | some x, some y => PySem.W.dataLt (pieceKey x) (pieceKey y)
                | _, _ => false := rfl
              rw [e, ← zkey i, ← zkey j]
              cases ((y :: ys).zip (Vaflxb.constPieces s ++ s.boxes.flatMap cheapP))[i]? <;> cases ((y :: ys).zip (Vaflxb.constPieces s ++ s.boxes.flatMap cheapP))[j]? <;> rfl
            have hlz : ((y :: ys).zip (Vaflxb.constPieces s ++ s.boxes.flatMap cheapP)).length = (Vaflxb.constPieces s ++ s.boxes.flatMap cheapP).length := by
              rw [List.length_zip, zl, Nat.min_self]
            rw [hlz] at hx
            have hb := best_all _ e0
            have hx2 : (Vaflxb.constPieces s ++ s.boxes.flatMap cheapP)[argBest (bestAt (Vaflxb.constPieces s ++ s.boxes.flatMap cheapP)) ((Vaflxb.constPieces s ++ s.boxes.flatMap cheapP).length - 1)]? = some x.2 := by
              conv => lhs; rw [← f2]
              rw [List.getElem?_map, f2, hx]; rfl
            rw [hx2] at hb
            have G3 : Grow [] D H D' H3 := G2.trans (Grow.of_same g2.s hH3)
            exact k1 _ hb _ _ _ G3 (f3 x (List.mem_of_getElem? hx))
    | some t =>
      rw [hc] at hcv
      obtain ⟨ac, rfl, eac⟩ := id hcv
      refine iteT ⟨_, rfl, .inl ⟨rfl, _, SqL.of upd_same⟩, _, rfl, a, CPs, dx, _, .ref ac, rfl, g1.s _ _ ha, T.clPs, T.nPs _ (by simp), rfl, D, t, .ref ac, rfl, g1.s, hcv, hcl t hc, fun D2 H2 r2 g2 b2 => ?_⟩
      have hp2 : H2 p = some (.lst []) := g2.h p _ (by simp) upd_same
      have hd2 : D2 p = none := g2.keep (by rw [upd_same]; exact Option.some_ne_none _) hdp
      refine ⟨p, [], r2, rfl, rfl, hp2, by decide, ?_⟩
      have g0 : Grow [p] D (upd H p (.lst [])) D2 (upd H2 p (.lst ([] ++ [r2]))) := g2.anyM.write (.inr (List.mem_singleton.mpr rfl)) hd2
      have hp0 : (upd H2 p (.lst ([] ++ [r2]))) p = some (.lst [r2]) := upd_same
      have z0 : All2 (PieceAt K CPc D2) [r2] (Vaflxb.constPieces s) := by unfold Vaflxb.constPieces; rw [hc]; exact ⟨b2, trivial⟩
      refine ⟨_, rfl, a, CPs, dx, _, .ref ab, rfl, g0.s _ _ (g0.d _ _ ha), T.clPs, T.nPs _ (by simp), rfl, ab, rfl, ⟨_, SqL.of (g0.s _ _ (g0.d _ _ eb))⟩, for_it (walk_list (xs := xb)) (fun i σ H' => ∃ x2 D' acc, σ = [some (.ref a), some (.ref p), x2] ∧ Grow [p] D (upd H p (.lst [])) D' H' ∧ H' p = some (.lst acc) ∧ All2 (PieceAt K CPc D') acc (Vaflxb.constPieces s ++ (s.boxes.take i).flatMap cheapP)) ?_ ?_ ?_ ?_⟩
      · exact ⟨_, _, _, rfl, g0, hp0, by rw [List.take_zero, List.flatMap_nil, List.append_nil]; exact z0⟩
      · rintro i σ H' hi ⟨x2, D', acc, rfl, g, _⟩
        exact SqL.of (g.s _ _ (g.d _ _ eb))
      · rintro i x σ H0 H' hi ⟨x2, D', acc, rfl, g, hacc, z⟩ ⟨rfl, hx⟩
        obtain ⟨bx, hbx, bbx⟩ := zb.get hx
        have hwb := hw _ (List.mem_of_getElem? hbx)
        obtain ⟨abx, dxb, lv, rv, rfl, habx, plv, prv⟩ := id bbx
        have LB := lookup_boxFs bx lv rv
        refine ⟨_, rfl, .inl ⟨rfl, acc, SqL.of hacc⟩, _, rfl, _, rfl, abx, CB, dxb, _, _, rfl, g.s _ _ (g.d _ _ habx), T.clB, T.nB _ (by simp), LB.2.2.1, D', bx.left, lv, rfl, g.s, plv.mono g.d, hwb.l, hwb.nl, fun D3 H3 r3 g3 b3 => ?_⟩
        refine ⟨_, rfl, abx, CB, dxb, _, _, rfl, g3.s _ _ (g3.d _ _ (g.d _ _ habx)), T.clB, T.nB _ (by simp), LB.2.2.2, D3, bx.right, rv, rfl, g3.s, (prv.mono g.d).mono g3.d, hwb.r, hwb.nr, fun D4 H4 r4 g4 b4 => ?_⟩
        have d4 := (g.d.trans g3.d).trans g4.d
        refine ⟨D4, bx, _, _, .ref abx, r3, r4, rfl, g4.s, bbx.mono d4, Nat.le_trans hwb.f2 (by decide), b3.mono g4.d, b4, fun p hp => hwb.l.wf p (cheap_sub hp), fun p hp => hwb.r.wf p (cheap_sub hp), Nat.le_trans (cheap_le _) hwb.l.len, Nat.le_trans (cheap_le _) hwb.r.len, fun D5 H5 r5 g5 b5 => ?_⟩
        obtain ⟨a5, xs5, rfl, e5, z5⟩ := b5
        have g35 := (g3.trans g4).trans g5
        have hp5 : H5 p = some (.lst acc) := g35.h p _ (by simp) hacc
        have hd5 : D5 p = none := ((g.trans g35.anyM).n p (by rw [upd_same]; exact Option.some_ne_none _)).trans hdp
        have zz : All2 (PieceAt K CPc D5) (acc ++ xs5) (Vaflxb.constPieces s ++ (s.boxes.take (i + 1)).flatMap cheapP) := by
          rw [flatMap_take _ _ _ _ hbx, ← List.append_assoc]
          exact (z.mono fun _ _ q => PieceAt.mono g35.d q).app z5
        have hsz : acc.length + xs5.length ≤ sizeLine := by
          have h1 := zz.length
          rw [List.length_append, List.length_append] at h1
          have h2 := take_flat_le cheapP s.boxes (i + 1)
          have h3 : (Vaflxb.constPieces s).length + (s.boxes.flatMap cheapP).length ≤ 900000 := Nat.le_trans (Nat.add_le_add_left (flat_len_le cheapP (fun b => b.left.length * b.right.length) cheapP_le s.boxes) _) hcount
          exact small_le (by omega)
        refine ⟨p, a5, acc, xs5, rfl, rfl, hp5, g5.s _ _ e5, hsz, ?_⟩
        exact ⟨_, D5, acc ++ xs5, rfl, (g.trans g35.anyM).write (.inr (List.mem_singleton.mpr rfl)) hd5, upd_same, zz⟩
      · rintro σ H' ⟨x2, D', acc, rfl, g, hacc, z⟩
        rw [List.take_of_length_le (by omega)] at z
        have G := g1.own g hp
        refine ⟨_, rfl, sz0, fun q hq => ?_⟩
        have g2 : Grow [] D' H' D' (upd H' q (.lst [])) := (Grow.refl g.s).tmp hq
        have G2 := G.trans g2
        have hacc2 : upd H' q (.lst []) p = some (.lst acc) := g2.h p _ (by simp) hacc
        refine ⟨p, q, acc, rfl, rfl, hacc2, upd_same, _, rfl, ?_⟩
        have zl := z.length
        cases acc with
        | nil =>
          have e0 : Vaflxb.constPieces s ++ s.boxes.flatMap cheapP = [] := List.length_eq_zero_iff.mp zl.symm
          rw [e0] at k0
          exact iteT (k0 rfl _ _ G2)
        | cons y ys =>
          have e0 : Vaflxb.constPieces s ++ s.boxes.flatMap cheapP ≠ [] := fun e => by rw [e] at zl; cases zl
          obtain ⟨f1, f2, f3⟩ := all2_zip z
          refine iteF ⟨_, rfl, V × Pc, Prod.fst, fun b => pieceKey b.2, p, (y :: ys).zip (Vaflxb.constPieces s ++ s.boxes.flatMap cheapP), rfl, rfl, by rw [f1]; exact hacc2, ?_, allAlike_ckey _ _ _, fun x _ => ⟨depth_ckey _ _, by unfold pieceKey ckey; exact fun z => nomatch z⟩, fun x hx H3 hH3 => ?_, ?_⟩
          · intro e
            rw [e] at f1; exact absurd f1 (by simp)
          · exact key_piece T (fun c o e => hH3 c o (g2.s c o e)) (f3 x hx)
          · intro H3 x hH3 hx
            have zkey : ∀ i, ((y :: ys).zip (Vaflxb.constPieces s ++ s.boxes.flatMap cheapP))[i]?.map Prod.snd = (Vaflxb.constPieces s ++ s.boxes.flatMap cheapP)[i]? := fun i => by rw [← List.getElem?_map, f2]
            have hx : ((y :: ys).zip (Vaflxb.constPieces s ++ s.boxes.flatMap cheapP))[argBest (bestAt (Vaflxb.constPieces s ++ s.boxes.flatMap cheapP)) (((y :: ys).zip (Vaflxb.constPieces s ++ s.boxes.flatMap cheapP)).length - 1)]? = some x := by
              have key : ∀ (F : Nat → Nat → Bool) (n : Nat), (∀ i j, F i j = bestAt (Vaflxb.constPieces s ++ s.boxes.flatMap cheapP) i j) → ((y :: ys).zip (Vaflxb.constPieces s ++ s.boxes.flatMap cheapP))[argBest F n]? = some x → ((y :: ys).zip (Vaflxb.constPieces s ++ s.boxes.flatMap cheapP))[argBest (bestAt (Vaflxb.constPieces s ++ s.boxes.flatMap cheapP)) n]? = some x := fun F n hF h => by
                rw [← (funext fun i => funext fun j => hF i j : F = bestAt (Vaflxb.constPieces s ++ s.boxes.flatMap cheapP))]; exact h
              refine key _ _ (fun i j => ?_) hx
              have e : bestAt (Vaflxb.constPieces s ++ s.boxes.flatMap cheapP) i j = match (Vaflxb.constPieces s ++ s.boxes.flatMap cheapP)[i]?, (Vaflxb.constPieces s ++ s.boxes.flatMap cheapP)[j]? with
                | some x, some y => PySem.W.dataLt (pieceKey x) (pieceKey y)
                | _, _ => false := rfl
              rw [e, ← zkey i, ← zkey j]
              cases ((y :: ys).zip (Vaflxb.constPieces s ++ s.boxes.flatMap cheapP))[i]? <;> cases ((y :: ys).zip (Vaflxb.constPieces s ++ s.boxes.flatMap cheapP))[j]? <;> rfl
            have hlz : ((y :: ys).zip (Vaflxb.constPieces s ++ s.boxes.flatMap cheapP)).length = (Vaflxb.constPieces s ++ s.boxes.flatMap cheapP).length := by
              rw [List.length_zip, zl, Nat.min_self]
            rw [hlz] at hx
            have hb := best_all _ e0
            have hx2 : (Vaflxb.constPieces s ++ s.boxes.flatMap cheapP)[argBest (bestAt (Vaflxb.constPieces s ++ s.boxes.flatMap cheapP)) ((Vaflxb.constPieces s ++ s.boxes.flatMap cheapP).length - 1)]? = some x.2 := by
              conv => lhs; rw [← f2]
              rw [List.getElem?_map, f2, hx]; rfl
            rw [hx2] at hb
            have G3 : Grow [] D H D' H3 := G2.trans (Grow.of_same g2.s hH3)
            exact k1 _ hb _ _ _ G3 (f3 x (List.mem_of_getElem? hx))
def sp_all_pieces (w : World) (K : PySem.W.Frag) (CP CB CPs CPc CS CC : Addr) : Sp := fun vs H Q _ => ∃ D s v, vs = [v] ∧ Sub D H ∧ PcsAt K w CP CB CPs D v s ∧ (∀ b ∈ s.boxes, wfB b) ∧ (∀ t, s.const = some t → t.length ≤ 12) ∧ Vaflxb.countOf s ≤ 900000 ∧ ∀ D' H' r, Grow [] D H D' H' → PcL K CPc D' r (Vaflxb.sortBy Vaflxa.pieceAhead (Vaflxb.allPieces s)) → Q r H'
abbrev s_all_pieces : Stmt := topS 59
theorem sc_all_pieces : FnScope ["pieces", "some", "box", "lefts", "text"] ["pieces"] (defScope s_all_pieces) := ⟨rfl, rfl, rfl, by decide +kernel, rfl, by decide +kernel, by decide +kernel⟩
theorem ok_all_pieces (F : Fun K "all_pieces" "all_pieces" s_all_pieces f fd) (T : Txt K mg CP CB CPs CPc CS CC) (C_ahead_key : Def P w K mg base 1 "ahead_key" ["one"] (sp_ahead_key w K CP CB CPs CPc CS CC)) (C_constant_piece : Def P w K mg base 3 "constant_piece" ["constant"] (sp_constant_piece w K CP CB CPs CPc CS CC)) (C_parts_of : Def P w K mg base 4 "parts_of" ["box", "lefts", "rights"] (sp_parts_of w K CP CB CPs CPc CS CC)) : FnOk P w K mg base CX0 5 f fd ["pieces"] (sp_all_pieces w K CP CB CPs CPc CS CC) := by
  obtain ⟨f_ahead_key, fd_ahead_key, F_ahead_key, m_ahead_key, kp_ahead_key, b_ahead_key⟩ := C_ahead_key.ex
  refine F.ok sc_all_pieces (fun vs H Q E h => ?_) (fun cdv A outer s H vs Q E hr h => ?_)
  · obtain ⟨_, _, _, rfl, _⟩ := h; rfl
  · obtain ⟨D, s, v, rfl, hs, ⟨a, dx, cv, bv1, rfl, ha, hcv, ⟨ab, xb, rfl, eb, zb⟩⟩, hw, hcl, hcount, k⟩ := h
    refine ⟨_, (pss_cons (ps_set (i := 1) sc_all_pieces.nd rfl (by first | exact Or.inl rfl | exact Or.inr rfl) (pe_lst pa_nil))
      (pss_cons (ps_if (pt_cmpR op_notN (pe_fld (pv 0) rfl) pe_non (nomark _)) (pss_one (ps_expr (pe_bm PySem.F.plainAttrs_list PySem.F.slot_list_append PySem.F.type_list_append mt_append (pv 1) (pa_cons (pe_callD C_constant_piece (hr.mono (by decide)) (by rfl) (pa_cons (pe_fld (pv 0) rfl) pa_nil)) pa_nil)))) pss_nil)
      (pss_cons (ps_for PassesOwn.never rfl (pi_list (pe_fld (pv 0) rfl)) (pg_name (i := 2) sc_all_pieces.nd rfl (by first | exact Or.inl rfl | exact Or.inr rfl)) (pss_cons (ps_setLc (i := 3) (own := [("text", 4)]) (g := gName 4) rfl sc_all_pieces.nd rfl rfl (sw_true rfl rfl rfl (by decide +kernel)) (pi_G (pe_fld (pv 2) rfl)) (blkOk_by (own := [("text", 4)]) (N := ["pieces", "some", "box", "lefts", "text"]) (sc := defScope s_all_pieces) (by decide +kernel)) (fun _ _ _ _ _ => pg_name (i := 4) sc_all_pieces.nd rfl (Or.inl rfl)) (fun _ _ _ _ _ => pts_nil) (fun _ _ _ _ _ => (pe_getR (K := K) (w := w) hr (pe_fldR (K := K) (pv 2) rfl) (pv 4) (fun _ _ => rfl))))
      (pss_one (ps_expr (pe_bm PySem.F.plainAttrs_list PySem.F.slot_list_extend PySem.F.type_list_extend mt_extend (pv 1) (pa_cons (pe_callD C_parts_of (hr.mono (by decide)) (by rfl) (pa_cons (pv 2) (pa_cons (pv 3) (pa_cons (pe_lc (own := [("text", 4)]) (g := gName 4) rfl sc_all_pieces.nd (pi_G (pe_fld (pv 2) rfl)) (blkOk_by (own := [("text", 4)]) (N := ["pieces", "some", "box", "lefts", "text"]) (sc := defScope s_all_pieces) (by decide +kernel)) (fun _ _ _ _ _ => pg_name (i := 4) sc_all_pieces.nd rfl (Or.inl rfl)) (fun _ _ _ _ _ => pts_nil) (fun _ _ _ _ _ => (pe_getR (K := K) (w := w) hr (pe_fldR (K := K) (pv 2) rfl) (pv 4) (fun _ _ => rfl)))) pa_nil)))) pa_nil))))))
      (pss_one (ps_ret (pe_callBK (cr_sortedF F_ahead_key (hr.mono (by decide)) b_ahead_key) (by rfl) T.m_sorted b_sorted (pa_cons (pv 1) pa_nil) (pk_cons (pe_ref (by rfl) m_ahead_key) pk_nil))))))), ?_⟩
    rw [all_eq] at k
    rw [count_eq] at hcount
    have hlb := zb.length
    refine ⟨sz0, fun p hp => ?_⟩
    have g1 : Grow [] D H D (upd H p (.lst [])) := (Grow.refl hs).tmp hp
    have hdp : D p = none := hs.none hp
    refine ⟨_, rfl, a, CPs, dx, _, cv, rfl, g1.s _ _ ha, T.clPs, T.nPs _ (by simp), rfl, rfl, _, rfl, ?_⟩
    cases hc : s.const with
    | none =>
      have z0 : All2 (PieceAt K CPc D) [] (Vaflxb.constPieces s) := by unfold Vaflxb.constPieces; rw [hc]; trivial
      rw [hc] at hcv
      cases (show cv = .non from hcv)
      have g0 : Grow [p] D (upd H p (.lst [])) D (upd H p (.lst [])) := Grow.refl g1.s
      have hp0 : (upd H p (.lst [])) p = some (.lst []) := upd_same
      refine iteF ?_
      refine ⟨_, rfl, a, CPs, dx, _, .ref ab, rfl, g0.s _ _ (g0.d _ _ ha), T.clPs, T.nPs _ (by simp), rfl, ab, rfl, ⟨_, SqL.of (g0.s _ _ (g0.d _ _ eb))⟩, for_it (walk_list (xs := xb)) (fun i σ H' => ∃ x2 x3 x4 D' acc, σ = [some (.ref a), some (.ref p), x2, x3, x4] ∧ Grow [p] D (upd H p (.lst [])) D' H' ∧ H' p = some (.lst acc) ∧ All2 (PieceAt K CPc D') acc (Vaflxb.constPieces s ++ (s.boxes.take i).flatMap allP)) ?_ ?_ ?_ ?_⟩
      · exact ⟨_, _, _, _, _, rfl, g0, hp0, by rw [List.take_zero, List.flatMap_nil, List.append_nil]; exact z0⟩
      · rintro i σ H' hi ⟨x2, x3, x4, D', acc, rfl, g, _⟩
        exact SqL.of (g.s _ _ (g.d _ _ eb))
      · rintro i x σ H0 H' hi ⟨x2, x3, x4, D', acc, rfl, g, hacc, z⟩ ⟨rfl, hx⟩
        obtain ⟨bx, hbx, bbx⟩ := zb.get hx
        have hwb := hw _ (List.mem_of_getElem? hbx)
        obtain ⟨abx, dxb, lv, rv, rfl, habx, plv, prv⟩ := id bbx
        have LB := lookup_boxFs bx lv rv
        obtain ⟨dl, xl, epl, rfl, hdl, zl⟩ := plv
        obtain ⟨dr, xr, epr, rfl, hdr, zr⟩ := prv
        refine ⟨_, rfl, abx, CB, dxb, _, _, rfl, g.s _ _ (g.d _ _ habx), T.clB, T.nB _ (by simp), LB.2.2.1, dl, xl, epl, rfl, g.s _ _ (g.d _ _ hdl), fun L hL => lc_it walk_G (fun j H5 => ∃ acc5, H5 = upd H' L (.lst acc5) ∧ acc5.length ≤ j ∧ All2 (PosAt K CP D') acc5 (bx.left.take j)) ⟨[], rfl, Nat.le_refl _, trivial⟩ ?_ ?_ ?_⟩
        · rintro j H5 hj ⟨acc5, rfl, _⟩
          rw [upd_ne (ne_of_none (g.s _ _ (g.d _ _ hdl)) hL)]; exact g.s _ _ (g.d _ _ hdl)
        · rintro j y H5' H5 hj ⟨acc5, rfl, hal5, zz5⟩ ⟨rfl, e, he, rfl⟩
          obtain ⟨q, hq, e1, e2, e3⟩ := zl.get he
          have hget : getE xl (kT (Vaflxa.posText q)) = some e.2.2 := by
            rw [← e1]
            exact getE_at (by rw [All2.keys zl]; exact kT_nodup hwb.l.nd) he
          have gg : Grow [] D' _ D' (upd H' L (.lst acc5)) := (Grow.refl g.s).tmp hL
          have ll := zl.length
          have ll2 := hwb.l.len
          refine ⟨rfl, _, rfl, abx, CB, dxb, _, _, rfl, gg.s _ _ (g.d _ _ habx), T.clB, T.nB _ (by simp), LB.2.2.1, _, rfl, dl, xl, epl, kT (Vaflxa.posText q), e.2.2, ⟨rfl, gg.s _ _ (g.d _ _ hdl), GKeys.up gg.s (GKeys.up g.d (gkeys_of zl)), KeyOf.up gg.s (KeyOf.up g.d e2.key)⟩, hget, acc5, upd_same, small_lt (by omega), acc5 ++ [e.2.2], by rw [upd_upd], by rw [List.length_append]; simp; omega, ?_⟩
          rw [List.take_add_one, hq]
          exact zz5.snoc (e3.mono g.d)
        · rintro H3 ⟨acc3, rfl, hal3, z3⟩
          rw [List.take_of_length_le (by have := zl.length; omega)] at z3
          have g3 := Grow.fresh (M := []) (u := .lst acc3) g.s hL
          have hL' := hL
          generalize hHH : upd H' L (.lst acc3) = H3 at *
          have hL3 : H3 L = some (.lst acc3) := by rw [← hHH]; exact upd_same
          refine ⟨_, rfl, .inl ⟨rfl, acc, SqL.of (g3.h p _ (by simp) hacc)⟩, _, rfl, _, rfl, _, rfl, abx, CB, dxb, _, _, rfl, g3.s _ _ (g3.d _ _ (g.d _ _ habx)), T.clB, T.nB _ (by simp), LB.2.2.2, dr, xr, epr, rfl, g3.s _ _ (g3.d _ _ (g.d _ _ hdr)), fun L2 hL2 => ?_⟩
          have sD3 : Sub D' H3 := fun c o e => g3.s c o (g3.d c o e)
          clear hL
          have hL := hL2
          refine lc_it walk_G (fun j H5 => ∃ acc5, H5 = upd H3 L2 (.lst acc5) ∧ acc5.length ≤ j ∧ All2 (PosAt K CP D') acc5 (bx.right.take j)) ⟨[], rfl, Nat.le_refl _, trivial⟩ ?_ ?_ ?_
          · rintro j H5 hj ⟨acc5, rfl, _⟩
            rw [upd_ne (ne_of_none (sD3 _ _ (g.d _ _ hdr)) hL)]; exact sD3 _ _ (g.d _ _ hdr)
          · rintro j y H5' H5 hj ⟨acc5, rfl, hal5, zz5⟩ ⟨rfl, e, he, rfl⟩
            obtain ⟨q, hq, e1, e2, e3⟩ := zr.get he
            have hget : getE xr (kT (Vaflxa.posText q)) = some e.2.2 := by
              rw [← e1]
              exact getE_at (by rw [All2.keys zr]; exact kT_nodup hwb.r.nd) he
            have gg : Grow [] D' _ D' (upd H3 L2 (.lst acc5)) := (Grow.refl sD3).tmp hL
            have ll := zr.length
            have ll2 := hwb.r.len
            refine ⟨rfl, _, rfl, abx, CB, dxb, _, _, rfl, gg.s _ _ (g.d _ _ habx), T.clB, T.nB _ (by simp), LB.2.2.2, _, rfl, dr, xr, epr, kT (Vaflxa.posText q), e.2.2, ⟨rfl, gg.s _ _ (g.d _ _ hdr), GKeys.up gg.s (GKeys.up g.d (gkeys_of zr)), KeyOf.up gg.s (KeyOf.up g.d e2.key)⟩, hget, acc5, upd_same, small_lt (by omega), acc5 ++ [e.2.2], by rw [upd_upd], by rw [List.length_append]; simp; omega, ?_⟩
            rw [List.take_add_one, hq]
            exact zz5.snoc (e3.mono g.d)
          · rintro H4 ⟨acc4, rfl, hal4, z4⟩
            rw [List.take_of_length_le (by have := zr.length; omega)] at z4
            have g4 := Grow.fresh (M := []) (u := .lst acc4) g3.s hL2
            have d4 := (g.d.trans g3.d).trans g4.d
            refine ⟨_, bx, bx.left, bx.right, .ref abx, .ref L, .ref L2, rfl, g4.s, bbx.mono d4, Nat.le_trans hwb.f2 (by decide), ⟨L, acc3, rfl, g4.d _ _ upd_same, z3.mono fun _ _ q => PosAt.mono (g3.d.trans g4.d) q⟩, ⟨L2, acc4, rfl, upd_same, z4.mono fun _ _ q => PosAt.mono (g3.d.trans g4.d) q⟩, hwb.l.wf, hwb.r.wf, hwb.l.len, hwb.r.len, fun D5 H5 r5 g5 b5 => ?_⟩
            obtain ⟨a5, xs5, rfl, e5, z5⟩ := b5
            have g35 := (g3.trans g4).trans g5
            have hp5 : H5 p = some (.lst acc) := g35.h p _ (by simp) hacc
            have hd5 : D5 p = none := ((g.trans g35.anyM).n p (by rw [upd_same]; exact Option.some_ne_none _)).trans hdp
            have zz : All2 (PieceAt K CPc D5) (acc ++ xs5) (Vaflxb.constPieces s ++ (s.boxes.take (i + 1)).flatMap allP) := by
              rw [flatMap_take _ _ _ _ hbx, ← List.append_assoc]
              exact (z.mono fun _ _ q => PieceAt.mono g35.d q).app z5
            have hsz : acc.length + xs5.length ≤ sizeLine := by
              have h1 := zz.length
              rw [List.length_append, List.length_append] at h1
              have h2 := take_flat_le allP s.boxes (i + 1)
              have h3 : (Vaflxb.constPieces s).length + (s.boxes.flatMap allP).length ≤ 900000 := Nat.le_trans (Nat.add_le_add_left (flat_len_le allP (fun b => b.left.length * b.right.length) (fun b => Nat.le_of_eq (partsP_len _ _ _)) s.boxes) _) hcount
              exact small_le (by omega)
            refine ⟨p, a5, acc, xs5, rfl, rfl, hp5, g5.s _ _ e5, hsz, ?_⟩
            exact ⟨_, _, _, D5, acc ++ xs5, rfl, (g.trans g35.anyM).write (.inr (List.mem_singleton.mpr rfl)) hd5, upd_same, zz⟩
      · rintro σ H' ⟨x2, x3, x4, D', acc, rfl, g, hacc, z⟩
        rw [List.take_of_length_le (by omega)] at z
        have G := g1.own g hp
        obtain ⟨f1, f2, f3⟩ := all2_zip z
        refine ⟨_, rfl, V × Pc, Prod.fst, fun b => pieceKey b.2, p, acc.zip (Vaflxb.constPieces s ++ s.boxes.flatMap allP), rfl, rfl, SqL.of (by rw [f1]; exact hacc), allAlike_ckey _ _ _, sortable_ckey _ _ _, fun x _ => depth_ckey _ _, fun x hx H3 hH3 => ?_, ?_⟩
        · exact key_piece T (fun c o e => hH3 c o (g.s c o e)) (f3 x hx)
        · intro H3 q hH3 hq hq0
          have G3 : Grow [] D H D' H3 := G.trans (Grow.of_same g.s hH3)
          have G4 := Grow.fresh (M := []) (u := .lst (((acc.zip (Vaflxb.constPieces s ++ s.boxes.flatMap allP)).mergeSort (PySem.W.dataLe false fun b : V × Pc => pieceKey b.2)).map Prod.fst)) G3.s hq
          refine k _ _ _ (G3.trans G4) ⟨q, _, rfl, upd_same, ?_⟩
          have hso : Vaflxb.sortBy Vaflxa.pieceAhead (Vaflxb.constPieces s ++ s.boxes.flatMap allP) = ((acc.zip (Vaflxb.constPieces s ++ s.boxes.flatMap allP)).mergeSort (PySem.W.dataLe false fun b : V × Pc => pieceKey b.2)).map Prod.snd := by
            rw [sortBy_eq (le := PySem.W.dataLe false pieceKey) (total_dataLe _) (fun a b => by rw [dataLe_lt, ahead_eq]; simp)]
            conv => lhs; rw [← f2]
            exact (PySem.W.sort_maps (r := PySem.W.dataLe false fun b : V × Pc => pieceKey b.2) (s := PySem.W.dataLe false pieceKey) Prod.snd (fun a _ b _ => rfl)).symm
          rw [hso]
          refine all2_of fun x hx => ?_
          exact (f3 x ((List.mergeSort_perm _ _).mem_iff.mp hx)).mono G4.d
    | some t =>
      rw [hc] at hcv
      obtain ⟨ac, rfl, eac⟩ := id hcv
      refine iteT ⟨_, rfl, .inl ⟨rfl, _, SqL.of upd_same⟩, _, rfl, a, CPs, dx, _, .ref ac, rfl, g1.s _ _ ha, T.clPs, T.nPs _ (by simp), rfl, D, t, .ref ac, rfl, g1.s, hcv, hcl t hc, fun D2 H2 r2 g2 b2 => ?_⟩
      have hp2 : H2 p = some (.lst []) := g2.h p _ (by simp) upd_same
      have hd2 : D2 p = none := g2.keep (by rw [upd_same]; exact Option.some_ne_none _) hdp
      refine ⟨p, [], r2, rfl, rfl, hp2, by decide, ?_⟩
      have g0 : Grow [p] D (upd H p (.lst [])) D2 (upd H2 p (.lst ([] ++ [r2]))) := g2.anyM.write (.inr (List.mem_singleton.mpr rfl)) hd2
      have hp0 : (upd H2 p (.lst ([] ++ [r2]))) p = some (.lst [r2]) := upd_same
      have z0 : All2 (PieceAt K CPc D2) [r2] (Vaflxb.constPieces s) := by unfold Vaflxb.constPieces; rw [hc]; exact ⟨b2, trivial⟩
      refine ⟨_, rfl, a, CPs, dx, _, .ref ab, rfl, g0.s _ _ (g0.d _ _ ha), T.clPs, T.nPs _ (by simp), rfl, ab, rfl, ⟨_, SqL.of (g0.s _ _ (g0.d _ _ eb))⟩, for_it (walk_list (xs := xb)) (fun i σ H' => ∃ x2 x3 x4 D' acc, σ = [some (.ref a), some (.ref p), x2, x3, x4] ∧ Grow [p] D (upd H p (.lst [])) D' H' ∧ H' p = some (.lst acc) ∧ All2 (PieceAt K CPc D') acc (Vaflxb.constPieces s ++ (s.boxes.take i).flatMap allP)) ?_ ?_ ?_ ?_⟩
      · exact ⟨_, _, _, _, _, rfl, g0, hp0, by rw [List.take_zero, List.flatMap_nil, List.append_nil]; exact z0⟩
      · rintro i σ H' hi ⟨x2, x3, x4, D', acc, rfl, g, _⟩
        exact SqL.of (g.s _ _ (g.d _ _ eb))
      · rintro i x σ H0 H' hi ⟨x2, x3, x4, D', acc, rfl, g, hacc, z⟩ ⟨rfl, hx⟩
        obtain ⟨bx, hbx, bbx⟩ := zb.get hx
        have hwb := hw _ (List.mem_of_getElem? hbx)
        obtain ⟨abx, dxb, lv, rv, rfl, habx, plv, prv⟩ := id bbx
        have LB := lookup_boxFs bx lv rv
        obtain ⟨dl, xl, epl, rfl, hdl, zl⟩ := plv
        obtain ⟨dr, xr, epr, rfl, hdr, zr⟩ := prv
        refine ⟨_, rfl, abx, CB, dxb, _, _, rfl, g.s _ _ (g.d _ _ habx), T.clB, T.nB _ (by simp), LB.2.2.1, dl, xl, epl, rfl, g.s _ _ (g.d _ _ hdl), fun L hL => lc_it walk_G (fun j H5 => ∃ acc5, H5 = upd H' L (.lst acc5) ∧ acc5.length ≤ j ∧ All2 (PosAt K CP D') acc5 (bx.left.take j)) ⟨[], rfl, Nat.le_refl _, trivial⟩ ?_ ?_ ?_⟩
        · rintro j H5 hj ⟨acc5, rfl, _⟩
          rw [upd_ne (ne_of_none (g.s _ _ (g.d _ _ hdl)) hL)]; exact g.s _ _ (g.d _ _ hdl)
        · rintro j y H5' H5 hj ⟨acc5, rfl, hal5, zz5⟩ ⟨rfl, e, he, rfl⟩
          obtain ⟨q, hq, e1, e2, e3⟩ := zl.get he
          have hget : getE xl (kT (Vaflxa.posText q)) = some e.2.2 := by
            rw [← e1]
            exact getE_at (by rw [All2.keys zl]; exact kT_nodup hwb.l.nd) he
          have gg : Grow [] D' _ D' (upd H' L (.lst acc5)) := (Grow.refl g.s).tmp hL
          have ll := zl.length
          have ll2 := hwb.l.len
          refine ⟨rfl, _, rfl, abx, CB, dxb, _, _, rfl, gg.s _ _ (g.d _ _ habx), T.clB, T.nB _ (by simp), LB.2.2.1, _, rfl, dl, xl, epl, kT (Vaflxa.posText q), e.2.2, ⟨rfl, gg.s _ _ (g.d _ _ hdl), GKeys.up gg.s (GKeys.up g.d (gkeys_of zl)), KeyOf.up gg.s (KeyOf.up g.d e2.key)⟩, hget, acc5, upd_same, small_lt (by omega), acc5 ++ [e.2.2], by rw [upd_upd], by rw [List.length_append]; simp; omega, ?_⟩
          rw [List.take_add_one, hq]
          exact zz5.snoc (e3.mono g.d)
        · rintro H3 ⟨acc3, rfl, hal3, z3⟩
          rw [List.take_of_length_le (by have := zl.length; omega)] at z3
          have g3 := Grow.fresh (M := []) (u := .lst acc3) g.s hL
          have hL' := hL
          generalize hHH : upd H' L (.lst acc3) = H3 at *
          have hL3 : H3 L = some (.lst acc3) := by rw [← hHH]; exact upd_same
          refine ⟨_, rfl, .inl ⟨rfl, acc, SqL.of (g3.h p _ (by simp) hacc)⟩, _, rfl, _, rfl, _, rfl, abx, CB, dxb, _, _, rfl, g3.s _ _ (g3.d _ _ (g.d _ _ habx)), T.clB, T.nB _ (by simp), LB.2.2.2, dr, xr, epr, rfl, g3.s _ _ (g3.d _ _ (g.d _ _ hdr)), fun L2 hL2 => ?_⟩
          have sD3 : Sub D' H3 := fun c o e => g3.s c o (g3.d c o e)
          clear hL
          have hL := hL2
          refine lc_it walk_G (fun j H5 => ∃ acc5, H5 = upd H3 L2 (.lst acc5) ∧ acc5.length ≤ j ∧ All2 (PosAt K CP D') acc5 (bx.right.take j)) ⟨[], rfl, Nat.le_refl _, trivial⟩ ?_ ?_ ?_
          · rintro j H5 hj ⟨acc5, rfl, _⟩
            rw [upd_ne (ne_of_none (sD3 _ _ (g.d _ _ hdr)) hL)]; exact sD3 _ _ (g.d _ _ hdr)
          · rintro j y H5' H5 hj ⟨acc5, rfl, hal5, zz5⟩ ⟨rfl, e, he, rfl⟩
            obtain ⟨q, hq, e1, e2, e3⟩ := zr.get he
            have hget : getE xr (kT (Vaflxa.posText q)) = some e.2.2 := by
              rw [← e1]
              exact getE_at (by rw [All2.keys zr]; exact kT_nodup hwb.r.nd) he
            have gg : Grow [] D' _ D' (upd H3 L2 (.lst acc5)) := (Grow.refl sD3).tmp hL
            have ll := zr.length
            have ll2 := hwb.r.len
            refine ⟨rfl, _, rfl, abx, CB, dxb, _, _, rfl, gg.s _ _ (g.d _ _ habx), T.clB, T.nB _ (by simp), LB.2.2.2, _, rfl, dr, xr, epr, kT (Vaflxa.posText q), e.2.2, ⟨rfl, gg.s _ _ (g.d _ _ hdr), GKeys.up gg.s (GKeys.up g.d (gkeys_of zr)), KeyOf.up gg.s (KeyOf.up g.d e2.key)⟩, hget, acc5, upd_same, small_lt (by omega), acc5 ++ [e.2.2], by rw [upd_upd], by rw [List.length_append]; simp; omega, ?_⟩
            rw [List.take_add_one, hq]
            exact zz5.snoc (e3.mono g.d)
          · rintro H4 ⟨acc4, rfl, hal4, z4⟩
            rw [List.take_of_length_le (by have := zr.length; omega)] at z4
            have g4 := Grow.fresh (M := []) (u := .lst acc4) g3.s hL2
            have d4 := (g.d.trans g3.d).trans g4.d
            refine ⟨_, bx, bx.left, bx.right, .ref abx, .ref L, .ref L2, rfl, g4.s, bbx.mono d4, Nat.le_trans hwb.f2 (by decide), ⟨L, acc3, rfl, g4.d _ _ upd_same, z3.mono fun _ _ q => PosAt.mono (g3.d.trans g4.d) q⟩, ⟨L2, acc4, rfl, upd_same, z4.mono fun _ _ q => PosAt.mono (g3.d.trans g4.d) q⟩, hwb.l.wf, hwb.r.wf, hwb.l.len, hwb.r.len, fun D5 H5 r5 g5 b5 => ?_⟩
            obtain ⟨a5, xs5, rfl, e5, z5⟩ := b5
            have g35 := (g3.trans g4).trans g5
            have hp5 : H5 p = some (.lst acc) := g35.h p _ (by simp) hacc
            have hd5 : D5 p = none := ((g.trans g35.anyM).n p (by rw [upd_same]; exact Option.some_ne_none _)).trans hdp
            have zz : All2 (PieceAt K CPc D5) (acc ++ xs5) (Vaflxb.constPieces s ++ (s.boxes.take (i + 1)).flatMap allP) := by
              rw [flatMap_take _ _ _ _ hbx, ← List.append_assoc]
              exact (z.mono fun _ _ q => PieceAt.mono g35.d q).app z5
            have hsz : acc.length + xs5.length ≤ sizeLine := by
              have h1 := zz.length
              rw [List.length_append, List.length_append] at h1
              have h2 := take_flat_le allP s.boxes (i + 1)
              have h3 : (Vaflxb.constPieces s).length + (s.boxes.flatMap allP).length ≤ 900000 := Nat.le_trans (Nat.add_le_add_left (flat_len_le allP (fun b => b.left.length * b.right.length) (fun b => Nat.le_of_eq (partsP_len _ _ _)) s.boxes) _) hcount
              exact small_le (by omega)
            refine ⟨p, a5, acc, xs5, rfl, rfl, hp5, g5.s _ _ e5, hsz, ?_⟩
            exact ⟨_, _, _, D5, acc ++ xs5, rfl, (g.trans g35.anyM).write (.inr (List.mem_singleton.mpr rfl)) hd5, upd_same, zz⟩
      · rintro σ H' ⟨x2, x3, x4, D', acc, rfl, g, hacc, z⟩
        rw [List.take_of_length_le (by omega)] at z
        have G := g1.own g hp
        obtain ⟨f1, f2, f3⟩ := all2_zip z
        refine ⟨_, rfl, V × Pc, Prod.fst, fun b => pieceKey b.2, p, acc.zip (Vaflxb.constPieces s ++ s.boxes.flatMap allP), rfl, rfl, SqL.of (by rw [f1]; exact hacc), allAlike_ckey _ _ _, sortable_ckey _ _ _, fun x _ => depth_ckey _ _, fun x hx H3 hH3 => ?_, ?_⟩
        · exact key_piece T (fun c o e => hH3 c o (g.s c o e)) (f3 x hx)
        · intro H3 q hH3 hq hq0
          have G3 : Grow [] D H D' H3 := G.trans (Grow.of_same g.s hH3)
          have G4 := Grow.fresh (M := []) (u := .lst (((acc.zip (Vaflxb.constPieces s ++ s.boxes.flatMap allP)).mergeSort (PySem.W.dataLe false fun b : V × Pc => pieceKey b.2)).map Prod.fst)) G3.s hq
          refine k _ _ _ (G3.trans G4) ⟨q, _, rfl, upd_same, ?_⟩
          have hso : Vaflxb.sortBy Vaflxa.pieceAhead (Vaflxb.constPieces s ++ s.boxes.flatMap allP) = ((acc.zip (Vaflxb.constPieces s ++ s.boxes.flatMap allP)).mergeSort (PySem.W.dataLe false fun b : V × Pc => pieceKey b.2)).map Prod.snd := by
            rw [sortBy_eq (le := PySem.W.dataLe false pieceKey) (total_dataLe _) (fun a b => by rw [dataLe_lt, ahead_eq]; simp)]
            conv => lhs; rw [← f2]
            exact (PySem.W.sort_maps (r := PySem.W.dataLe false fun b : V × Pc => pieceKey b.2) (s := PySem.W.dataLe false pieceKey) Prod.snd (fun a _ b _ => rfl)).symm
          rw [hso]
          refine all2_of fun x hx => ?_
          exact (f3 x ((List.mergeSort_perm _ _).mem_iff.mp hx)).mono G4.d
end
end Ps
set_option Elab.async false
set_option linter.all false
set_option maxRecDepth 100000
set_option maxHeartbeats 2000000
namespace Ps
open PySem PySem.Spec PyProof.Rows L2 Gd
/-- a slice of a tuple of bytes -/
theorem sl_tupB {X : Cx} : SlR X (fun x lo hi H Q => ∃ (D : Hp) (a : Addr) (t c : Tx), x = .ref a ∧ Sub D H ∧ SqT X.K H a (tv t) ∧ SqT X.K D a (tv t) ∧ cutV (tv t) lo hi = tv c ∧ ∀ D' H' v, Grow [] D H D' H' → BT X.K D' v c → Q v H') := by
  rintro pins s σ H x v vl vu lo hi sl Q I rx hs pl pu ⟨D, a, t, c, rfl, sub, h1, h2, hc, k⟩
  refine sl_tupA pins s σ H _ v vl vu lo hi sl Q I rx hs pl pu ⟨a, tv t, rfl, h1, fun hw => ?_, fun _ p hp => ?_⟩
  · refine k D H _ (Grow.refl sub) ⟨a, rfl, ?_⟩
    have e : cutV (tv t) lo hi = tv t := by
      unfold cutV
      rw [hw.1, hw.2, List.drop_zero, List.take_of_length_le (by omega)]
    rw [← hc, e]; exact h2
  · have g := Grow.fresh (M := []) (u := .tup (cutV (tv t) lo hi)) sub hp
    exact k _ _ _ g ⟨p, rfl, by rw [← hc]; exact SqT.of upd_same⟩
def hasT (b : Bx) (t : Tx) : Bool := b.left.any fun p => b.right.any fun q => decide (Vaflxa.pieceText (.sub b.field p q b.case_) = t)
def headT (b : Bx) : Tx := Vaflxa.decimal b.field ++ [91]
def tailT (b : Bx) : Tx := 93 :: Vaflxa.caseText b.case_
theorem sub_text (b : Bx) (p q : Pos) : Vaflxa.pieceText (.sub b.field p q b.case_) = headT b ++ ((Vaflxa.posText p ++ 58 :: Vaflxa.posText q) ++ tailT b) := by
  simp [Vaflxa.pieceText, headT, tailT]
theorem hasT_none {b : Bx} {t : Tx} (h : ∀ p q, ¬ Vaflxa.pieceText (.sub b.field p q b.case_) = t) : hasT b t = false := by
  unfold hasT
  rw [List.any_eq_false]
  intro p _ hp
  rw [List.any_eq_true] at hp
  obtain ⟨q, _, hq⟩ := hp
  exact h p q (of_decide_eq_true hq)
theorem cut_three {h i l t : Tx} (e : t = h ++ (i ++ l)) : h.length + l.length ≤ t.length ∧ t.take h.length = h ∧ t.drop (t.length - l.length) = l ∧ (t.drop h.length).take (t.length - l.length - h.length) = i := by
  subst e
  refine ⟨by simp, by simp, ?_, ?_⟩
  · rw [show (h ++ (i ++ l)).length - l.length = (h ++ i).length by simp; omega, ← List.append_assoc, List.drop_left]
  · rw [List.drop_left, show (h ++ (i ++ l)).length - l.length - h.length = i.length by simp; omega, List.take_left]
theorem join_three {h l t : Tx} (h1 : h.length + l.length ≤ t.length) (h2 : t.take h.length = h) (h3 : t.drop (t.length - l.length) = l) : t = h ++ ((t.drop h.length).take (t.length - l.length - h.length) ++ l) := by
  have e1 : t = t.take h.length ++ t.drop h.length := (List.take_append_drop _ _).symm
  have e2 : t.drop h.length = (t.drop h.length).take (t.length - l.length - h.length) ++ (t.drop h.length).drop (t.length - l.length - h.length) := (List.take_append_drop _ _).symm
  have e3 : (t.drop h.length).drop (t.length - l.length - h.length) = l := by
    rw [List.drop_drop, show h.length + (t.length - l.length - h.length) = t.length - l.length by omega, h3]
  rw [e3] at e2
  rw [h2] at e1
  rw [e2] at e1
  exact e1
theorem in_right {b : Bx} {t i : Tx} (e : t = headT b ++ (i ++ tailT b)) (p : Pos) : (b.right.any fun q => decide (Vaflxa.pieceText (.sub b.field p q b.case_) = t)) = (decide (i.take ((Vaflxa.posText p).length + 1) = Vaflxa.posText p ++ [58]) && b.right.any fun q => decide (Vaflxa.posText q = i.drop ((Vaflxa.posText p).length + 1))) := by
  rw [Bool.eq_iff_iff, List.any_eq_true, Bool.and_eq_true, decide_eq_true_eq, List.any_eq_true]
  constructor
  · rintro ⟨q, hq, h⟩
    have h := of_decide_eq_true h
    rw [sub_text, e] at h
    have h := List.append_cancel_left h
    have h : Vaflxa.posText p ++ 58 :: Vaflxa.posText q = i := List.append_cancel_right h
    subst h
    refine ⟨?_, q, hq, decide_eq_true ?_⟩
    · rw [show Vaflxa.posText p ++ 58 :: Vaflxa.posText q = (Vaflxa.posText p ++ [58]) ++ Vaflxa.posText q by simp, show (Vaflxa.posText p).length + 1 = (Vaflxa.posText p ++ [58]).length by simp, List.take_left]
    · rw [show Vaflxa.posText p ++ 58 :: Vaflxa.posText q = (Vaflxa.posText p ++ [58]) ++ Vaflxa.posText q by simp, show (Vaflxa.posText p).length + 1 = (Vaflxa.posText p ++ [58]).length by simp, List.drop_left]
  · rintro ⟨h1, q, hq, h2⟩
    have h2 := of_decide_eq_true h2
    refine ⟨q, hq, decide_eq_true ?_⟩
    rw [sub_text, e]
    congr 2
    have := (List.take_append_drop ((Vaflxa.posText p).length + 1) i).symm
    rw [h1, ← h2] at this
    rw [this]; simp
section
variable {P : Program} {w : World} {K : PySem.W.Frag} {mg : Str → Option Value} {base : Heap} {CP CB CPs CPc CS CC : Addr} {f : Addr} {fd : FuncData}
def sp_box_has (w : World) (K : PySem.W.Frag) (CP CB CPs CPc CS CC : Addr) : Sp := fun vs H Q _ => ∃ D b t v1 v2, vs = [v1, v2] ∧ Sub D H ∧ BoxAt K w CP CB D v1 b ∧ wfB b ∧ BT K D v2 t ∧ t.length ≤ 100000 ∧ ∀ H', Same H H' → Q (.bl (hasT b t)) H'
abbrev s_box_has : Stmt := topS 60
theorem sc_box_has : FnScope ["box", "text", "head", "tail", "inner", "left", "begin"] ["box", "text"] (defScope s_box_has) := ⟨rfl, rfl, rfl, by decide +kernel, rfl, by decide +kernel, by decide +kernel⟩
theorem ok_box_has (F : Fun K "box_has" "box_has" s_box_has f fd) (T : Txt K mg CP CB CPs CPc CS CC) (C_bytes_of : Def P w K mg base 1 "bytes_of" ["text"] sp_bytes_of) : FnOk P w K mg base CX0 2 f fd ["box", "text"] (sp_box_has w K CP CB CPs CPc CS CC) := by
  obtain ⟨aCASES, g_CASES, qCASES⟩ := T.g_CASES
  refine F.ok sc_box_has (fun vs H Q E h => ?_) (fun cdv A outer s H vs Q E hr h => ?_)
  · obtain ⟨_, _, _, _, _, rfl, _⟩ := h; rfl
  · obtain ⟨D, b, t, v1, v2, rfl, hs, ⟨ab, dx, lv, rv, rfl, hab, ⟨dl, xl, epl, rfl, hdl, zl⟩, ⟨dr, xr, epr, rfl, hdr, zr⟩⟩, hw, hbt, htl, k⟩ := h
    refine ⟨_, (pss_cons (ps_set (i := 2) sc_box_has.nd rfl (by first | exact Or.inl rfl | exact Or.inr rfl) (pe_callD C_bytes_of (hr.mono (by decide)) (by rfl) (pa_cons (pe_op op_add_str (pe_callTy call_str_int (by rfl) T.m_str b_str (pa_cons (pe_fld (pv 0) rfl) pa_nil)) pe_str) pa_nil)))
      (pss_cons (ps_set (i := 3) sc_box_has.nd rfl (by first | exact Or.inl rfl | exact Or.inr rfl) (pe_callD C_bytes_of (hr.mono (by decide)) (by rfl) (pa_cons (pe_op op_add_str pe_str (pe_ix ix_tup (pe_const (by rfl) g_CASES) (pe_fld (pv 0) rfl) (fun _ _ => rfl))) pa_nil)))
      (pss_cons (ps_if (PW.pt (pw_or (pt_cmpR op_lt (pe_callB call_len (by rfl) T.m_len b_len (pa_cons (pv 1) pa_nil)) (pe_op op_add (pe_callB call_len (by rfl) T.m_len b_len (pa_cons (pv 2) pa_nil)) (pe_callB call_len (by rfl) T.m_len b_len (pa_cons (pv 3) pa_nil))) (nomark _)) (pw_or (pt_cmpR (op_neD hr.units) (pe_slice sl_tupB (pv 1) po_none (po_some (pe_callB call_len (by rfl) T.m_len b_len (pa_cons (pv 2) pa_nil)))) (pv 2) (nomark _)) (pw_or1 (pt_cmpR (op_neD hr.units) (pe_slice sl_tupB (pv 1) (po_some (pe_op op_sub (pe_callB call_len (by rfl) T.m_len b_len (pa_cons (pv 1) pa_nil)) (pe_callB call_len (by rfl) T.m_len b_len (pa_cons (pv 3) pa_nil)))) po_none) (pv 3) (nomark _)))))) (pss_one (ps_ret pe_bl)) pss_nil)
      (pss_cons (ps_set (i := 4) sc_box_has.nd rfl (by first | exact Or.inl rfl | exact Or.inr rfl) (pe_slice sl_tupB (pv 1) (po_some (pe_callB call_len (by rfl) T.m_len b_len (pa_cons (pv 2) pa_nil))) (po_some (pe_op op_sub (pe_callB call_len (by rfl) T.m_len b_len (pa_cons (pv 1) pa_nil)) (pe_callB call_len (by rfl) T.m_len b_len (pa_cons (pv 3) pa_nil))))))
      (pss_cons (ps_for PassesOwn.never rfl (pi_G (pe_fld (pv 0) rfl)) (pg_name (i := 5) sc_box_has.nd rfl (by first | exact Or.inl rfl | exact Or.inr rfl)) (pss_cons (ps_set (i := 6) sc_box_has.nd rfl (by first | exact Or.inl rfl | exact Or.inr rfl) (pe_op op_catA (pv 5) (pe_callD C_bytes_of (hr.mono (by decide)) (by rfl) (pa_cons pe_str pa_nil))))
      (pss_one (ps_if (PW.pt (pw_and (pt_cmpR (op_eqD hr.units) (pe_slice sl_tupB (pv 4) po_none (po_some (pe_callB call_len (by rfl) T.m_len b_len (pa_cons (pv 6) pa_nil)))) (pv 6) (nomark _)) (pw_and1 (pt_cmpR (op_inG hr.units) (pe_slice sl_tupB (pv 4) (po_some (pe_callB call_len (by rfl) T.m_len b_len (pa_cons (pv 6) pa_nil))) po_none) (pe_fld (pv 0) rfl) (by rfl))))) (pss_one (ps_ret pe_bl)) pss_nil))))
      (pss_one (ps_ret pe_bl))))))), ?_⟩
    have LB := lookup_boxFs b (.ref dl) (.ref dr)
    obtain ⟨f1, f2, f3, f4⟩ := field_ok b.field (Nat.le_trans hw.f2 (by decide))
    obtain ⟨c1, c2, c3, c4⟩ := case_ok b.case_
    obtain ⟨at_, rfl, hat⟩ := id hbt
    refine ⟨_, rfl, ab, CB, dx, _, _, rfl, hs _ _ hab, T.clB, T.nB _ (by simp), LB.1, b.field, rfl, f4, _, _, rfl, rfl, f3, _, rfl, f2, fun H1 p1 s1 n1 e1 => ?_⟩
    obtain ⟨D1, g1, b1⟩ := bytes_new (K := K) (t := headT b) f1 hs s1 n1 e1
    refine ⟨_, rfl, ab, CB, dx, _, _, rfl, g1.s _ _ (g1.d _ _ hab), T.clB, T.nB _ (by simp), LB.2.1, aCASES, _, _, _, rfl, rfl, qCASES _, atI_nat c4, _, _, rfl, rfl, c3, _, rfl, c2, fun H2 p2 s2 n2 e2 => ?_⟩
    obtain ⟨D2, g2, b2⟩ := bytes_new (K := K) (t := tailT b) c1 g1.s s2 n2 e2
    have bh2 : BT K D2 (.ref p1) (headT b) := b1.mono g2.d
    obtain ⟨_, eh, hh2⟩ := BT.sq (H := D2) (Sub.refl D2) bh2
    cases eh
    obtain ⟨_, et, ht2⟩ := BT.sq (H := D2) (Sub.refl D2) b2
    cases et
    have hat2 : SqT K D2 at_ (tv t) := SqT.up (g1.d.trans g2.d) hat
    have hhl : (headT b).length ≤ 3 := by
      have := dec_le b.field (Nat.le_trans hw.f2 (by decide))
      unfold headT; simp; omega
    have htll : (tailT b).length ≤ 2 := by unfold tailT; cases b.case_ <;> decide
    have lenT : ∀ {D' H' : Hp} {a : Addr} {s : Tx}, Sub D' H' → SqT K D' a (tv s) → LenV K (.ref a) H' s.length := fun hs h => .inr ⟨_, SqT.up hs h, by simp⟩
    have s2 := g2.s
    have G2 := g1.trans g2
    refine ⟨_, rfl, _, t.length, rfl, lenT s2 hat2, _, rfl, _, _, rfl, lenT s2 hh2, _, rfl, _, _, rfl, lenT s2 ht2, _, _, rfl, rfl, _, _, rfl, rfl, _, rfl, ?_⟩
    by_cases hc1 : t.length < (headT b).length + (tailT b).length
    · rw [decide_eq_true (by omega)]
      refine iteT (iteT ?_)
      rw [hasT_none fun p q e => by
        have := (cut_three (show t = headT b ++ ((Vaflxa.posText p ++ 58 :: Vaflxa.posText q) ++ tailT b) by rw [← e, sub_text])).1
        omega] at k
      exact k _ G2.same
    rw [decide_eq_false (by omega)]
    refine iteF ⟨_, rfl, _, rfl, _, _, rfl, lenT s2 hh2, _, rfl, D2, at_, t, t.take (headT b).length, rfl, s2, SqT.up s2 hat2, hat2, by rw [cutV_head, tv_take], fun D3 H3 v3 g3 b3 => ⟨_, rfl, _, _, Dp.up g3.s b3.dp, Dp.up g3.s (bh2.mono g3.d).dp, shaped_dT _, shaped_dT _, _, rfl, ?_⟩⟩
    rw [eqv_dT]
    by_cases hc2 : ¬ t.take (headT b).length = headT b
    · rw [decide_eq_false hc2]
      refine iteT (iteT ?_)
      rw [hasT_none fun p q e => hc2 (cut_three (show t = headT b ++ ((Vaflxa.posText p ++ 58 :: Vaflxa.posText q) ++ tailT b) by rw [← e, sub_text])).2.1] at k
      exact k _ (G2.trans g3).same
    have hc2 := Decidable.not_not.mp hc2
    rw [decide_eq_true hc2]
    have d3 := g3.d
    refine iteF ⟨_, rfl, _, rfl, _, _, rfl, lenT g3.s (SqT.up d3 hat2), _, rfl, _, _, rfl, lenT g3.s (SqT.up d3 ht2), _, _, rfl, rfl, _, rfl, D3, at_, t, t.drop (t.length - (tailT b).length), rfl, g3.s, SqT.up g3.s (SqT.up d3 hat2), SqT.up d3 hat2, ?_, fun D4 H4 v4 g4 b4 => ⟨_, rfl, _, _, Dp.up g4.s b4.dp, Dp.up g4.s ((b2.mono d3).mono g4.d).dp, shaped_dT _, shaped_dT _, _, rfl, ?_⟩⟩
    · rw [show ((t.length : Nat) : Int) - (((tailT b).length : Nat) : Int) = ((t.length - (tailT b).length : Nat) : Int) by omega, cutV_tail, tv_drop]
    rw [eqv_dT]
    by_cases hc3 : ¬ t.drop (t.length - (tailT b).length) = tailT b
    · rw [decide_eq_false hc3]
      refine iteT ?_
      rw [hasT_none fun p q e => hc3 (cut_three (show t = headT b ++ ((Vaflxa.posText p ++ 58 :: Vaflxa.posText q) ++ tailT b) by rw [← e, sub_text])).2.2.1] at k
      exact k _ ((G2.trans g3).trans g4).same
    have hc3 := Decidable.not_not.mp hc3
    rw [decide_eq_true hc3]
    have hjoin := join_three (by omega) hc2 hc3
    generalize hinner : (t.drop (headT b).length).take (t.length - (tailT b).length - (headT b).length) = inner at hjoin
    have d4 := d3.trans g4.d
    refine iteF ⟨_, rfl, _, rfl, _, _, rfl, lenT g4.s (SqT.up d4 hh2), _, rfl, _, rfl, _, _, rfl, lenT g4.s (SqT.up d4 hat2), _, rfl, _, _, rfl, lenT g4.s (SqT.up d4 ht2), _, _, rfl, rfl, _, rfl, D4, at_, t, inner, rfl, g4.s, SqT.up g4.s (SqT.up d4 hat2), SqT.up d4 hat2, ?_, fun D5 H5 v5 g5 b5 => ?_⟩
    · rw [show ((t.length : Nat) : Int) - (((tailT b).length : Nat) : Int) = ((t.length - (tailT b).length : Nat) : Int) by omega, cutV_nat, tv_drop, tv_take, hinner]
    obtain ⟨ai, rfl, hai⟩ := BT.sq (H := D5) (Sub.refl D5) b5
    have G5 := ((G2.trans g3).trans g4).trans g5
    have d5 := (g1.d.trans g2.d).trans (d4.trans g5.d)
    have hll := zl.length
    have zl5 : All2 (EntP K CP D5) xl b.left := zl.mono fun _ _ q => EntP.mono d5 q
    have zr5 : All2 (EntP K CP D5) xr b.right := zr.mono fun _ _ q => EntP.mono d5 q
    refine ⟨_, rfl, ab, CB, dx, _, _, rfl, g5.s _ _ (d5 _ _ hab), T.clB, T.nB _ (by simp), LB.2.2.1, dl, xl, epl, rfl, g5.s _ _ (d5 _ _ hdl), for_it walk_G (fun i σ H' => ∃ x5 x6 D', σ = [some (.ref ab), some (.ref at_), some (.ref p1), some (.ref p2), some (.ref ai), x5, x6] ∧ Grow [] D5 H5 D' H' ∧ ((b.left.take i).any fun p => b.right.any fun q => decide (Vaflxa.pieceText (.sub b.field p q b.case_) = t)) = false) ?_ ?_ ?_ ?_⟩
    · exact ⟨_, _, D5, rfl, Grow.refl g5.s, rfl⟩
    · rintro i σ H' hi ⟨x5, x6, D', rfl, g, _⟩
      exact g.s _ _ (g.d _ _ (d5 _ _ hdl))
    · rintro i x σ H0 H' hi ⟨x5, x6, D', rfl, g, hno⟩ ⟨rfl, e, he, rfl⟩
      obtain ⟨pl, hpl, e1, e2, e3⟩ := zl5.get he
      have lpl := pos_len (hw.l.wf _ (List.mem_of_getElem? hpl))
      obtain ⟨ae, hae, hse⟩ := BT.sq (H := D') (D := D') (Sub.refl D') (e2.mono g.d)
      rw [hae]
      refine ⟨_, rfl, _, rfl, by decide, fun H6 p6 s6 n6 e6 => ?_⟩
      obtain ⟨D6, g6, b6⟩ := bytes_new (K := K) (t := [58]) rfl g.s s6 n6 e6
      obtain ⟨_, e6', h6⟩ := BT.sq (H := D6) (Sub.refl D6) b6
      cases e6'
      refine ⟨ae, p6, _, _, rfl, rfl, SqT.up g6.s (SqT.up g6.d hse), SqT.up g6.s h6, small_le (by simp; omega), cat_ok (by cases pl <;> simp [Vaflxa.posText]) (by simp) fun p7 hp7 => ?_⟩
      rw [cat_tv]
      have g7 := Grow.fresh (M := []) (u := .tup (tv (Vaflxa.posText pl ++ [58]))) g6.s hp7
      have hbg : BT K (upd D6 p7 (.tup (tv (Vaflxa.posText pl ++ [58])))) (.ref p7) (Vaflxa.posText pl ++ [58]) := ⟨p7, rfl, SqT.of upd_same⟩
      have hsg : SqT K (upd D6 p7 (.tup (tv (Vaflxa.posText pl ++ [58])))) p7 (tv (Vaflxa.posText pl ++ [58])) := SqT.of upd_same
      have hll7 : (Vaflxa.posText pl ++ [58]).length = (Vaflxa.posText pl).length + 1 := by simp
      have d7 := (g.d.trans g6.d).trans g7.d
      have hai7 := SqT.up d7 hai
      have hir := in_right hjoin pl
      have hsplit : ((b.left.take (i + 1)).any fun p => b.right.any fun q => decide (Vaflxa.pieceText (.sub b.field p q b.case_) = t)) = (b.right.any fun q => decide (Vaflxa.pieceText (.sub b.field pl q b.case_) = t)) := by
        rw [List.take_add_one, hpl, List.any_append, hno]; simp
      refine ⟨_, rfl, _, rfl, _, _, rfl, lenT g7.s hsg, _, rfl, _, ai, inner, inner.take ((Vaflxa.posText pl).length + 1), rfl, g7.s, SqT.up g7.s hai7, hai7, ?_, fun D8 H8 v8 g8 b8 => ⟨_, rfl, _, _, Dp.up g8.s b8.dp, Dp.up g8.s (hbg.mono g8.d).dp, shaped_dT _, shaped_dT _, _, rfl, ?_⟩⟩
      · rw [hll7, cutV_head, tv_take]
      rw [eqv_dT]
      have Ga := ((g.trans g6).trans g7).trans g8
      by_cases hc4 : inner.take ((Vaflxa.posText pl).length + 1) = Vaflxa.posText pl ++ [58]
      · rw [decide_eq_true hc4]
        rw [decide_eq_true hc4, Bool.true_and] at hir
        have hai8 := SqT.up g8.d hai7
        refine iteT ⟨_, rfl, _, rfl, _, _, rfl, lenT g8.s (SqT.up g8.d hsg), _, rfl, D8, ai, inner, inner.drop ((Vaflxa.posText pl).length + 1), rfl, g8.s, SqT.up g8.s hai8, hai8, ?_, fun D9 H9 v9 g9 b9 => ?_⟩
        · rw [hll7, cutV_tail, tv_drop]
        have d9 := (d7.trans g8.d).trans g9.d
        have Gb := Ga.trans g9
        refine ⟨_, rfl, ab, CB, dx, _, _, rfl, g9.s _ _ (d9 _ _ (d5 _ _ hab)), T.clB, T.nB _ (by simp), LB.2.2.2, dr, xr, epr, kT (inner.drop ((Vaflxa.posText pl).length + 1)), ⟨rfl, g9.s _ _ (d9 _ _ (d5 _ _ hdr)), GKeys.up (d9.trans g9.s) (gkeys_of zr5), KeyOf.up g9.s b9.key⟩, _, rfl, ?_⟩
        rw [isSome_any zr5, ← hir]
        cases hres : b.right.any fun q => decide (Vaflxa.pieceText (.sub b.field pl q b.case_) = t) with
        | true =>
          refine iteT ?_
          have : hasT b t = true := by
            unfold hasT
            rw [List.any_eq_true]
            exact ⟨pl, List.mem_of_getElem? hpl, hres⟩
          rw [this] at k
          exact k _ (G5.trans Gb).same
        | false =>
          refine iteF ⟨_, _, D9, rfl, Gb, ?_⟩
          rw [hsplit, hres]
      · rw [decide_eq_false hc4]
        rw [decide_eq_false hc4, Bool.false_and] at hir
        refine iteF (iteF ⟨_, _, D8, rfl, Ga, ?_⟩)
        rw [hsplit, hir]
    · rintro σ H' ⟨x5, x6, D', rfl, g, hno⟩
      rw [List.take_of_length_le (by omega)] at hno
      have : hasT b t = false := hno
      rw [this] at k
      exact k _ (G5.trans g).same
end
end Ps
set_option Elab.async false
set_option linter.all false
set_option maxRecDepth 100000
set_option maxHeartbeats 2000000
namespace Ps
open PySem PySem.Spec PyProof.Rows L2 Gd
def hasS (s : Pcs) (t : Tx) : Bool := (match s.const with | some c => decide (Vaflxa.quoted c = t) | none => false) || s.boxes.any fun b => hasT b t
/-! ### what a set gives -/
def TKV (K : PySem.W.Frag) (D : Hp) : V → Option Tx → Prop
  | v, none => v = .non
  | v, some t => BT K D v t
def tK : Option Tx → NestedKey
  | none => .none
  | some t => kT t
theorem tK_inj (a b : Option Tx) (h : tK a = tK b) : a = b := by
  cases a with
  | none => cases b with
    | none => rfl
    | some t => exact absurd h (by unfold tK kT; exact fun z => nomatch z)
  | some s => cases b with
    | none => exact absurd h (by unfold tK kT; exact fun z => nomatch z)
    | some t => rw [kT_inj h]
theorem TKV.key {K : PySem.W.Frag} {D : Hp} {v : V} {o : Option Tx} (h : TKV K D v o) : KeyOf K D (tK o) v := by
  cases o with
  | none => cases (show v = .non from h); exact ⟨.non, by decide⟩
  | some t => exact BT.key h
theorem TKV.mono {K : PySem.W.Frag} {D D' : Hp} {v : V} {o : Option Tx} (s : Sub D D') (h : TKV K D v o) : TKV K D' v o := by
  cases o with
  | none => exact h
  | some t => exact BT.mono s h
abbrev TD (K : PySem.W.Frag) (D : Hp) (xs : List Ent) (cs : List (Option Tx × Nat)) : Prop := All2 (CEnt (TKV K D) tK) xs cs
theorem TD.mono {K : PySem.W.Frag} {D D' : Hp} {xs : List Ent} {cs : List (Option Tx × Nat)} (s : Sub D D') (h : TD K D xs cs) : TD K D' xs cs := cent_mono (fun _ _ q => q.mono s) h
/-- what a part gives from a place to a place -/
def outOf (t : Tx) (k : Vaflxa.Case) : Option Nat → Option Nat → Option Tx
  | some a, some c => if a < c then some (Vaflxa.cased k ((t.take c).drop a)) else none
  | _, _ => none
def rowG (t : Tx) (k : Vaflxa.Case) (R : List (Option Nat × Nat)) (x : Option Nat × Nat) (cs : List (Option Tx × Nat)) : List (Option Tx × Nat) := R.foldl (fun cs y => bump cs (outOf t k x.1 y.1) (x.2 * y.2)) cs
def boxG (r : List Tx) (b : Bx) (cs : List (Option Tx × Nat)) : List (Option Tx × Nat) := match r[b.field - 1]? with
  | none => bump cs none (b.left.length * b.right.length)
  | some t => (cntP t b.left).foldl (fun cs x => rowG t b.case_ (cntP t b.right) x cs) cs
def giveC (s : Pcs) (r : List Tx) : List (Option Tx × Nat) := s.boxes.foldl (fun cs b => boxG r b cs) (match s.const with | some c => bump [(none, 0)] (some c) 1 | none => [(none, 0)])
theorem foldl_take {α β : Type} (f : β → α → β) (xs : List α) (i : Nat) (x : α) (s : β) (h : xs[i]? = some x) : (xs.take (i + 1)).foldl f s = f ((xs.take i).foldl f s) x := by
  rw [List.take_add_one, h, List.foldl_append]; rfl
theorem rowG_le (t : Tx) (k : Vaflxa.Case) (R : List (Option Nat × Nat)) (x : Option Nat × Nat) (cs : List (Option Tx × Nat)) : (rowG t k R x cs).length ≤ cs.length + R.length :=
  foldl_bump_le (fun y : Option Nat × Nat => outOf t k x.1 y.1) (fun y => x.2 * y.2) R cs
theorem rows_le (t : Tx) (k : Vaflxa.Case) (R : List (Option Nat × Nat)) : ∀ (L : List (Option Nat × Nat)) (cs : List (Option Tx × Nat)), (L.foldl (fun cs x => rowG t k R x cs) cs).length ≤ cs.length + L.length * R.length
  | [], cs => by simp
  | x :: L, cs => by
    rw [List.foldl_cons, List.length_cons, Nat.add_mul]
    have h1 := rows_le t k R L (rowG t k R x cs)
    have h2 := rowG_le t k R x cs
    omega
theorem boxG_le (r : List Tx) (b : Bx) (cs : List (Option Tx × Nat)) (hw : wfB b) : (boxG r b cs).length ≤ cs.length + b.left.length * b.right.length := by
  unfold boxG
  split
  · have h1 := bump_le cs none (b.left.length * b.right.length)
    have h2 : 1 * 1 ≤ b.left.length * b.right.length := Nat.mul_le_mul (List.length_pos_iff.mpr hw.nl) (List.length_pos_iff.mpr hw.nr)
    omega
  · rename_i t _
    have h1 := rows_le t b.case_ (cntP t b.right) (cntP t b.left) cs
    have h2 : (cntP t b.left).length * (cntP t b.right).length ≤ b.left.length * b.right.length := Nat.mul_le_mul (cntP_le _ _) (cntP_le _ _)
    omega
theorem giveC_le (s : Pcs) (r : List Tx) (hw : ∀ b ∈ s.boxes, wfB b) (cs : List (Option Tx × Nat)) : ∀ i, ((s.boxes.take i).foldl (fun cs b => boxG r b cs) cs).length ≤ cs.length + (s.boxes.map fun b => b.left.length * b.right.length).sum := by
  have key : ∀ (bs : List Bx) (cs : List (Option Tx × Nat)), (∀ b ∈ bs, wfB b) → (bs.foldl (fun cs b => boxG r b cs) cs).length ≤ cs.length + (bs.map fun b => b.left.length * b.right.length).sum := by
    intro bs
    induction bs with
    | nil => intro cs _; simp
    | cons b bs ih =>
      intro cs hw
      rw [List.foldl_cons, List.map_cons, List.sum_cons]
      have h1 := ih (boxG r b cs) fun x hx => hw x (List.mem_cons_of_mem _ hx)
      have h2 := boxG_le r b cs (hw b List.mem_cons_self)
      omega
  intro i
  refine Nat.le_trans (key (s.boxes.take i) cs fun b hb => hw b (List.mem_of_mem_take hb)) ?_
  have e : s.boxes.map (fun b => b.left.length * b.right.length) = (s.boxes.take i).map (fun b => b.left.length * b.right.length) ++ (s.boxes.drop i).map (fun b => b.left.length * b.right.length) := by
    rw [← List.map_append, List.take_append_drop]
  rw [e, List.sum_append]
  exact Nat.add_le_add_left (Nat.le_add_right _ _) _
theorem nodup_cntP (t : Tx) (ps : List Pos) : ((cntP t ps).map (·.1)).Nodup := by
  have key : ∀ (ps : List Pos) (cs : List (Option Nat × Nat)), (cs.map (·.1)).Nodup → ((ps.foldl (fun cs p => bump cs (Vaflxa.placeOf p t) 1) cs).map (·.1)).Nodup := by
    intro ps
    induction ps with
    | nil => intro cs h; exact h
    | cons p ps ih => intro cs h; exact ih _ (nodup_bump h _ _)
  exact key ps [] List.nodup_nil
theorem bump_val {κ : Type} [DecidableEq κ] {cs : List (κ × Nat)} {m : Nat} (h : ∀ c ∈ cs, c.2 ≤ m) (o : κ) (n : Nat) : ∀ c ∈ bump cs o n, c.2 ≤ m + n := by
  have hg : (cget cs o).getD 0 ≤ m := by
    cases e : cget cs o with
    | none => exact Nat.zero_le _
    | some v =>
      unfold cget at e
      rw [Option.map_eq_some_iff] at e
      obtain ⟨c, hc, rfl⟩ := e
      exact h c (List.mem_of_find?_eq_some hc)
  intro c hc
  unfold bump at hc
  split at hc
  · rw [List.mem_map] at hc
    obtain ⟨d, hd, rfl⟩ := hc
    have := h d hd
    split
    · show (cget cs o).getD 0 + n ≤ m + n; omega
    · omega
  · rw [List.mem_append] at hc
    rcases hc with hc | hc
    · have := h c hc; omega
    · simp at hc; subst hc
      show (cget cs o).getD 0 + n ≤ m + n; omega
theorem cntP_val (t : Tx) (ps : List Pos) : ∀ c ∈ cntP t ps, c.2 ≤ ps.length := by
  have key : ∀ (ps : List Pos) (cs : List (Option Nat × Nat)) (m : Nat), (∀ c ∈ cs, c.2 ≤ m) → ∀ c ∈ ps.foldl (fun cs p => bump cs (Vaflxa.placeOf p t) 1) cs, c.2 ≤ m + ps.length := by
    intro ps
    induction ps with
    | nil => intro cs m h; exact h
    | cons p ps ih =>
      intro cs m h c hc
      have := ih _ (m + 1) (bump_val h _ _) c hc
      rw [List.length_cons]; omega
  have := key ps [] 0 (fun _ h => nomatch h)
  intro c hc
  have := this c hc
  omega
theorem cget_at {κ : Type} [DecidableEq κ] {c : κ × Nat} : ∀ {cs : List (κ × Nat)} {i : Nat}, (cs.map (·.1)).Nodup → cs[i]? = some c → cget cs c.1 = some c.2
  | [], i, _, hc => by simp at hc
  | a :: cs, 0, _, hc => by
    simp at hc; subst hc
    rw [cget_cons, if_pos rfl]
  | a :: cs, i + 1, nd, hc => by
    rw [List.map_cons, List.nodup_cons] at nd
    have hc : cs[i]? = some c := by simpa using hc
    rw [cget_cons, if_neg fun z => nd.1 (by rw [z]; exact List.mem_map.mpr ⟨c, List.mem_of_getElem? hc, rfl⟩)]
    exact cget_at nd.2 hc
theorem cent_at {κ : Type} [DecidableEq κ] {RK : V → κ → Prop} {kk : κ → NestedKey} (hi : ∀ a b, kk a = kk b → a = b) {xs : List Ent} {cs : List (κ × Nat)} (z : All2 (CEnt RK kk) xs cs) (nd : (cs.map (·.1)).Nodup) {i : Nat} {e : Ent} (he : xs[i]? = some e) :
    ∃ c, cs[i]? = some c ∧ RK e.2.1 c.1 ∧ getE xs (kk c.1) = some (nv c.2) := by
  obtain ⟨c, hc, e1, e2, e3⟩ := z.get he
  refine ⟨c, hc, e2, ?_⟩
  rw [cent_get hi _ z, cget_at nd hc]; rfl
theorem oK_inj2 (a b : Option Nat) (h : oK a = oK b) : a = b := oK_inj h
section
variable {P : Program} {w : World} {K : PySem.W.Frag} {mg : Str → Option Value} {base : Heap} {CP CB CPs CPc CS CC : Addr} {f : Addr} {fd : FuncData}
def sp_has_piece (w : World) (K : PySem.W.Frag) (CP CB CPs CPc CS CC : Addr) : Sp := fun vs H Q _ => ∃ D s t v1 v2, vs = [v1, v2] ∧ Sub D H ∧ PcsAt K w CP CB CPs D v1 s ∧ (∀ b ∈ s.boxes, wfB b) ∧ (∀ t, s.const = some t → t.length ≤ 12) ∧ s.boxes.length ≤ 100000 ∧ BT K D v2 t ∧ t.length ≤ 100000 ∧ ∀ H', Same H H' → Q (.bl (hasS s t)) H'
abbrev s_has_piece : Stmt := topS 61
theorem sc_has_piece : FnScope ["pieces", "text", "box"] ["pieces", "text"] (defScope s_has_piece) := ⟨rfl, rfl, rfl, by decide +kernel, rfl, by decide +kernel, by decide +kernel⟩
theorem ok_has_piece (F : Fun K "has_piece" "has_piece" s_has_piece f fd) (T : Txt K mg CP CB CPs CPc CS CC) (C_box_has : Def P w K mg base 2 "box_has" ["box", "text"] (sp_box_has w K CP CB CPs CPc CS CC)) (C_constant_piece : Def P w K mg base 3 "constant_piece" ["constant"] (sp_constant_piece w K CP CB CPs CPc CS CC)) : FnOk P w K mg base CX0 4 f fd ["pieces", "text"] (sp_has_piece w K CP CB CPs CPc CS CC) := by
  refine F.ok sc_has_piece (fun vs H Q E h => ?_) (fun cdv A outer s H vs Q E hr h => ?_)
  · obtain ⟨_, _, _, _, _, rfl, _⟩ := h; rfl
  · obtain ⟨D, s, t, v1, v2, rfl, hs, ⟨a, dx, cv, bv1, rfl, ha, hcv, ⟨ab, xb, rfl, eb, zb⟩⟩, hw, hcl, hbl, hbt, htl, k⟩ := h
    refine ⟨_, (pss_cons (ps_if (PW.pt (pw_and (pt_cmpR op_notN (pe_fld (pv 0) rfl) pe_non (nomark _)) (pw_and1 (pt_cmpR (op_eqD hr.units) (pe_fld (pe_callD C_constant_piece (hr.mono (by decide)) (by rfl) (pa_cons (pe_fld (pv 0) rfl) pa_nil)) rfl) (pv 1) (nomark _))))) (pss_one (ps_ret pe_bl)) pss_nil)
      (pss_one (ps_ret (pe_callB (cr_any rfl) (by rfl) T.m_any b_any (pa_cons (pe_lc (own := [("box", 2)]) (g := gName 2) rfl sc_has_piece.nd (pi_list (pe_fld (pv 0) rfl)) (blkOk_by (own := [("box", 2)]) (N := ["pieces", "text", "box"]) (sc := defScope s_has_piece) (by decide +kernel)) (fun _ _ _ _ _ => pg_name (i := 2) sc_has_piece.nd rfl (Or.inl rfl)) (fun _ _ _ _ _ => pts_nil) (fun _ _ _ _ _ => (pe_callD C_box_has (hr.mono (by decide)) (by rfl) (pa_cons (pv 2) (pa_cons (pv 1) pa_nil))))) pa_nil))))), ?_⟩
    have hlb := zb.length
    refine ⟨_, rfl, a, CPs, dx, _, cv, rfl, hs _ _ ha, T.clPs, T.nPs _ (by simp), rfl, rfl, _, rfl, ?_⟩
    cases hc : s.const with
    | none =>
      rw [hc] at hcv
      cases (show cv = .non from hcv)
      have hS : hasS s t = s.boxes.any fun b => hasT b t := by unfold hasS; rw [hc]; rfl
      have g0 : Grow [] D H D H := Grow.refl hs
      refine iteF (iteF ?_)
      refine ⟨_, rfl, a, CPs, dx, _, .ref ab, rfl, g0.s _ _ (g0.d _ _ ha), T.clPs, T.nPs _ (by simp), rfl, ab, rfl, ⟨_, SqL.of (g0.s _ _ (g0.d _ _ eb))⟩, fun L hL => lc_it (walk_list (xs := xb)) (fun i H' => Own D H D H' L (.lst (((s.boxes.take i).map fun b => hasT b t).map V.bl))) ?_ ?_ ?_ ?_⟩
      · exact Own.mk' (Grow.refl g0.s) hL
      · rintro i H' hi o
        exact SqL.of (o.g.s _ _ (g0.d _ _ eb))
      · rintro i x H0 H' hi o ⟨rfl, hx⟩
        obtain ⟨bx, hbx, bbx⟩ := zb.get hx
        refine ⟨rfl, _, rfl, _, rfl, D, bx, t, x, v2, rfl, o.g.s, bbx.mono g0.d, hw _ (List.mem_of_getElem? hbx), hbt.mono g0.d, htl, fun H2 hH2 => ?_⟩
        have o2 := o.call (Grow.of_same o.g.s hH2)
        refine ⟨_, o2.at_, ?_, ?_⟩
        · rw [List.length_map, List.length_map, List.length_take]; exact small_lt (by omega)
        · have o3 := o2.set (u' := .lst (((s.boxes.take i).map fun b => hasT b t).map V.bl ++ [.bl (hasT bx t)]))
          have e : ((s.boxes.take (i + 1)).map fun b => hasT b t).map V.bl = ((s.boxes.take i).map fun b => hasT b t).map V.bl ++ [.bl (hasT bx t)] := by
            rw [List.take_add_one, hbx, List.map_append, List.map_append]; rfl
          rw [e]
          exact o3
      · rintro H' o
        rw [List.take_of_length_le (by omega)] at o
        refine ⟨L, s.boxes.map fun b => hasT b t, rfl, SqL.of o.at_, ?_⟩
        have e : (s.boxes.map fun b => hasT b t).any id = hasS s t := by rw [hS, List.any_map]; rfl
        rw [e]
        exact k _ (g0.trans o.g).same
    | some c =>
      rw [hc] at hcv
      obtain ⟨ac, rfl, eac⟩ := id hcv
      refine iteT ⟨_, rfl, a, CPs, dx, _, .ref ac, rfl, hs _ _ ha, T.clPs, T.nPs _ (by simp), rfl, D, c, .ref ac, rfl, hs, hcv, hcl c hc, fun D2 H2 r2 g0 b2 => ?_⟩
      obtain ⟨ap, dxp, tp, rfl, hap, btp⟩ := b2
      refine ⟨ap, CPc, dxp, _, tp, rfl, g0.s _ _ hap, T.clPc, T.nPc _ (by simp), (lookup_pieceFs tp _).1, _, rfl, _, _, Dp.up g0.s btp.dp, Dp.up g0.s (hbt.mono g0.d).dp, shaped_dT _, shaped_dT _, _, rfl, ?_⟩
      rw [eqv_dT]
      by_cases hq : Vaflxa.pieceText (.const c) = t
      · rw [decide_eq_true hq]
        have hS : hasS s t = true := by
          unfold hasS
          rw [hc]
          have : decide (Vaflxa.quoted c = t) = true := decide_eq_true hq
          show (decide (Vaflxa.quoted c = t) || s.boxes.any fun b => hasT b t) = _
          rw [this]; rfl
        rw [hS] at k
        exact iteT (k _ g0.same)
      · rw [decide_eq_false hq]
        have hS : hasS s t = s.boxes.any fun b => hasT b t := by
          unfold hasS
          rw [hc]
          have : decide (Vaflxa.quoted c = t) = false := decide_eq_false hq
          show (decide (Vaflxa.quoted c = t) || s.boxes.any fun b => hasT b t) = _
          rw [this]; rfl
        refine iteF ?_
        refine ⟨_, rfl, a, CPs, dx, _, .ref ab, rfl, g0.s _ _ (g0.d _ _ ha), T.clPs, T.nPs _ (by simp), rfl, ab, rfl, ⟨_, SqL.of (g0.s _ _ (g0.d _ _ eb))⟩, fun L hL => lc_it (walk_list (xs := xb)) (fun i H' => Own D2 H2 D2 H' L (.lst (((s.boxes.take i).map fun b => hasT b t).map V.bl))) ?_ ?_ ?_ ?_⟩
        · exact Own.mk' (Grow.refl g0.s) hL
        · rintro i H' hi o
          exact SqL.of (o.g.s _ _ (g0.d _ _ eb))
        · rintro i x H0 H' hi o ⟨rfl, hx⟩
          obtain ⟨bx, hbx, bbx⟩ := zb.get hx
          refine ⟨rfl, _, rfl, _, rfl, D2, bx, t, x, v2, rfl, o.g.s, bbx.mono g0.d, hw _ (List.mem_of_getElem? hbx), hbt.mono g0.d, htl, fun H2 hH2 => ?_⟩
          have o2 := o.call (Grow.of_same o.g.s hH2)
          refine ⟨_, o2.at_, ?_, ?_⟩
          · rw [List.length_map, List.length_map, List.length_take]; exact small_lt (by omega)
          · have o3 := o2.set (u' := .lst (((s.boxes.take i).map fun b => hasT b t).map V.bl ++ [.bl (hasT bx t)]))
            have e : ((s.boxes.take (i + 1)).map fun b => hasT b t).map V.bl = ((s.boxes.take i).map fun b => hasT b t).map V.bl ++ [.bl (hasT bx t)] := by
              rw [List.take_add_one, hbx, List.map_append, List.map_append]; rfl
            rw [e]
            exact o3
        · rintro H' o
          rw [List.take_of_length_le (by omega)] at o
          refine ⟨L, s.boxes.map fun b => hasT b t, rfl, SqL.of o.at_, ?_⟩
          have e : (s.boxes.map fun b => hasT b t).any id = hasS s t := by rw [hS, List.any_map]; rfl
          rw [e]
          exact k _ (g0.trans o.g).same
def sp_add_given (w : World) (K : PySem.W.Frag) (CP CB CPs CPc CS CC : Addr) : Sp := fun vs H Q _ => ∃ D d xs ep cs o kv n, vs = [.ref d, kv, nv n] ∧ Sub D H ∧ H d = some (GD w d xs ep) ∧ TD K D xs cs ∧ TKV K D kv o ∧ xs.length < sizeLine ∧ ∀ xs' ep', TD K D xs' (bump cs o n) → Q .non (upd H d (GD w d xs' ep'))
abbrev s_add_given : Stmt := topS 62
theorem sc_add_given : FnScope ["found", "text", "many"] ["found", "text", "many"] (defScope s_add_given) := ⟨rfl, rfl, rfl, by decide +kernel, rfl, by decide +kernel, by decide +kernel⟩
theorem ok_add_given (F : Fun K "add_given" "add_given" s_add_given f fd) (T : Txt K mg CP CB CPs CPc CS CC)  : FnOk P w K mg base CX0 1 f fd ["found", "text", "many"] (sp_add_given w K CP CB CPs CPc CS CC) := by
  refine F.ok sc_add_given (fun vs H Q E h => ?_) (fun cdv A outer s H vs Q E hr h => ?_)
  · obtain ⟨_, _, _, _, _, _, _, _, rfl, _⟩ := h; rfl
  · obtain ⟨D, d, xs, ep, cs, o, kv, n, rfl, hs, hd, z, hk, hl, k⟩ := h
    refine ⟨_, (pss_one (ps_asg (pe_op op_add (pe_bmG PySem.F.slot_dict_get PySem.F.type_dict_get (mt_getG2 hr.units) (pv 0) (pa_cons (pv 1) (pa_cons pe_int pa_nil))) (pv 2)) (pg_sub (pv 0) (pv 1) (set_G hr.units)))), ?_⟩
    have gk : GKeys K H xs := GKeys.up hs (cent_keys (fun v o q => TKV.key q) z)
    have ky : KeyOf K H (tK o) kv := KeyOf.up hs hk.key
    refine ⟨_, rfl, ⟨d, xs, ep, rfl, hd⟩, _, rfl, _, _, d, xs, ep, tK o, rfl, ⟨rfl, hd, gk, ky⟩, ?_⟩
    rw [cent_get tK_inj _ z]
    refine ⟨_, rfl, ((cget cs o).getD 0 : Nat), n, by cases cget cs o <;> rfl, rfl, _, rfl, _, rfl, d, xs, ep, tK o, ⟨rfl, hd, gk, ky⟩, hl, fun ep' => ?_⟩
    exact k _ _ (cent_put tK_inj z hk n)
end
end Ps
set_option Elab.async false
set_option linter.all false
set_option maxRecDepth 100000
set_option maxHeartbeats 2000000
namespace Ps
open PySem PySem.Spec PyProof.Rows L2 Gd
section
variable {P : Program} {w : World} {K : PySem.W.Frag} {mg : Str → Option Value} {base : Heap} {CP CB CPs CPc CS CC : Addr} {f : Addr} {fd : FuncData}
def sp_box_gives (w : World) (K : PySem.W.Frag) (CP CB CPs CPc CS CC : Addr) : Sp := fun vs H Q _ => ∃ D d xs ep cs b r v1 v2, vs = [v1, v2, .ref d] ∧ Sub D H ∧ D d = none ∧ H d = some (GD w d xs ep) ∧ TD K D xs cs ∧ BoxAt K w CP CB D v1 b ∧ wfB b ∧ RecAt D v2 r ∧ (∀ t ∈ r, good t) ∧ xs.length ≤ 950000 ∧ ∀ D' H' xs' ep', Grow [d] D H D' H' → H' d = some (GD w d xs' ep') → TD K D' xs' (boxG r b cs) → Q .non H'
abbrev s_box_gives : Stmt := topS 63
theorem sc_box_gives : FnScope ["box", "record", "found", "field", "lefts", "rights", "a", "b", "many"] ["box", "record", "found"] (defScope s_box_gives) := ⟨rfl, rfl, rfl, by decide +kernel, rfl, by decide +kernel, by decide +kernel⟩
theorem ok_box_gives (F : Fun K "box_gives" "box_gives" s_box_gives f fd) (T : Txt K mg CP CB CPs CPc CS CC) (C_add_given : Def P w K mg base 1 "add_given" ["found", "text", "many"] (sp_add_given w K CP CB CPs CPc CS CC)) (C_box_size : Def P w K mg base 1 "box_size" ["box"] (sp_box_size w K CP CB CPs CPc CS CC)) (C_counts_by_place : Def P w K mg base 7 "counts_by_place" ["positions", "field"] (sp_counts_by_place w K CP CB CPs CPc CS CC)) (C_turned : Def P w K mg base 3 "turned" ["row", "case"] (sp_turned w K CP CB CPs CPc CS CC)) : FnOk P w K mg base CX0 8 f fd ["box", "record", "found"] (sp_box_gives w K CP CB CPs CPc CS CC) := by
  refine F.ok sc_box_gives (fun vs H Q E h => ?_) (fun cdv A outer s H vs Q E hr h => ?_)
  · obtain ⟨_, _, _, _, _, _, _, _, _, rfl, _⟩ := h; rfl
  · obtain ⟨D, d, xs, ep, cs, b, r, v1, v2, rfl, hs, hdD, hd, z0, ⟨ab, dxb, lv, rv, rfl, hab, plv, prv⟩, hw, ⟨ar, xr, rfl, har, zr⟩, hgr, hlen, k⟩ := h
    refine ⟨_, (pss_cons (ps_if (pt_cmpR op_gt (pe_fld (pv 0) rfl) (pe_callB call_len (by rfl) T.m_len b_len (pa_cons (pv 1) pa_nil)) (nomark _)) (pss_cons (ps_expr (pe_callD C_add_given (hr.mono (by decide)) (by rfl) (pa_cons (pv 2) (pa_cons pe_non (pa_cons (pe_callD C_box_size (hr.mono (by decide)) (by rfl) (pa_cons (pv 0) pa_nil)) pa_nil)))))
      (pss_one ps_retN)) pss_nil)
      (pss_cons (ps_set (i := 3) sc_box_gives.nd rfl (by first | exact Or.inl rfl | exact Or.inr rfl) (pe_ix ix_list (pv 1) (pe_op op_sub (pe_fld (pv 0) rfl) pe_int) (fun _ _ => rfl)))
      (pss_cons (ps_set (i := 4) sc_box_gives.nd rfl (by first | exact Or.inl rfl | exact Or.inr rfl) (pe_callD C_counts_by_place (hr.mono (by decide)) (by rfl) (pa_cons (pe_fld (pv 0) rfl) (pa_cons (pv 3) pa_nil))))
      (pss_cons (ps_set (i := 5) sc_box_gives.nd rfl (by first | exact Or.inl rfl | exact Or.inr rfl) (pe_callD C_counts_by_place (hr.mono (by decide)) (by rfl) (pa_cons (pe_fld (pv 0) rfl) (pa_cons (pv 3) pa_nil))))
      (pss_one (ps_for PassesOwn.never rfl (pi_G (pv 4)) (pg_name (i := 6) sc_box_gives.nd rfl (by first | exact Or.inl rfl | exact Or.inr rfl)) (pss_one (ps_for PassesOwn.never rfl (pi_G (pv 5)) (pg_name (i := 7) sc_box_gives.nd rfl (by first | exact Or.inl rfl | exact Or.inr rfl)) (pss_cons (ps_set (i := 8) sc_box_gives.nd rfl (by first | exact Or.inl rfl | exact Or.inr rfl) (pe_op op_mul (pe_getG hr.units (pv 4) (pv 6) (fun _ _ => rfl)) (pe_getG hr.units (pv 5) (pv 7) (fun _ _ => rfl))))
      (pss_one (ps_if (PW.pt (pw_or (pt_cmpR op_isN (pv 6) pe_non (nomark _)) (pw_or (pt_cmpR op_isN (pv 7) pe_non (nomark _)) (pw_or1 (pt_cmpR op_ge (pv 6) (pv 7) (nomark _)))))) (pss_one (ps_expr (pe_callD C_add_given (hr.mono (by decide)) (by rfl) (pa_cons (pv 2) (pa_cons pe_non (pa_cons (pv 8) pa_nil)))))) (pss_one (ps_expr (pe_callD C_add_given (hr.mono (by decide)) (by rfl) (pa_cons (pv 2) (pa_cons (pe_callTy call_tuple_of (by rfl) T.m_tuple b_tuple (pa_cons (pe_callD C_turned (hr.mono (by decide)) (by rfl) (pa_cons (pe_slice sl_list (pv 3) (po_some (pv 6)) (po_some (pv 7))) (pa_cons (pe_fld (pv 0) rfl) pa_nil))) pa_nil)) (pa_cons (pv 8) pa_nil))))))))))))))))), ?_⟩
    have LB := lookup_boxFs b lv rv
    have hlr := zr.length
    have hf1 := hw.f1
    have hcs := z0.length
    refine ⟨_, rfl, ab, CB, dxb, _, _, rfl, hs _ _ hab, T.clB, T.nB _ (by simp), LB.1, _, rfl, _, xr.length, rfl, .inl ⟨_, SqL.of (hs _ _ har), rfl⟩, _, _, rfl, rfl, _, rfl, ?_⟩
    by_cases hc : xr.length < b.field
    · rw [decide_eq_true (p := ((xr.length : Nat) : Int) < ((b.field : Nat) : Int)) (by omega)]
      have hbg : boxG r b cs = bump cs none (b.left.length * b.right.length) := by
        unfold boxG
        rw [List.getElem?_eq_none (by omega)]
      refine iteT ⟨_, rfl, _, rfl, D, b, _, rfl, hs, ⟨ab, dxb, lv, rv, rfl, hab, plv, prv⟩, Nat.le_trans hw.l.len (by decide), Nat.le_trans hw.r.len (by decide), D, d, xs, ep, cs, none, .non, _, rfl, hs, hd, z0, rfl, small_lt (by omega), fun xs' ep' z' => ?_⟩
      have G : Grow [d] D H D (upd H d (GD w d xs' ep')) := (Grow.refl hs).write (.inr (List.mem_singleton.mpr rfl)) hdD
      exact k _ _ _ _ G upd_same (by rw [hbg]; exact z')
    · rw [decide_eq_false (p := ((xr.length : Nat) : Int) < ((b.field : Nat) : Int)) (by omega)]
      obtain ⟨t, ht⟩ : ∃ t, r[b.field - 1]? = some t := ⟨_, List.getElem?_eq_getElem (by omega)⟩
      obtain ⟨fv, hfv, bf⟩ := zr.get' ht
      obtain ⟨af, rfl, haf⟩ := id bf
      have hgt := hgr t (List.mem_of_getElem? ht)
      have hbg : boxG r b cs = (cntP t b.left).foldl (fun cs x => rowG t b.case_ (cntP t b.right) x cs) cs := by
        unfold boxG; rw [ht]
      refine iteF ⟨_, rfl, _, rfl, ab, CB, dxb, _, _, rfl, hs _ _ hab, T.clB, T.nB _ (by simp), LB.1, _, _, rfl, rfl, ar, xr, _, .ref af, rfl, rfl, SqL.of (hs _ _ har), ?_, ?_⟩
      · have := atI_nat hfv
        rw [show ((b.field - 1 : Nat) : Int) = ((b.field : Nat) : Int) - 1 by omega] at this
        exact this
      refine ⟨_, rfl, ab, CB, dxb, _, _, rfl, hs _ _ hab, T.clB, T.nB _ (by simp), LB.2.2.1, _, rfl, D, b.left, t, lv, .ref af, rfl, hs, plv, hw.l.wf, hw.l.nd, Nat.le_trans hw.l.len (by decide), bf, hgt, fun D1 H1 r1 g1 b1 => ?_⟩
      refine ⟨_, rfl, ab, CB, dxb, _, _, rfl, g1.s _ _ (g1.d _ _ hab), T.clB, T.nB _ (by simp), LB.2.2.2, _, rfl, D1, b.right, t, rv, .ref af, rfl, g1.s, prv.mono g1.d, hw.r.wf, hw.r.nd, Nat.le_trans hw.r.len (by decide), bf.mono g1.d, hgt, fun D2 H2 r2 g2 b2 => ?_⟩
      obtain ⟨dl, xl, epl, rfl, hdl, zl⟩ := PDict.mono g2.d b1
      obtain ⟨dr, xr2, epr, rfl, hdr, zr2⟩ := b2
      have g12 := g1.trans g2
      have hd2 : H2 d = some (GD w d xs ep) := g12.h d _ (by simp) hd
      have hdD2 : D2 d = none := g12.keep (ne_none hd) hdD
      have z2 : TD K D2 xs cs := TD.mono g12.d z0
      have ll := zl.length
      have lr := zr2.length
      have cl := cntP_le t b.left
      have cr := cntP_le t b.right
      have bl := hw.l.len
      have br := hw.r.len
      have hdl_ne : dl ≠ d := fun e => by rw [e, hdD2] at hdl; cases hdl
      have hdr_ne : dr ≠ d := fun e => by rw [e, hdD2] at hdr; cases hdr
      refine ⟨_, rfl, dl, xl, epl, rfl, g2.s _ _ hdl, for_it walk_G (fun i σ H' => ∃ x6 x7 x8 D' xs' ep', σ = [some (.ref ab), some (.ref ar), some (.ref d), some (.ref af), some (.ref dl), some (.ref dr), x6, x7, x8] ∧ Grow [d] D2 H2 D' H' ∧ H' d = some (GD w d xs' ep') ∧ xs'.length ≤ xs.length + i * 34 ∧ TD K D' xs' (((cntP t b.left).take i).foldl (fun cs x => rowG t b.case_ (cntP t b.right) x cs) cs)) ?_ ?_ ?_ ?_⟩
      · exact ⟨_, _, _, D2, xs, ep, rfl, Grow.refl g2.s, hd2, by omega, z2⟩
      · rintro i σ H' hi ⟨x6, x7, x8, D', xs', ep', rfl, g, _⟩
        exact g.s _ _ (g.d _ _ hdl)
      · rintro i x σ H0 H' hi ⟨x6, x7, x8, D', xs', ep', rfl, g, hat, hle, z⟩ ⟨rfl, e, he, rfl⟩
        obtain ⟨⟨oa, na⟩, hca, hea, hgeta⟩ := cent_at oK_inj2 zl (nodup_cntP t b.left) he
        have hea : e.2.1 = oV oa := hea
        have hva := cntP_val t b.left _ (List.mem_of_getElem? hca)
        have hva : na ≤ b.left.length := hva
        refine ⟨_, rfl, dr, xr2, epr, rfl, g.s _ _ (g.d _ _ hdr), for_it walk_G (fun j σ H' => ∃ x7 x8 D' xs' ep', σ = [some (.ref ab), some (.ref ar), some (.ref d), some (.ref af), some (.ref dl), some (.ref dr), some e.2.1, x7, x8] ∧ Grow [d] D2 H2 D' H' ∧ H' d = some (GD w d xs' ep') ∧ xs'.length ≤ xs.length + i * 34 + j ∧ TD K D' xs' (rowG t b.case_ ((cntP t b.right).take j) (oa, na) (((cntP t b.left).take i).foldl (fun cs x => rowG t b.case_ (cntP t b.right) x cs) cs))) ?_ ?_ ?_ ?_⟩
        · exact ⟨_, _, D', xs', ep', rfl, g, hat, hle, z⟩
        · rintro j σ H3 hj ⟨x7, x8, D3, xs3, ep3, rfl, g3, _⟩
          exact g3.s _ _ (g3.d _ _ hdr)
        · rintro j y σ H3' H3 hj ⟨x7, x8, D3, xs3, ep3, rfl, g3, hat3, hle3, z3⟩ ⟨rfl, e2, he2, rfl⟩
          obtain ⟨⟨ob, nb⟩, hcb, heb, hgetb⟩ := cent_at oK_inj2 zr2 (nodup_cntP t b.right) he2
          have heb : e2.2.1 = oV ob := heb
          have hvb := cntP_val t b.right _ (List.mem_of_getElem? hcb)
          have hvb : nb ≤ b.right.length := hvb
          rw [hea, heb]
          have s3 := g3.s
          have hsp : rowG t b.case_ ((cntP t b.right).take (j + 1)) (oa, na) (((cntP t b.left).take i).foldl (fun cs x => rowG t b.case_ (cntP t b.right) x cs) cs) = bump (rowG t b.case_ ((cntP t b.right).take j) (oa, na) (((cntP t b.left).take i).foldl (fun cs x => rowG t b.case_ (cntP t b.right) x cs) cs)) (outOf t b.case_ oa ob) (na * nb) := by
            unfold rowG
            exact foldl_take _ _ _ _ _ hcb
          have hlt : xs3.length < sizeLine := small_lt (by omega)
          have hD3 : D3 d = none := (g3.n d (ne_none hd2)).trans hdD2
          have emul : ((na : Nat) : Int) * ((nb : Nat) : Int) = ((na * nb : Nat) : Int) := by rw [Int.natCast_mul]
          refine ⟨_, rfl, _, rfl, dl, xl, epl, oK oa, nv na, ⟨rfl, s3 _ _ (g3.d _ _ hdl), pkeys zl, oK_of oa⟩, hgeta, _, rfl, _, rfl, dr, xr2, epr, oK ob, nv nb, ⟨rfl, s3 _ _ (g3.d _ _ hdr), pkeys zr2, oK_of ob⟩, hgetb, _, _, rfl, rfl, .inl ⟨Int.lt_of_lt_of_le (by decide : -(2 ^ 64 : Int) < 0) (by omega), Int.lt_of_le_of_lt (show ((na : Nat) : Int) ≤ 1000 by omega) (by decide)⟩, ?_⟩
          dsimp only
          rw [emul]
          -- nothing comes of it
          have none_ok : outOf t b.case_ oa ob = none → ∀ xs' ep', TD K D3 xs' (bump (rowG t b.case_ ((cntP t b.right).take j) (oa, na) (((cntP t b.left).take i).foldl (fun cs x => rowG t b.case_ (cntP t b.right) x cs) cs)) none (na * nb)) →
              ∃ x7 x8 D' xs'' ep'', ([some (.ref ab), some (.ref ar), some (.ref d), some (.ref af), some (.ref dl), some (.ref dr), some (oV oa), some (oV ob), some (nv (na * nb))] : L2.St) = [some (.ref ab), some (.ref ar), some (.ref d), some (.ref af), some (.ref dl), some (.ref dr), some (oV oa), x7, x8] ∧ Grow [d] D2 H2 D' (upd H3 d (GD w d xs' ep')) ∧ (upd H3 d (GD w d xs' ep')) d = some (GD w d xs'' ep'') ∧ xs''.length ≤ xs.length + i * 34 + (j + 1) ∧ TD K D' xs'' (rowG t b.case_ ((cntP t b.right).take (j + 1)) (oa, na) (((cntP t b.left).take i).foldl (fun cs x => rowG t b.case_ (cntP t b.right) x cs) cs)) := by
            intro ho xs' ep' z'
            refine ⟨_, _, D3, xs', ep', rfl, g3.write (.inr (List.mem_singleton.mpr rfl)) hD3, upd_same, ?_, by rw [hsp, ho]; exact z'⟩
            have h1 := z'.length
            have h2 := bump_le (rowG t b.case_ ((cntP t b.right).take j) (oa, na) (((cntP t b.left).take i).foldl (fun cs x => rowG t b.case_ (cntP t b.right) x cs) cs)) none (na * nb)
            have h3 := z3.length
            omega
          cases oa with
          | none => exact ⟨_, rfl, rfl, _, rfl, iteT (iteT ⟨_, rfl, _, rfl, D3, d, xs3, ep3, _, none, .non, na * nb, rfl, s3, hat3, z3, rfl, hlt, none_ok rfl⟩)⟩
          | some a =>
            cases ob with
            | none => exact ⟨_, rfl, rfl, _, rfl, iteF ⟨_, rfl, rfl, _, rfl, iteT (iteT ⟨_, rfl, _, rfl, D3, d, xs3, ep3, _, none, .non, na * nb, rfl, s3, hat3, z3, rfl, hlt, none_ok rfl⟩)⟩⟩
            | some c =>
              refine ⟨_, rfl, rfl, _, rfl, iteF ⟨_, rfl, rfl, _, rfl, iteF ⟨_, rfl, _, rfl, _, _, rfl, rfl, _, rfl, ?_⟩⟩⟩
              by_cases hac : a < c
              · rw [decide_eq_false (p := ((c : Nat) : Int) ≤ ((a : Nat) : Int)) (by omega)]
                have ho : outOf t b.case_ (some a) (some c) = some (Vaflxa.cased b.case_ ((t.take c).drop a)) := if_pos hac
                refine iteF ⟨_, rfl, _, rfl, _, rfl, _, rfl, _, rfl, _, rfl, af, _, rfl, SqL.of (s3 _ _ (g3.d _ _ (g12.d _ _ haf))), fun p hp => ?_⟩
                have ecut : cutV (tv t) (some ((a : Nat) : Int)) (some ((c : Nat) : Int)) = tv ((t.take c).drop a) := by
                  rw [cutV_nat, tv_drop, tv_take, List.drop_take]
                rw [ecut]
                have g4 := Grow.fresh (M := []) (u := .lst (tv ((t.take c).drop a))) s3 hp
                have hl4 : ((t.take c).drop a).length ≤ 100000 := by
                  rw [List.length_drop, List.length_take]
                  have := hgt.1
                  omega
                refine ⟨_, rfl, ab, CB, dxb, _, _, rfl, g4.s _ _ (g4.d _ _ (g3.d _ _ (g12.d _ _ hab))), T.clB, T.nB _ (by simp), LB.2.1, _, (t.take c).drop a, b.case_, .ref p, rfl, g4.s, ⟨p, rfl, upd_same⟩, hl4, fun D5 H5 r5 g5 b5 => ?_⟩
                obtain ⟨a5, rfl, e5⟩ := b5
                refine ⟨a5, _, rfl, .inl ⟨SqL.of (g5.s _ _ e5), fun q hq => ?_⟩⟩
                have g6 := Grow.fresh (M := []) (u := .tup (tv (Vaflxa.cased b.case_ ((t.take c).drop a)))) g5.s hq
                have g46 := (g4.trans g5).trans g6
                have hat6 := g46.h d _ (by simp) hat3
                refine ⟨_, rfl, _, d, xs3, ep3, _, some (Vaflxa.cased b.case_ ((t.take c).drop a)), .ref q, na * nb, rfl, g6.s, hat6, TD.mono g46.d z3, ⟨q, rfl, SqT.of upd_same⟩, hlt, fun xs' ep' z' => ?_⟩
                have hD6 : (upd D5 q (.tup (tv (Vaflxa.cased b.case_ ((t.take c).drop a))))) d = none := g46.keep (ne_none hat3) hD3
                refine ⟨_, _, _, xs', ep', rfl, (g3.trans g46.anyM).write (.inr (List.mem_singleton.mpr rfl)) hD6, upd_same, ?_, by rw [hsp, ho]; exact z'⟩
                have h1 := z'.length
                have h2 := bump_le (rowG t b.case_ ((cntP t b.right).take j) (some a, na) (((cntP t b.left).take i).foldl (fun cs x => rowG t b.case_ (cntP t b.right) x cs) cs)) (some (Vaflxa.cased b.case_ ((t.take c).drop a))) (na * nb)
                have h3 := z3.length
                omega
              · rw [decide_eq_true (p := ((c : Nat) : Int) ≤ ((a : Nat) : Int)) (by omega)]
                have ho : outOf t b.case_ (some a) (some c) = none := if_neg hac
                exact iteT ⟨_, rfl, _, rfl, D3, d, xs3, ep3, _, none, .non, na * nb, rfl, s3, hat3, z3, rfl, hlt, none_ok ho⟩
        · rintro σ H3 ⟨x7, x8, D3, xs3, ep3, rfl, g3, hat3, hle3, z3⟩
          rw [List.take_of_length_le (by omega)] at z3
          refine ⟨_, _, _, D3, xs3, ep3, rfl, g3, hat3, by omega, ?_⟩
          rw [foldl_take _ _ _ _ _ hca]
          exact z3
      · rintro σ H' ⟨x6, x7, x8, D', xs', ep', rfl, g, hat, hle, z⟩
        rw [List.take_of_length_le (by omega)] at z
        have G : Grow [d] D H D' H' := g12.anyM.trans g
        exact k _ _ _ _ G hat (by rw [hbg]; exact z)
def sp_given (w : World) (K : PySem.W.Frag) (CP CB CPs CPc CS CC : Addr) : Sp := fun vs H Q _ => ∃ D s r v1 v2, vs = [v1, v2] ∧ Sub D H ∧ PcsAt K w CP CB CPs D v1 s ∧ (∀ b ∈ s.boxes, wfB b) ∧ (∀ t, s.const = some t → t.length ≤ 12) ∧ Vaflxb.countOf s ≤ 900000 ∧ RecAt D v2 r ∧ (∀ t ∈ r, good t) ∧ ∀ D' H' d xs ep, Own D H D' H' d (GD w d xs ep) → TD K D' xs (giveC s r) → Q (.ref d) H'
abbrev s_given : Stmt := topS 64
theorem sc_given : FnScope ["pieces", "record", "found", "box"] ["pieces", "record"] (defScope s_given) := ⟨rfl, rfl, rfl, by decide +kernel, rfl, by decide +kernel, by decide +kernel⟩
theorem ok_given (F : Fun K "given" "given" s_given f fd) (T : Txt K mg CP CB CPs CPc CS CC) (C_add_given : Def P w K mg base 1 "add_given" ["found", "text", "many"] (sp_add_given w K CP CB CPs CPc CS CC)) (C_box_gives : Def P w K mg base 8 "box_gives" ["box", "record", "found"] (sp_box_gives w K CP CB CPs CPc CS CC)) : FnOk P w K mg base CX0 9 f fd ["pieces", "record"] (sp_given w K CP CB CPs CPc CS CC) := by
  refine F.ok sc_given (fun vs H Q E h => ?_) (fun cdv A outer s H vs Q E hr h => ?_)
  · obtain ⟨_, _, _, _, _, rfl, _⟩ := h; rfl
  · obtain ⟨D, s, r, v1, v2, rfl, hs, ⟨a, dx, cv, bv1, rfl, ha, hcv, ⟨ab, xb, rfl, eb, zb⟩⟩, hw, hcl, hcount, hrec, hgr, k⟩ := h
    refine ⟨_, (pss_cons (ps_set (i := 2) sc_given.nd rfl (by first | exact Or.inl rfl | exact Or.inr rfl) (pe_disp1 (hr.units) pe_non pe_int))
      (pss_cons (ps_if (pt_cmpR op_notN (pe_fld (pv 0) rfl) pe_non (nomark _)) (pss_one (ps_expr (pe_callD C_add_given (hr.mono (by decide)) (by rfl) (pa_cons (pv 2) (pa_cons (pe_callTy call_tuple_of (by rfl) T.m_tuple b_tuple (pa_cons (pe_fld (pv 0) rfl) pa_nil)) (pa_cons pe_int pa_nil)))))) pss_nil)
      (pss_cons (ps_for PassesOwn.never rfl (pi_list (pe_fld (pv 0) rfl)) (pg_name (i := 3) sc_given.nd rfl (by first | exact Or.inl rfl | exact Or.inr rfl)) (pss_one (ps_expr (pe_callD C_box_gives (hr.mono (by decide)) (by rfl) (pa_cons (pv 3) (pa_cons (pv 1) (pa_cons (pv 2) pa_nil)))))))
      (pss_one (ps_ret (pv 2)))))), ?_⟩
    rw [count_eq] at hcount
    have hlb := zb.length
    intro d hd0
    have hdD : D d = none := hs.none hd0
    refine ⟨.none, ⟨.non, by decide⟩, upd_same, fun ep0 => ?_⟩
    rw [upd_upd]
    have o1 : Own D H D (upd H d (GD w d [(.none, .non, .int 0)] ep0)) d (GD w d [(.none, .non, .int 0)] ep0) := Own.mk' (Grow.refl hs) hd0
    have z1 : TD K D [(.none, .non, .int 0)] [(none, 0)] := ⟨⟨rfl, rfl, rfl⟩, trivial⟩
    refine ⟨_, rfl, a, CPs, dx, _, cv, rfl, o1.g.s _ _ ha, T.clPs, T.nPs _ (by simp), rfl, rfl, _, rfl, ?_⟩
    cases hc : s.const with
    | none =>
      rw [hc] at hcv
      cases (show cv = .non from hcv)
      have hS : giveC s r = s.boxes.foldl (fun cs b => boxG r b cs) [(none, 0)] := by unfold giveC; rw [hc]
      have oo := o1
      have zz := z1
      have hcsl : ([(none, 0)] : List (Option Tx × Nat)).length ≤ 2 := by decide
      refine iteF ?_
      have d0 := oo.g.d
      refine ⟨_, rfl, a, CPs, dx, _, .ref ab, rfl, oo.g.s _ _ (d0 _ _ ha), T.clPs, T.nPs _ (by simp), rfl, ab, rfl, ⟨_, SqL.of (oo.g.s _ _ (d0 _ _ eb))⟩, for_it (walk_list (xs := xb)) (fun i σ H' => ∃ x3 D' xs' ep', σ = [some (.ref a), some v2, some (.ref d), x3] ∧ Own D H D' H' d (GD w d xs' ep') ∧ TD K D' xs' ((s.boxes.take i).foldl (fun cs b => boxG r b cs) ([(none, 0)] : List (Option Tx × Nat)))) ?_ ?_ ?_ ?_⟩
      · exact ⟨_, _, _, _, rfl, oo, zz⟩
      · rintro i σ H' hi ⟨x3, D', xs', ep', rfl, o, _⟩
        exact SqL.of (o.g.s _ _ (o.g.d _ _ eb))
      · rintro i x σ H0 H' hi ⟨x3, D', xs', ep', rfl, o, z⟩ ⟨rfl, hx⟩
        obtain ⟨bx, hbx, bbx⟩ := zb.get hx
        have hlen : xs'.length ≤ 950000 := by
          have h1 := z.length
          have h2 := giveC_le s r hw ([(none, 0)] : List (Option Tx × Nat)) i
          have h3 : (s.boxes.map fun b => b.left.length * b.right.length).sum ≤ 900000 := Nat.le_trans (Nat.le_add_left _ _) hcount
          exact Nat.le_trans (Nat.le_of_eq h1) (Nat.le_trans h2 (Nat.le_trans (Nat.add_le_add hcsl h3) (by decide)))
        refine ⟨_, rfl, _, rfl, _, rfl, D', d, xs', ep', _, bx, r, x, v2, rfl, o.g.s, o.nd, o.at_, z, bbx.mono o.g.d, hw _ (List.mem_of_getElem? hbx), hrec.mono o.g.d, hgr, hlen, fun D2 H2 xs2 ep2 g2 hat2 z2 => ?_⟩
        refine ⟨_, D2, xs2, ep2, rfl, ⟨o.g.own g2 o.n, o.n, hat2, (g2.n d (ne_none o.at_)).trans o.nd⟩, ?_⟩
        rw [foldl_take _ _ _ _ _ hbx]
        exact z2
      · rintro σ H' ⟨x3, D', xs', ep', rfl, o, z⟩
        rw [List.take_of_length_le (by omega)] at z
        exact ⟨_, rfl, k _ _ _ _ _ o (by rw [hS]; exact z)⟩
    | some c =>
      rw [hc] at hcv
      obtain ⟨ac, rfl, eac⟩ := id hcv
      refine iteT ⟨_, rfl, _, rfl, a, CPs, dx, _, .ref ac, rfl, o1.g.s _ _ ha, T.clPs, T.nPs _ (by simp), rfl, ac, _, rfl, .inl ⟨SqL.of (o1.g.s _ _ eac), fun q hq => ?_⟩⟩
      have g2 := Grow.fresh (M := []) (u := .tup (tv c)) o1.g.s hq
      have o2 := o1.call g2
      refine ⟨_, d, _, ep0, _, some c, .ref q, 1, rfl, g2.s, o2.at_, TD.mono g2.d z1, ⟨q, rfl, SqT.of upd_same⟩, by decide, fun xs' ep' zz => ?_⟩
      have oo := o2.set (u' := GD w d xs' ep')
      have hS : giveC s r = s.boxes.foldl (fun cs b => boxG r b cs) (bump [(none, 0)] (some c) 1) := by unfold giveC; rw [hc]
      have hcsl : (bump ([(none, 0)] : List (Option Tx × Nat)) (some c) 1).length ≤ 2 := bump_le _ _ _
      have d0 := oo.g.d
      refine ⟨_, rfl, a, CPs, dx, _, .ref ab, rfl, oo.g.s _ _ (d0 _ _ ha), T.clPs, T.nPs _ (by simp), rfl, ab, rfl, ⟨_, SqL.of (oo.g.s _ _ (d0 _ _ eb))⟩, for_it (walk_list (xs := xb)) (fun i σ H' => ∃ x3 D' xs' ep', σ = [some (.ref a), some v2, some (.ref d), x3] ∧ Own D H D' H' d (GD w d xs' ep') ∧ TD K D' xs' ((s.boxes.take i).foldl (fun cs b => boxG r b cs) (bump ([(none, 0)] : List (Option Tx × Nat)) (some c) 1))) ?_ ?_ ?_ ?_⟩
      · exact ⟨_, _, _, _, rfl, oo, zz⟩
      · rintro i σ H' hi ⟨x3, D', xs', ep', rfl, o, _⟩
        exact SqL.of (o.g.s _ _ (o.g.d _ _ eb))
      · rintro i x σ H0 H' hi ⟨x3, D', xs', ep', rfl, o, z⟩ ⟨rfl, hx⟩
        obtain ⟨bx, hbx, bbx⟩ := zb.get hx
        have hlen : xs'.length ≤ 950000 := by
          have h1 := z.length
          have h2 := giveC_le s r hw (bump ([(none, 0)] : List (Option Tx × Nat)) (some c) 1) i
          have h3 : (s.boxes.map fun b => b.left.length * b.right.length).sum ≤ 900000 := Nat.le_trans (Nat.le_add_left _ _) hcount
          exact Nat.le_trans (Nat.le_of_eq h1) (Nat.le_trans h2 (Nat.le_trans (Nat.add_le_add hcsl h3) (by decide)))
        refine ⟨_, rfl, _, rfl, _, rfl, D', d, xs', ep', _, bx, r, x, v2, rfl, o.g.s, o.nd, o.at_, z, bbx.mono o.g.d, hw _ (List.mem_of_getElem? hbx), hrec.mono o.g.d, hgr, hlen, fun D2 H2 xs2 ep2 g2 hat2 z2 => ?_⟩
        refine ⟨_, D2, xs2, ep2, rfl, ⟨o.g.own g2 o.n, o.n, hat2, (g2.n d (ne_none o.at_)).trans o.nd⟩, ?_⟩
        rw [foldl_take _ _ _ _ _ hbx]
        exact z2
      · rintro σ H' ⟨x3, D', xs', ep', rfl, o, z⟩
        rw [List.take_of_length_le (by omega)] at z
        exact ⟨_, rfl, k _ _ _ _ _ o (by rw [hS]; exact z)⟩
end
end Ps
set_option Elab.async false
set_option linter.all false
set_option maxRecDepth 100000
set_option maxHeartbeats 2000000
/-! The shelf and the calls as data. -/
namespace Ps
open PySem PySem.Spec PyProof.Rows L2 Gd
abbrev Hd := Vaflxb.Held
/-- a list of numbers that stands -/
def AL (D : Hp) (v : V) (l : List Int) : Prop := ∃ a, v = .ref a ∧ D a = some (.lst (l.map V.int))
theorem AL.mono {D D' : Hp} {v : V} {l : List Int} (h : Sub D D') (q : AL D v l) : AL D' v l := let ⟨a, e, z⟩ := q; ⟨a, e, h _ _ z⟩
theorem BL.al {D : Hp} {v : V} {t : Tx} (h : BL D v t) : AL D v (Vaflxb.numbers t) := by
  obtain ⟨a, e, z⟩ := h
  refine ⟨a, e, ?_⟩
  unfold Vaflxb.numbers
  rw [List.map_map]; exact z
theorem AL.bl {D : Hp} {v : V} {t : Tx} (h : AL D v (Vaflxb.numbers t)) : BL D v t := by
  obtain ⟨a, e, z⟩ := h
  refine ⟨a, e, ?_⟩
  unfold Vaflxb.numbers at z
  rw [List.map_map] at z; exact z
def tagB (b : Bx) : List (Nat × Nat × Pos) := b.left.map fun p => (b.field, Vaflxb.caseNumber b.case_, p)
structure wfS (s : Pcs) : Prop where
  b : ∀ b ∈ s.boxes, wfB b
  c : ∀ t, s.const = some t → 1 ≤ t.length ∧ t.length ≤ 12 ∧ ∀ c ∈ t, isByte c = true
  dj : s.boxes.Pairwise fun x y => ∀ p ∈ tagB x, ∀ q ∈ tagB y, p ≠ q
  m : (s.boxes.map fun b => b.left.length).sum ≤ 20480
theorem sum_le_mul (k : Nat) : ∀ bs : List Bx, (∀ b ∈ bs, b.right.length ≤ k) → (bs.map fun b => b.left.length * b.right.length).sum ≤ (bs.map fun b => b.left.length).sum * k
  | [], _ => by simp
  | b :: bs, h => by
    rw [List.map_cons, List.map_cons, List.sum_cons, List.sum_cons, Nat.add_mul]
    have h1 := sum_le_mul k bs fun x hx => h x (List.mem_cons_of_mem _ hx)
    have h2 : b.left.length * b.right.length ≤ b.left.length * k := Nat.mul_le_mul_left _ (h b List.mem_cons_self)
    exact Nat.add_le_add h2 h1
theorem len_le_sum : ∀ bs : List Bx, (∀ b ∈ bs, b.left ≠ []) → bs.length ≤ (bs.map fun b => b.left.length).sum
  | [], _ => by simp
  | b :: bs, h => by
    rw [List.map_cons, List.sum_cons, List.length_cons]
    have h1 := len_le_sum bs fun x hx => h x (List.mem_cons_of_mem _ hx)
    have h2 := List.length_pos_iff.mpr (h b List.mem_cons_self)
    omega
theorem wfS.len {s : Pcs} (h : wfS s) : s.boxes.length ≤ 20480 := Nat.le_trans (len_le_sum s.boxes fun b hb => (h.b b hb).nl) h.m
theorem wfS.count {s : Pcs} (h : wfS s) : Vaflxb.countOf s ≤ 900000 := by
  rw [count_eq]
  have h1 := const_le s
  have h2 := sum_le_mul 34 s.boxes fun b hb => (h.b b hb).r.len
  have h3 : (s.boxes.map fun b => b.left.length).sum * 34 ≤ 20480 * 34 := Nat.mul_le_mul_right _ h.m
  exact Nat.le_trans (Nat.add_le_add h1 (Nat.le_trans h2 h3)) (by decide)
def wfH : Hd → Prop
  | .positions l => wfL l
  | .pieces s => wfS s
def isP : Hd → Bool
  | .positions _ => false
  | .pieces _ => true
section
variable (K : PySem.W.Frag) (w : World) (CP CB CPs CS CC : Addr)
def HeldAt (D : Hp) (v : V) : Hd → Prop
  | .positions l => PSet K w CP D v l
  | .pieces s => PcsAt K w CP CB CPs D v s
def HEnt (D : Hp) (e : Ent) (p : Tx × Hd) : Prop := e.1 = kT p.1 ∧ BT K D e.2.1 p.1 ∧ HeldAt K w CP CB CPs D e.2.2 p.2
structure stOk (st : Vaflxb.State) : Prop where
  nd : (st.held.map (·.1)).Nodup
  len : st.held.length ≤ 20
  wf : ∀ p ∈ st.held, Vaflxb.isName p.1 = true ∧ wfH p.2
structure ShelfD (D H : Hp) (sh dh : Addr) (st : Vaflxb.State) : Prop where
  sh_ : ∃ dx, D sh = some (.ins CS dx [("held", .ref dh)])
  nd : D dh = none
  at_ : ∃ xs ep, H dh = some (GD w dh xs ep) ∧ All2 (HEnt K w CP CB CPs D) xs st.held
  ok : stOk st
def callFs (an : Addr) (i : Nat) : List (Str × V) := [("numbers", .ref an), ("at", nv i)]
structure CallsD (D H : Hp) (ca : Addr) (l : List Int) (i : Nat) : Prop where
  nd : D ca = none
  at_ : ∃ dx an, H ca = some (.ins CC dx (callFs an i)) ∧ D an = some (.lst (l.map V.int))
end
section
variable {K : PySem.W.Frag} {w : World} {CP CB CPs CS CC : Addr} {D D' H H' : Hp}
theorem HeldAt.mono {v : V} {h : Hd} (s : Sub D D') (q : HeldAt K w CP CB CPs D v h) : HeldAt K w CP CB CPs D' v h := by
  cases h with
  | positions l => exact PSet.mono s q
  | pieces p => exact PcsAt.mono s q
theorem HEnt.mono {e : Ent} {p : Tx × Hd} (s : Sub D D') (q : HEnt K w CP CB CPs D e p) : HEnt K w CP CB CPs D' e p := ⟨q.1, q.2.1.mono s, q.2.2.mono s⟩
theorem hent_keys {xs : List Ent} {l : List (Tx × Hd)} (z : All2 (HEnt K w CP CB CPs D) xs l) : GKeys K D xs := by
  intro e he
  obtain ⟨i, hi⟩ := List.mem_iff_getElem?.mp he
  obtain ⟨p, _, e1, e2, _⟩ := z.get hi
  rw [e1]
  exact e2.key
/-- what is held under a name -/
theorem held_get (x : Tx) : ∀ {xs : List Ent} {l : List (Tx × Hd)}, All2 (HEnt K w CP CB CPs D) xs l →
    (getE xs (kT x) = none ∧ (l.find? fun p => p.1 == x) = none) ∨ ∃ v p, getE xs (kT x) = some v ∧ (l.find? fun p => p.1 == x) = some p ∧ HeldAt K w CP CB CPs D v p.2
  | [], [], _ => .inl ⟨rfl, rfl⟩
  | e :: xs, p :: l, ⟨⟨h1, h2, h3⟩, t⟩ => by
    unfold getE
    rw [List.find?_cons, List.find?_cons]
    by_cases h : p.1 = x
    · rw [decide_eq_true (by rw [h1, h])]
      have hb : (p.1 == x) = true := beq_iff_eq.mpr h
      rw [hb]
      exact .inr ⟨_, p, rfl, rfl, h3⟩
    · rw [decide_eq_false (by rw [h1]; exact fun z => h (kT_inj z))]
      have hb : (p.1 == x) = false := beq_eq_false_iff_ne.mpr h
      rw [hb]
      exact held_get x t
  | [], _ :: _, z => z.elim
  | _ :: _, [], z => z.elim
theorem put_none {x : Tx} {h : Hd} : ∀ {l : List (Tx × Hd)}, (l.find? fun p => p.1 == x) = none → Vaflxb.put x h l = l ++ [(x, h)]
  | [], _ => rfl
  | p :: l, e => by
    rw [List.find?_cons] at e
    unfold Vaflxb.put
    by_cases hp : p.1 = x
    · rw [show (p.1 == x) = true from beq_iff_eq.mpr hp] at e; cases e
    · rw [show (p.1 == x) = false from beq_eq_false_iff_ne.mpr hp] at e
      rw [if_neg hp, put_none e]; rfl
theorem put_some {x : Tx} {h : Hd} : ∀ {l : List (Tx × Hd)}, (l.map (·.1)).Nodup → (l.find? fun p => p.1 == x) ≠ none → Vaflxb.put x h l = l.map fun p => if p.1 = x then (x, h) else p
  | [], _, e => absurd rfl e
  | p :: l, nd, e => by
    rw [List.map_cons, List.nodup_cons] at nd
    rw [List.find?_cons] at e
    unfold Vaflxb.put
    rw [List.map_cons]
    by_cases hp : p.1 = x
    · rw [if_pos hp, if_pos hp]
      congr 1
      have : ∀ q ∈ l, (if q.1 = x then (x, h) else q) = q := fun q hq => by
        rw [if_neg]
        intro z
        exact nd.1 (by rw [hp, ← z]; exact List.mem_map.mpr ⟨q, hq, rfl⟩)
      exact (List.map_id' l).symm.trans (List.map_congr_left fun q hq => (this q hq).symm)
    · rw [show (p.1 == x) = false from beq_eq_false_iff_ne.mpr hp] at e
      rw [if_neg hp, if_neg hp, put_some nd.2 e]
/-- a set is put under a name -/
theorem hent_put {x : Tx} {h : Hd} {kv v : V} (hk : BT K D kv x) (hv : HeldAt K w CP CB CPs D v h) {xs : List Ent} {l : List (Tx × Hd)} (z : All2 (HEnt K w CP CB CPs D) xs l) (nd : (l.map (·.1)).Nodup) :
    All2 (HEnt K w CP CB CPs D) (putE xs (kT x) kv v) (Vaflxb.put x h l) := by
  rcases held_get x z with ⟨h1, h2⟩ | ⟨v', p, h1, h2, _⟩
  · rw [putE_new h1, put_none h2]
    exact z.snoc ⟨rfl, hk, hv⟩
  · unfold putE
    rw [h1, if_pos (show (some v').isSome = true from rfl), put_some nd (by rw [h2]; exact fun z => nomatch z)]
    clear h1 h2 nd
    induction xs generalizing l with
    | nil => cases l with
      | nil => exact trivial
      | cons _ _ => exact z.elim
    | cons e xs ih => cases l with
      | nil => exact z.elim
      | cons q l =>
        obtain ⟨⟨g1, g2, g3⟩, t⟩ := z
        refine ⟨?_, ih t⟩
        show HEnt K w CP CB CPs D (setV (kT x) v e) (if q.1 = x then (x, h) else q)
        unfold setV
        by_cases hq : q.1 = x
        · rw [if_pos hq, if_pos (by rw [g1, hq])]
          exact ⟨by rw [g1, hq], by rw [← hq]; exact g2, hv⟩
        · rw [if_neg hq, if_neg (by rw [g1]; exact fun z => hq (kT_inj z))]
          exact ⟨g1, g2, g3⟩
theorem keys_put {x : Tx} {h : Hd} {l : List (Tx × Hd)} (nd : (l.map (·.1)).Nodup) : ((Vaflxb.put x h l).map (·.1)).Nodup ∧ (∀ p ∈ Vaflxb.put x h l, p = (x, h) ∨ p ∈ l) ∧ ((l.find? fun p => p.1 == x) = none → (Vaflxb.put x h l).length = l.length + 1) ∧ ((l.find? fun p => p.1 == x) ≠ none → (Vaflxb.put x h l).length = l.length) := by
  cases e : l.find? fun p => p.1 == x with
  | none =>
    rw [put_none e]
    rw [List.find?_eq_none] at e
    refine ⟨?_, fun p hp => ?_, fun _ => by simp, fun z => absurd rfl z⟩
    · rw [List.map_append, List.nodup_append]
      refine ⟨nd, by simp, fun a ha b hb e' => ?_⟩
      simp at hb
      subst hb
      subst e'
      rw [List.mem_map] at ha
      obtain ⟨p, hp, rfl⟩ := ha
      exact e p hp (beq_self_eq_true _)
    · rw [List.mem_append] at hp
      rcases hp with hp | hp
      · exact .inr hp
      · simp at hp; exact .inl hp
  | some q =>
    rw [put_some nd (by rw [e]; exact fun z => nomatch z)]
    refine ⟨?_, fun p hp => ?_, fun z => (nomatch z), fun _ => by simp⟩
    · rw [List.map_map]
      have : ((fun p : Tx × Hd => p.1) ∘ fun p => if p.1 = x then (x, h) else p) = fun p => p.1 := by
        funext p
        show (if p.1 = x then (x, h) else p).1 = p.1
        split
        · rename_i z; exact z.symm
        · rfl
      rw [this]; exact nd
    · rw [List.mem_map] at hp
      obtain ⟨r, hr, rfl⟩ := hp
      split
      · exact .inl rfl
      · exact .inr hr
theorem ShelfD.grow {M : List Addr} {D2 H2 : Hp} {sh dh : Addr} {st : Vaflxb.State} (s : ShelfD K w CP CB CPs CS D H sh dh st) (hM : dh ∉ M) (g : Grow M D H D2 H2) : ShelfD K w CP CB CPs CS D2 H2 sh dh st := by
  obtain ⟨⟨dx, h1⟩, h2, ⟨xs, ep, h3, z⟩, h4⟩ := s
  exact ⟨⟨dx, g.d _ _ h1⟩, (g.n dh (ne_none h3)).trans h2, ⟨xs, ep, g.h _ _ hM h3, z.mono fun _ _ q => q.mono g.d⟩, h4⟩
theorem CallsD.grow {M : List Addr} {D2 H2 : Hp} {ca : Addr} {l : List Int} {i : Nat} (s : CallsD CC D H ca l i) (hM : ca ∉ M) (g : Grow M D H D2 H2) : CallsD CC D2 H2 ca l i := by
  obtain ⟨h2, dx, an, h3, h4⟩ := s
  exact ⟨(g.n ca (ne_none h3)).trans h2, dx, an, g.h _ _ hM h3, g.d _ _ h4⟩
end
end Ps
set_option Elab.async false
set_option linter.all false
set_option maxRecDepth 100000
set_option maxHeartbeats 2000000
namespace Ps
open PySem PySem.Spec PyProof.Rows L2 Gd
theorem cut_ints (l : List Int) (p q : Nat) : cutV (l.map V.int) (some ((p : Nat) : Int)) (some ((q : Nat) : Int)) = ((l.drop p).take (q - p)).map V.int := by
  rw [cutV_nat, List.map_take, List.map_drop]
theorem name_eq (t : Tx) : Vaflxb.isName t = (decide (1 ≤ t.length) && (decide (t.length ≤ 12) && (t.map Vaflxa.isSmall).all id)) := by
  unfold Vaflxb.isName
  rw [List.all_map]; rfl
theorem all_ints_at {l : List Int} {i : Nat} {z : Int} (h : l[i]? = some z) : atI (l.map V.int) ((i : Nat) : Int) = some (.int z) := atI_nat (by rw [List.getElem?_map, h]; rfl)
section
variable {P : Program} {w : World} {K : PySem.W.Frag} {mg : Str → Option Value} {base : Heap} {CP CB CPs CPc CS CC : Addr} {f : Addr} {fd : FuncData}
def sp_next_numbers (w : World) (K : PySem.W.Frag) (CP CB CPs CPc CS CC : Addr) : Sp := fun vs H Q _ => ∃ D ca l i m, vs = [.ref ca, nv m] ∧ Sub D H ∧ CallsD CC D H ca l i ∧ ∀ D' H' v, Grow [ca] D H D' H' → CallsD CC D' H' ca l (i + m) → AL D' v ((l.drop i).take m) → Q v H'
abbrev s_next_numbers : Stmt := topS 80
theorem sc_next_numbers : FnScope ["calls", "many"] ["calls", "many"] (defScope s_next_numbers) := ⟨rfl, rfl, rfl, by decide +kernel, rfl, by decide +kernel, by decide +kernel⟩
theorem ok_next_numbers (F : Fun K "next_numbers" "next_numbers" s_next_numbers f fd) (T : Txt K mg CP CB CPs CPc CS CC)  : FnOk P w K mg base CX0 1 f fd ["calls", "many"] (sp_next_numbers w K CP CB CPs CPc CS CC) := by
  refine F.ok sc_next_numbers (fun vs H Q E h => ?_) (fun cdv A outer s H vs Q E hr h => ?_)
  · obtain ⟨_, _, _, _, _, rfl, _⟩ := h; rfl
  · obtain ⟨D, ca, l, i, m, rfl, hs, ⟨hnd, dx, an, hca, han⟩, k⟩ := h
    refine ⟨_, (pss_cons (ps_fldaug (pv 0) (pv 1) in_add)
      (pss_one (ps_ret (pe_slice sl_list (pe_fld (pv 0) rfl) (po_some (pe_op op_sub (pe_fld (pv 0) rfl) (pv 1))) (po_some (pe_fld (pv 0) rfl)))))), ?_⟩
    refine ⟨_, rfl, ca, CC, dx, _, nv i, rfl, hca, T.clC, T.nC _ (by simp), rfl, _, rfl, _, _, rfl, rfl, dx, _, hca, (show 2 < 1000 by decide), ?_⟩
    have e : ((i : Nat) : Int) + ((m : Nat) : Int) = ((i + m : Nat) : Int) := by omega
    rw [e]
    have g1 : Grow [ca] D H D (upd H ca (.ins CC dx (callFs an (i + m)))) := (Grow.refl hs).write (.inr (List.mem_singleton.mpr rfl)) hnd
    have hca1 : (upd H ca (.ins CC dx (callFs an (i + m)))) ca = some (.ins CC dx (callFs an (i + m))) := upd_same
    refine ⟨_, rfl, ca, CC, dx, _, .ref an, rfl, hca1, T.clC, T.nC _ (by simp), rfl, _, rfl, ca, CC, dx, _, nv (i + m), rfl, hca1, T.clC, T.nC _ (by simp), rfl, _, rfl, _, _, rfl, rfl, _, rfl, _, rfl, ca, CC, dx, _, nv (i + m), rfl, hca1, T.clC, T.nC _ (by simp), rfl, _, rfl, an, _, rfl, SqL.of (g1.s _ _ han), fun p hp => ?_⟩
    rw [show ((i + m : Nat) : Int) - ((m : Nat) : Int) = ((i : Nat) : Int) by omega, cut_ints, show i + m - i = m by omega]
    have g2 := Grow.fresh (M := [ca]) (u := .lst (((l.drop i).take m).map V.int)) g1.s hp
    have hpc : ca ≠ p := ne_of_none hca1 hp
    exact k _ _ _ (g1.trans g2) ⟨by rw [upd_ne hpc]; exact hnd, dx, an, by rw [upd_ne hpc]; exact hca1, g2.d _ _ han⟩ ⟨p, rfl, upd_same⟩
def sp_next_row (w : World) (K : PySem.W.Frag) (CP CB CPs CPc CS CC : Addr) : Sp := fun vs H Q _ => ∃ D ca l i n, vs = [.ref ca] ∧ Sub D H ∧ CallsD CC D H ca l i ∧ l[i]? = some ((n : Nat) : Int) ∧ ∀ D' H' v, Grow [ca] D H D' H' → CallsD CC D' H' ca l (i + 1 + n) → AL D' v ((l.drop (i + 1)).take n) → Q v H'
abbrev s_next_row : Stmt := topS 81
theorem sc_next_row : FnScope ["calls"] ["calls"] (defScope s_next_row) := ⟨rfl, rfl, rfl, by decide +kernel, rfl, by decide +kernel, by decide +kernel⟩
theorem ok_next_row (F : Fun K "next_row" "next_row" s_next_row f fd) (T : Txt K mg CP CB CPs CPc CS CC) (C_next_numbers : Def P w K mg base 1 "next_numbers" ["calls", "many"] (sp_next_numbers w K CP CB CPs CPc CS CC)) : FnOk P w K mg base CX0 2 f fd ["calls"] (sp_next_row w K CP CB CPs CPc CS CC) := by
  refine F.ok sc_next_row (fun vs H Q E h => ?_) (fun cdv A outer s H vs Q E hr h => ?_)
  · obtain ⟨_, _, _, _, _, rfl, _⟩ := h; rfl
  · obtain ⟨D, ca, l, i, n, rfl, hs, hc, hn, k⟩ := h
    refine ⟨_, (pss_one (ps_ret (pe_callD C_next_numbers (hr.mono (by decide)) (by rfl) (pa_cons (pv 0) (pa_cons (pe_ix ix_list (pe_callD C_next_numbers (hr.mono (by decide)) (by rfl) (pa_cons (pv 0) (pa_cons pe_int pa_nil))) pe_int (fun _ _ => rfl)) pa_nil))))), ?_⟩
    refine ⟨_, rfl, _, rfl, D, ca, l, i, 1, rfl, hs, hc, fun D1 H1 v1 g1 c1 a1 => ?_⟩
    obtain ⟨a, rfl, ha⟩ := a1
    have h0 : ((l.drop i).take 1)[0]? = some ((n : Nat) : Int) := by
      rw [List.getElem?_take, if_pos (by decide), List.getElem?_drop]; exact hn
    exact ⟨a, _, _, _, rfl, rfl, SqL.of (g1.s _ _ ha), all_ints_at h0, D1, ca, l, i + 1, n, rfl, g1.s, c1, fun D2 H2 v2 g2 c2 a2 => k _ _ _ (g1.trans g2) c2 a2⟩
def sp_is_pieces (w : World) (K : PySem.W.Frag) (CP CB CPs CPc CS CC : Addr) : Sp := fun vs H Q _ => ∃ D v h, vs = [v] ∧ Sub D H ∧ HeldAt K w CP CB CPs D v h ∧ Q (.bl (isP h)) H
abbrev s_is_pieces : Stmt := topS 83
theorem sc_is_pieces : FnScope ["some"] ["some"] (defScope s_is_pieces) := ⟨rfl, rfl, rfl, by decide +kernel, rfl, by decide +kernel, by decide +kernel⟩
theorem ok_is_pieces (F : Fun K "is_pieces" "is_pieces" s_is_pieces f fd) (T : Txt K mg CP CB CPs CPc CS CC)  : FnOk P w K mg base CX0 1 f fd ["some"] (sp_is_pieces w K CP CB CPs CPc CS CC) := by
  refine F.ok sc_is_pieces (fun vs H Q E h => ?_) (fun cdv A outer s H vs Q E hr h => ?_)
  · obtain ⟨_, _, _, rfl, _⟩ := h; rfl
  · obtain ⟨D, v, h, rfl, hs, hh, k⟩ := h
    refine ⟨_, (pss_one (ps_ret (pe_callB (call_isiP T) (by rfl) T.m_isinstance b_isinstance (pa_cons (pv 0) (pa_cons (pe_ref (by rfl) T.c_Pieces) pa_nil))))), ?_⟩
    cases h with
    | positions l =>
      obtain ⟨d, xs, ep, rfl, hd, _⟩ := hh
      exact ⟨_, rfl, d, rfl, .inr ⟨xs, ep, hs _ _ hd, k⟩⟩
    | pieces s =>
      obtain ⟨a, dx, cv, bv1, rfl, ha, _⟩ := hh
      exact ⟨_, rfl, a, rfl, .inl ⟨dx, _, hs _ _ ha, k⟩⟩
def sp_is_name (w : World) (K : PySem.W.Frag) (CP CB CPs CPc CS CC : Addr) : Sp := fun vs H Q _ => ∃ D t v, vs = [v] ∧ Sub D H ∧ BL D v t ∧ t.length ≤ 100000 ∧ ∀ H', Same H H' → Q (.bl (Vaflxb.isName t)) H'
abbrev s_is_name : Stmt := topS 82
theorem sc_is_name : FnScope ["row", "byte"] ["row"] (defScope s_is_name) := ⟨rfl, rfl, rfl, by decide +kernel, rfl, by decide +kernel, by decide +kernel⟩
theorem ok_is_name (F : Fun K "is_name" "is_name" s_is_name f fd) (T : Txt K mg CP CB CPs CPc CS CC) (C_is_between : Def P w K mg base 1 "is_between" ["byte", "bounds"] (sp_is_between K)) : FnOk P w K mg base CX0 2 f fd ["row"] (sp_is_name w K CP CB CPs CPc CS CC) := by
  obtain ⟨aSMALL, g_SMALL, qSMALL⟩ := T.g_SMALL
  refine F.ok sc_is_name (fun vs H Q E h => ?_) (fun cdv A outer s H vs Q E hr h => ?_)
  · obtain ⟨_, _, _, rfl, _⟩ := h; rfl
  · obtain ⟨D, t, v, rfl, hs, ⟨a, rfl, ha⟩, hl, k⟩ := h
    refine ⟨_, (pss_one (ps_ret (pe_and (pe_chain op_le op_le pe_int (pe_callB call_len (by rfl) T.m_len b_len (pa_cons (pv 0) pa_nil)) (pe_const (by rfl) T.g_MOST_NAME)) (pe_one (pe_callB (cr_all rfl) (by rfl) T.m_all b_all (pa_cons (pe_lc (own := [("byte", 1)]) (g := gName 1) rfl sc_is_name.nd (pi_list (pv 0)) (blkOk_by (own := [("byte", 1)]) (N := ["row", "byte"]) (sc := defScope s_is_name) (by decide +kernel)) (fun _ _ _ _ _ => pg_name (i := 1) sc_is_name.nd rfl (Or.inl rfl)) (fun _ _ _ _ _ => pts_nil) (fun _ _ _ _ _ => (pe_callD C_is_between (hr.mono (by decide)) (by rfl) (pa_cons (pv 1) (pa_cons (pe_const (by rfl) g_SMALL) pa_nil))))) pa_nil)))))), ?_⟩
    rw [name_eq] at k
    have ha0 := hs _ _ ha
    refine ⟨_, rfl, _, t.length, rfl, .inl ⟨_, SqL.of ha0, by simp⟩, 1, _, rfl, rfl, _, rfl, ?_⟩
    by_cases h1 : 1 ≤ t.length
    · rw [decide_eq_true (p := (1 : Int) ≤ ((t.length : Nat) : Int)) (by omega)]
      rw [decide_eq_true h1, Bool.true_and] at k
      refine iteT ⟨_, _, rfl, rfl, _, rfl, ?_⟩
      by_cases h2 : t.length ≤ 12
      · rw [decide_eq_true (p := ((t.length : Nat) : Int) ≤ 12) (by omega)]
        rw [decide_eq_true h2, Bool.true_and] at k
        refine iteT ⟨_, rfl, a, rfl, ⟨_, SqL.of ha0⟩, fun L hL => lc_it (walk_list (xs := tv t)) (fun i H' => H' = upd H L (.lst ((t.take i).map fun c => V.bl (Vaflxa.isSmall c)))) rfl ?_ ?_ ?_⟩
        · rintro i H' hi rfl
          exact SqL.of (by rw [upd_ne (ne_of_none ha0 hL)]; exact ha0)
        · rintro i x H' H2 hi rfl ⟨rfl, hx⟩
          rw [List.getElem?_map] at hx
          cases hc : t[i]? with
          | none => rw [hc] at hx; cases hx
          | some c =>
            rw [hc] at hx; cases hx
            refine ⟨rfl, _, rfl, _, _, _, _, rfl, qSMALL _, ?_⟩
            rw [bt_small]
            refine ⟨_, upd_same, ?_, ?_⟩
            · rw [List.length_map, List.length_take]; exact small_lt (by omega)
            · rw [upd_upd, List.take_add_one, hc, List.map_append]; rfl
        · rintro H' rfl
          have e : (tv t).length = t.length := by simp
          rw [e, List.take_length]
          exact ⟨L, t.map Vaflxa.isSmall, rfl, SqL.of (by rw [upd_same, List.map_map]; rfl), k _ ((Grow.refl (M := []) hs).tmp hL).same⟩
      · rw [decide_eq_false (p := ((t.length : Nat) : Int) ≤ 12) (by omega)]
        rw [decide_eq_false h2, Bool.false_and] at k
        exact iteF (k _ (fun _ _ e => e))
    · rw [decide_eq_false (p := (1 : Int) ≤ ((t.length : Nat) : Int)) (by omega)]
      rw [decide_eq_false h1, Bool.false_and] at k
      exact iteF ⟨_, rfl, iteF (k _ (fun _ _ e => e))⟩
def sp_is_record (w : World) (K : PySem.W.Frag) (CP CB CPs CPc CS CC : Addr) : Sp := fun vs H Q _ => ∃ D r v, vs = [v] ∧ Sub D H ∧ RecAt D v r ∧ (∀ t ∈ r, t.length ≤ 100000) ∧ r.length ≤ 100000 ∧ ∀ H', Same H H' → Q (.bl (Vaflxa.goodRecord r)) H'
abbrev s_is_record : Stmt := topS 85
theorem sc_is_record : FnScope ["fields", "field"] ["fields"] (defScope s_is_record) := ⟨rfl, rfl, rfl, by decide +kernel, rfl, by decide +kernel, by decide +kernel⟩
theorem ok_is_record (F : Fun K "is_record" "is_record" s_is_record f fd) (T : Txt K mg CP CB CPs CPc CS CC) (C_is_field : Def P w K mg base 1 "is_field" ["row"] (sp_is_field w K CP CB CPs CPc CS CC)) : FnOk P w K mg base CX0 2 f fd ["fields"] (sp_is_record w K CP CB CPs CPc CS CC) := by
  refine F.ok sc_is_record (fun vs H Q E h => ?_) (fun cdv A outer s H vs Q E hr h => ?_)
  · obtain ⟨_, _, _, rfl, _⟩ := h; rfl
  · obtain ⟨D, r, v, rfl, hs, ⟨a, xr, rfl, ha, z⟩, hle, hl, k⟩ := h
    refine ⟨_, (pss_one (ps_ret (pe_and (pe_chain op_le op_le pe_int (pe_callB call_len (by rfl) T.m_len b_len (pa_cons (pv 0) pa_nil)) (pe_const (by rfl) T.g_MOST_FIELDS)) (pe_one (pe_callB (cr_all rfl) (by rfl) T.m_all b_all (pa_cons (pe_lc (own := [("field", 1)]) (g := gName 1) rfl sc_is_record.nd (pi_list (pv 0)) (blkOk_by (own := [("field", 1)]) (N := ["fields", "field"]) (sc := defScope s_is_record) (by decide +kernel)) (fun _ _ _ _ _ => pg_name (i := 1) sc_is_record.nd rfl (Or.inl rfl)) (fun _ _ _ _ _ => pts_nil) (fun _ _ _ _ _ => (pe_callD C_is_field (hr.mono (by decide)) (by rfl) (pa_cons (pv 1) pa_nil)))) pa_nil)))))), ?_⟩
    have ge : Vaflxa.goodRecord r = (decide (1 ≤ r.length) && (decide (r.length ≤ 4) && (r.map Vaflxb.goodField).all id)) := by
      unfold Vaflxa.goodRecord
      rw [List.all_map, Bool.and_assoc]; rfl
    rw [ge] at k
    have ha0 := hs _ _ ha
    have zl := z.length
    refine ⟨_, rfl, _, r.length, rfl, .inl ⟨_, SqL.of ha0, zl.symm⟩, 1, _, rfl, rfl, _, rfl, ?_⟩
    by_cases h1 : 1 ≤ r.length
    · rw [decide_eq_true (p := (1 : Int) ≤ ((r.length : Nat) : Int)) (by omega)]
      rw [decide_eq_true h1, Bool.true_and] at k
      refine iteT ⟨_, _, rfl, rfl, _, rfl, ?_⟩
      by_cases h2 : r.length ≤ 4
      · rw [decide_eq_true (p := ((r.length : Nat) : Int) ≤ 4) (by omega)]
        rw [decide_eq_true h2, Bool.true_and] at k
        refine iteT ⟨_, rfl, a, rfl, ⟨_, SqL.of ha0⟩, fun L hL => lc_it (walk_list (xs := xr)) (fun i H' => Own D H D H' L (.lst ((r.take i).map fun t => V.bl (Vaflxb.goodField t)))) ?_ ?_ ?_ ?_⟩
        · exact Own.mk' (Grow.refl hs) hL
        · rintro i H' hi o
          exact SqL.of (o.g.s _ _ ha)
        · rintro i x H0 H' hi o ⟨rfl, hx⟩
          obtain ⟨t, ht, bt⟩ := z.get hx
          refine ⟨rfl, _, rfl, D, t, x, rfl, o.g.s, bt, hle t (List.mem_of_getElem? ht), fun H2 hH2 => ?_⟩
          have o2 := o.call (Grow.of_same o.g.s hH2)
          refine ⟨_, o2.at_, ?_, ?_⟩
          · rw [List.length_map, List.length_take]; exact small_lt (by omega)
          · rw [List.take_add_one, ht, List.map_append]
            exact o2.set
        · rintro H' o
          rw [List.take_of_length_le (by omega)] at o
          exact ⟨L, r.map Vaflxb.goodField, rfl, SqL.of (by rw [o.at_, List.map_map]; rfl), k _ o.g.same⟩
      · rw [decide_eq_false (p := ((r.length : Nat) : Int) ≤ 4) (by omega)]
        rw [decide_eq_false h2, Bool.false_and] at k
        exact iteF (k _ (fun _ _ e => e))
    · rw [decide_eq_false (p := (1 : Int) ≤ ((r.length : Nat) : Int)) (by omega)]
      rw [decide_eq_false h1, Bool.false_and] at k
      exact iteF ⟨_, rfl, iteF (k _ (fun _ _ e => e))⟩
end
end Ps
set_option Elab.async false
set_option linter.all false
set_option maxRecDepth 100000
set_option maxHeartbeats 2000000
namespace Ps
open PySem PySem.Spec PyProof.Rows L2 Gd
theorem numbers_text {l : List Int} {t : Tx} (h : VaflxbNeutral.text? l = some t) : Vaflxb.numbers t = l := by
  unfold VaflxbNeutral.text? at h
  split at h
  · rename_i hb
    cases h
    unfold Vaflxb.numbers
    rw [List.map_map]
    refine (List.map_congr_left fun z hz => ?_).trans (List.map_id l)
    unfold NeutralIO.bytes at hb
    have := (List.all_eq_true.mp hb) z hz
    rw [Bool.and_eq_true, decide_eq_true_eq, decide_eq_true_eq] at this
    show ((UInt8.ofNat z.toNat).toNat : Int) = z
    rw [UInt8.toNat_ofNat_of_lt' (by show z.toNat < 256; omega)]
    omega
  · cases h
/-- texts one after another -/
theorem texts_cons {n : Nat} {k : Int} {r : List Int} {ts : List Tx} (h : VaflxbNeutral.texts? n (k :: r) = some ts) :
    ∃ m t ts', n = m + 1 ∧ 0 ≤ k ∧ k.toNat ≤ r.length ∧ VaflxbNeutral.text? (r.take k.toNat) = some t ∧ VaflxbNeutral.texts? m (r.drop k.toNat) = some ts' ∧ ts = t :: ts' := by
  cases n with
  | zero => simp [VaflxbNeutral.texts?] at h
  | succ m =>
    unfold VaflxbNeutral.texts? at h
    split at h
    · cases h
    · rename_i hk
      cases e1 : VaflxbNeutral.text? (r.take k.toNat) with
      | none => rw [e1] at h; cases h
      | some t =>
        cases e2 : VaflxbNeutral.texts? m (r.drop k.toNat) with
        | none => rw [e1, e2] at h; cases h
        | some ts' =>
          rw [e1, e2] at h
          cases h
          exact ⟨m, t, ts', rfl, by omega, by omega, (by first | exact e1 | rfl), (by first | exact e2 | rfl), rfl⟩
def slot2 (σ : L2.St) : Nat := match σ with
  | [_, _, some (V.int z)] => z.toNat
  | _ => 0
section
variable {P : Program} {w : World} {K : PySem.W.Frag} {mg : Str → Option Value} {base : Heap} {CP CB CPs CPc CS CC : Addr} {f : Addr} {fd : FuncData}
def sp_fields_of (w : World) (K : PySem.W.Frag) (CP CB CPs CPc CS CC : Addr) : Sp := fun vs H Q _ => ∃ D r ts n v, vs = [v] ∧ Sub D H ∧ AL D v r ∧ VaflxbNeutral.texts? n r = some ts ∧ r.length ≤ 100000 ∧ ∀ D' H' x, Grow [] D H D' H' → RecAt D' x ts → Q x H'
abbrev s_fields_of : Stmt := topS 84
theorem sc_fields_of : FnScope ["row", "found", "at"] ["row"] (defScope s_fields_of) := ⟨rfl, rfl, rfl, by decide +kernel, rfl, by decide +kernel, by decide +kernel⟩
theorem ok_fields_of (F : Fun K "fields_of" "fields_of" s_fields_of f fd) (T : Txt K mg CP CB CPs CPc CS CC)  : FnOk P w K mg base CX0 1 f fd ["row"] (sp_fields_of w K CP CB CPs CPc CS CC) := by
  refine F.ok sc_fields_of (fun vs H Q E h => ?_) (fun cdv A outer s H vs Q E hr h => ?_)
  · obtain ⟨_, _, _, _, _, rfl, _⟩ := h; rfl
  · obtain ⟨D, r, ts, n, v, rfl, hs, ⟨a, rfl, ha⟩, hts, hlen, k⟩ := h
    refine ⟨_, (pss_cons (ps_set (i := 1) sc_fields_of.nd rfl (by first | exact Or.inl rfl | exact Or.inr rfl) (pe_lst pa_nil))
      (pss_cons (ps_set (i := 2) sc_fields_of.nd rfl (by first | exact Or.inl rfl | exact Or.inr rfl) pe_int)
      (pss_cons (ps_while PassesOwn.never (pt_cmpR op_lt (pv 2) (pe_callB call_len (by rfl) T.m_len b_len (pa_cons (pv 0) pa_nil)) (nomark _)) (pss_cons (ps_expr (pe_bm PySem.F.plainAttrs_list PySem.F.slot_list_append PySem.F.type_list_append mt_append (pv 1) (pa_cons (pe_slice sl_list (pv 0) (po_some (pe_op op_add (pv 2) pe_int)) (po_some (pe_op op_add (pe_op op_add (pv 2) pe_int) (pe_ix ix_list (pv 0) (pv 2) (fun _ _ => rfl))))) pa_nil)))
      (pss_one (ps_aug (i := 2) sc_fields_of.nd rfl (by first | exact Or.inl rfl | exact Or.inr rfl) (pe_op op_add pe_int (pe_ix ix_list (pv 0) (pv 2) (fun _ _ => rfl))) ip_add))))
      (pss_one (ps_ret (pv 1)))))), ?_⟩
    refine ⟨sz0, fun p hp => ?_⟩
    refine while_by (fun σ H' => ∃ D' acc i m rest done, σ = [some (.ref a), some (.ref p), some (nv i)] ∧ Own D H D' H' p (.lst acc) ∧ i ≤ r.length ∧ acc.length ≤ i ∧ VaflxbNeutral.texts? m (r.drop i) = some rest ∧ All2 (BL D') acc done ∧ done ++ rest = ts) (fun σ _ => r.length - slot2 σ) ⟨D, [], 0, n, ts, [], rfl, Own.mk' (Grow.refl hs) hp, Nat.zero_le _, Nat.le_refl _, hts, trivial, rfl⟩ ?_ ?_
    · rintro σ H' ⟨D', acc, i, m, rest, done, rfl, o, hi, hai, htx, z, hd⟩
      have ha' := o.g.s _ _ (o.g.d _ _ ha)
      refine ⟨_, rfl, _, rfl, _, r.length, rfl, .inl ⟨_, SqL.of ha', by simp⟩, _, _, rfl, rfl, _, rfl, ?_⟩
      by_cases hlt : i < r.length
      · rw [decide_eq_true (p := ((i : Nat) : Int) < ((r.length : Nat) : Int)) (by omega)]
        have hdr : r.drop i = r[i] :: r.drop (i + 1) := (List.drop_eq_getElem_cons hlt)
        rw [hdr] at htx
        obtain ⟨m', t, ts', rfl, h0, hk, e1, e2, rfl⟩ := texts_cons htx
        have hri : r[i]? = some (r[i]) := by simp [hlt]
        generalize hz : r[i] = z1 at *
        obtain ⟨kk, rfl⟩ : ∃ kk : Nat, z1 = (kk : Int) := ⟨z1.toNat, by omega⟩
        rw [Int.toNat_natCast] at hk e1 e2
        rw [List.length_drop] at hk
        refine iteT ⟨_, rfl, .inl ⟨rfl, _, SqL.of o.at_⟩, _, rfl, _, rfl, _, _, rfl, rfl, _, rfl, _, rfl, _, _, rfl, rfl, _, rfl, _, rfl, a, _, _, _, rfl, rfl, SqL.of ha', all_ints_at hri, _, _, rfl, rfl, _, rfl, a, _, rfl, SqL.of ha', fun q hq => ?_⟩
        have ecut : cutV (r.map V.int) (some (((i : Nat) : Int) + 1)) (some (((i : Nat) : Int) + 1 + ((kk : Nat) : Int))) = tv t := by
          rw [show ((i : Nat) : Int) + 1 = ((i + 1 : Nat) : Int) by omega, show ((i + 1 : Nat) : Int) + ((kk : Nat) : Int) = ((i + 1 + kk : Nat) : Int) by omega, cut_ints, show i + 1 + kk - (i + 1) = kk by omega, ← numbers_text e1]
          unfold Vaflxb.numbers
          rw [List.map_map]; rfl
        rw [ecut]
        have o2 := o.new (v := .lst (tv t)) hq
        have s2 : Sub D' (upd D' q (.lst (tv t))) := (Grow.fresh (M := []) o.g.s hq).d
        refine ⟨p, acc, .ref q, rfl, rfl, o2.at_, small_lt (by omega), ?_⟩
        have o3 := o2.set (u' := .lst (acc ++ [.ref q]))
        have ha3 := o3.g.s _ _ (o3.g.d _ _ ha)
        refine ⟨_, rfl, _, rfl, _, rfl, a, _, _, _, rfl, rfl, SqL.of ha3, all_ints_at hri, _, _, rfl, rfl, _, _, rfl, rfl, ?_, ?_⟩
        · refine ⟨_, acc ++ [.ref q], i + (1 + kk), m', ts', done ++ [t], ?_, o3, by omega, by rw [List.length_append]; simp; omega, ?_, ?_, ?_⟩
          · show [some (V.ref a), some (V.ref p), some (V.int (((i : Nat) : Int) + (1 + ((kk : Nat) : Int))))] = _
            rw [show ((i : Nat) : Int) + (1 + ((kk : Nat) : Int)) = ((i + (1 + kk) : Nat) : Int) by omega]
          · rw [List.drop_drop] at e2
            rw [show i + (1 + kk) = i + 1 + kk by omega]
            exact e2
          · exact (z.mono fun _ _ q => BL.mono s2 q).snoc ⟨q, rfl, upd_same⟩
          · rw [List.append_assoc]; exact hd
        · show r.length - (((i : Nat) : Int) + (1 + ((kk : Nat) : Int))).toNat < r.length - (((i : Nat) : Int)).toNat
          omega
      · rw [decide_eq_false (p := ((i : Nat) : Int) < ((r.length : Nat) : Int)) (by omega)]
        refine iteF ⟨_, rfl, ?_⟩
        rw [List.drop_eq_nil_of_le (by omega)] at htx
        have : rest = [] := by
          cases m <;> simp [VaflxbNeutral.texts?] at htx <;> exact htx
        subst this
        rw [List.append_nil] at hd
        subst hd
        obtain ⟨G, S, at1⟩ := Own.fin hs o
        exact k _ _ _ G ⟨p, acc, rfl, at1, z.mono fun _ _ q => BL.mono S q⟩
    · intro σ H Q Q' hq h
      obtain ⟨v1, h1, v2, h2, x, n, h3, h4, i, j, h5, h6, z, h7, h8⟩ := h
      exact ⟨v1, h1, v2, h2, x, n, h3, h4, i, j, h5, h6, z, h7, hq _ _ h8⟩
def sp_hold (w : World) (K : PySem.W.Frag) (CP CB CPs CPc CS CC : Addr) : Sp := fun vs H Q _ => ∃ D sh dh st nm x v h, vs = [.ref sh, nm, v] ∧ Sub D H ∧ ShelfD K w CP CB CPs CS D H sh dh st ∧ BL D nm x ∧ Vaflxb.isName x = true ∧ HeldAt K w CP CB CPs D v h ∧ wfH h ∧ ∀ D' H' r, Grow [dh] D H D' H' → ShelfD K w CP CB CPs CS D' H' sh dh (Vaflxb.hold st x h).1 → AL D' r (Vaflxb.hold st x h).2 → Q r H'
abbrev s_hold : Stmt := topS 86
theorem sc_hold : FnScope ["shelf", "name", "some"] ["shelf", "name", "some"] (defScope s_hold) := ⟨rfl, rfl, rfl, by decide +kernel, rfl, by decide +kernel, by decide +kernel⟩
theorem ok_hold (F : Fun K "hold" "hold" s_hold f fd) (T : Txt K mg CP CB CPs CPc CS CC)  : FnOk P w K mg base CX0 1 f fd ["shelf", "name", "some"] (sp_hold w K CP CB CPs CPc CS CC) := by
  refine F.ok sc_hold (fun vs H Q E h => ?_) (fun cdv A outer s H vs Q E hr h => ?_)
  · obtain ⟨_, _, _, _, _, _, _, _, rfl, _⟩ := h; rfl
  · obtain ⟨D, sh, dh, st, nm, x, v, h, rfl, hs, hsh, ⟨an, rfl, han⟩, hnm, hh, hwf, k⟩ := h
    refine ⟨_, (pss_cons (ps_if (PW.pt (pw_and (pt_cmpR (op_notInG hr.units) (pe_callTy call_tuple_of (by rfl) T.m_tuple b_tuple (pa_cons (pv 1) pa_nil)) (pe_fld (pv 0) rfl) (by rfl)) (pw_and1 (pt_cmpR op_ge (pe_callB call_lenG (by rfl) T.m_len b_len (pa_cons (pe_fld (pv 0) rfl) pa_nil)) (pe_const (by rfl) T.g_MOST_SETS) (nomark _))))) (pss_one (ps_ret (pe_lst (pa_cons (pe_const (by rfl) T.g_FULL) pa_nil)))) pss_nil)
      (pss_cons (ps_asg (pv 2) (pg_sub (pe_fld (pv 0) rfl) (pe_callTy call_tuple_of (by rfl) T.m_tuple b_tuple (pa_cons (pv 1) pa_nil)) (set_G hr.units)))
      (pss_one (ps_ret (pe_lst (pa_cons pe_int pa_nil)))))), ?_⟩
    obtain ⟨⟨dxs, hsD⟩, hnd, ⟨xs, ep, hat, z⟩, hok⟩ := id hsh
    refine ⟨_, rfl, an, _, rfl, .inl ⟨SqL.of (hs _ _ han), fun q hq => ?_⟩⟩
    have g1 := Grow.fresh (M := []) (u := .tup (tv x)) hs hq
    have hqk : BT K (upd D q (.tup (tv x))) (.ref q) x := ⟨q, rfl, SqT.of upd_same⟩
    have zl := z.length
    have hol := hok.len
    have hat1 := g1.h dh _ (by simp) hat
    have z1 : All2 (HEnt K w CP CB CPs (upd D q (.tup (tv x)))) xs st.held := z.mono fun _ _ q => HEnt.mono g1.d q
    refine ⟨_, rfl, sh, CS, dxs, _, .ref dh, rfl, g1.s _ _ (g1.d _ _ hsD), T.clS, T.nS, rfl, dh, xs, ep, kT x, ⟨rfl, hat1, GKeys.up g1.s (hent_keys z1), KeyOf.up g1.s hqk.key⟩, _, rfl, ?_⟩
    have hfull : ∀ (b : Bool), b = (!(getE xs (kT x)).isSome) → (Vaflxb.hold st x h = if b = true ∧ 20 ≤ xs.length then (st, [-3]) else ({ held := Vaflxb.put x h st.held }, [0])) := by
      intro b hb
      have hf : (Vaflxb.find st x).isNone = b := by
        unfold Vaflxb.find
        rw [hb]
        rcases held_get x z with ⟨h1, h2⟩ | ⟨v', p, h1, h2, _⟩
        · rw [h1, h2]; rfl
        · rw [h1, h2]; rfl
      unfold Vaflxb.hold
      rw [hf, zl]
      by_cases hc : 20 ≤ st.held.length
      · cases b with
        | true => rw [if_pos ⟨hc, rfl⟩, if_pos ⟨rfl, hc⟩]
        | false => rw [if_neg (fun z => absurd z.2 (by decide)), if_neg (fun z => absurd z.1 (by decide))]
      · rw [if_neg (fun z => hc z.1), if_neg (fun z => hc z.2)]
    -- it is held
    have put_it : ∀ (H1 : Hp) (D1 : Hp) (hne : ¬ ((!(getE xs (kT x)).isSome) = true ∧ 20 ≤ xs.length)), Grow [] D H D1 H1 → ∀ q2, H1 q2 = none → ∀ ep', ∀ r, (upd (upd H1 q2 (.tup (tv x))) dh (GD w dh (putE xs (kT x) (.ref q2) v) ep')) r = none →
        Q (.ref r) (upd (upd (upd H1 q2 (.tup (tv x))) dh (GD w dh (putE xs (kT x) (.ref q2) v) ep')) r (.lst [.int 0])) := by
      intro H1 D1 hne g q2 hq2 ep' r hr
      have hho := hfull _ rfl
      rw [if_neg hne] at hho
      rw [hho] at k
      have g2 := Grow.fresh (M := []) (u := .tup (tv x)) g.s hq2
      have G2 := (g.trans g2)
      have hdh := G2.keep (ne_none hat) hnd
      have G3 : Grow [dh] D H (upd D1 q2 (.tup (tv x))) (upd (upd H1 q2 (.tup (tv x))) dh (GD w dh (putE xs (kT x) (.ref q2) v) ep')) := G2.anyM.write (.inr (List.mem_singleton.mpr rfl)) hdh
      have g4 := Grow.fresh (M := [dh]) (u := .lst [V.int 0]) G3.s hr
      have ne : dh ≠ r := ne_of_none upd_same hr
      have d4 := G2.d.trans g4.d
      have kp := keys_put (x := x) (h := h) hok.nd
      refine k _ _ _ (G3.trans g4) ⟨⟨dxs, d4 _ _ hsD⟩, by rw [upd_ne ne]; exact hdh, ⟨_, ep', by rw [upd_ne ne]; exact upd_same, ?_⟩, ?_⟩ ⟨r, rfl, upd_same⟩
      · exact hent_put ⟨q2, rfl, SqT.up g4.d (SqT.of upd_same)⟩ (hh.mono d4) (z.mono fun _ _ q => HEnt.mono d4 q) hok.nd
      · refine ⟨kp.1, ?_, fun p hp => ?_⟩
        · show (Vaflxb.put x h st.held).length ≤ 20
          rcases held_get x z with ⟨h1, h2⟩ | ⟨v', p, h1, h2, _⟩
          · rw [kp.2.2.1 h2]
            rw [h1] at hne
            have : ¬ 20 ≤ xs.length := fun z => hne ⟨rfl, z⟩
            omega
          · rw [kp.2.2.2 (by rw [h2]; exact fun z => nomatch z)]; exact hol
        · rcases kp.2.1 p hp with rfl | hp
          · exact ⟨hnm, hwf⟩
          · exact hok.wf p hp
    cases hin : (getE xs (kT x)).isSome with
    | true =>
      refine iteF (iteF ?_)
      refine ⟨_, rfl, _, rfl, sh, CS, dxs, _, .ref dh, rfl, g1.s _ _ (g1.d _ _ hsD), T.clS, T.nS, rfl, _, rfl, an, _, rfl, .inl ⟨SqL.of (g1.s _ _ (g1.d _ _ han)), fun q2 hq2 => ?_⟩⟩
      have g2 := Grow.fresh (M := []) (u := .tup (tv x)) g1.s hq2
      refine ⟨dh, xs, ep, kT x, ⟨rfl, g2.h dh _ (by simp) hat1, GKeys.up (g2.d.trans g2.s) (hent_keys z1), KeyOf.up g2.s (BT.key ⟨q2, rfl, SqT.of upd_same⟩)⟩, small_lt (by omega), fun ep' => ⟨sz1, fun r hr => ?_⟩⟩
      exact put_it _ _ (by rw [hin]; exact fun z => absurd z.1 (by decide)) g1 q2 hq2 ep' r hr
    | false =>
      refine iteT ⟨_, rfl, sh, CS, dxs, _, .ref dh, rfl, g1.s _ _ (g1.d _ _ hsD), T.clS, T.nS, rfl, dh, xs, ep, rfl, hat1, _, _, rfl, rfl, _, rfl, ?_⟩
      by_cases hc : 20 ≤ xs.length
      · rw [decide_eq_true (p := (20 : Int) ≤ ((xs.length : Nat) : Int)) (by omega)]
        have hho := hfull _ rfl
        rw [hin, if_pos ⟨rfl, hc⟩] at hho
        rw [hho] at k
        refine iteT ⟨sz1, fun r hr => ?_⟩
        have g2 := Grow.fresh (M := []) (u := .lst [V.int (-3)]) g1.s hr
        exact k _ _ _ (g1.trans g2).anyM (hsh.grow (by simp) (g1.trans g2)) ⟨r, rfl, upd_same⟩
      · rw [decide_eq_false (p := (20 : Int) ≤ ((xs.length : Nat) : Int)) (by omega)]
        refine iteF ?_
        refine ⟨_, rfl, _, rfl, sh, CS, dxs, _, .ref dh, rfl, g1.s _ _ (g1.d _ _ hsD), T.clS, T.nS, rfl, _, rfl, an, _, rfl, .inl ⟨SqL.of (g1.s _ _ (g1.d _ _ han)), fun q2 hq2 => ?_⟩⟩
        have g2 := Grow.fresh (M := []) (u := .tup (tv x)) g1.s hq2
        refine ⟨dh, xs, ep, kT x, ⟨rfl, g2.h dh _ (by simp) hat1, GKeys.up (g2.d.trans g2.s) (hent_keys z1), KeyOf.up g2.s (BT.key ⟨q2, rfl, SqT.of upd_same⟩)⟩, small_lt (by omega), fun ep' => ⟨sz1, fun r hr => ?_⟩⟩
        exact put_it _ _ (by rw [hin]; exact fun z => hc z.2) g1 q2 hq2 ep' r hr
end
end Ps
set_option Elab.async false
set_option linter.all false
set_option maxRecDepth 100000
set_option maxHeartbeats 2000000
namespace Ps
open PySem PySem.Spec PyProof.Rows L2 Gd
def sizeH : Hd → Nat
  | .positions l => l.length
  | .pieces s => Vaflxb.countOf s
def leastTx : Hd → Option Tx
  | .positions l => (l.map Vaflxa.posText)[0]?
  | .pieces s => (Vaflxb.leastPiece s).map Vaflxa.pieceText
def ansLeast (h : Hd) : List Int := match leastTx h with
  | none => [-6]
  | some t => Vaflxb.textAnswer t
def ansItem (n : Int) : Hd → List Int
  | .positions l => Vaflxb.atIndex n (l.map Vaflxa.posText)
  | .pieces s => Vaflxb.itemAnswer n s
def hasH (t : Tx) : Hd → Bool
  | .positions l => l.any fun p => decide (Vaflxa.posText p = t)
  | .pieces s => hasS s t
def ansList : Hd → List Int
  | .positions l => Vaflxb.textAnswer (told (l.map Vaflxa.posText))
  | .pieces _ => [-4]
theorem told_le (m : Nat) : ∀ ts : List Tx, (∀ t ∈ ts, t.length ≤ m) → (told ts).length ≤ ts.length * (m + 1)
  | [], _ => by simp [told]
  | [t], h => by
    have := h t (by simp)
    simp [told, List.intercalate]; omega
  | t :: u :: ts, h => by
    have h1 := h t (by simp)
    have ih := told_le m (u :: ts) fun x hx => h x (List.mem_cons_of_mem _ hx)
    have e : told (t :: u :: ts) = t ++ 32 :: told (u :: ts) := by unfold told; simp [List.intercalate]
    rw [e, List.length_append, List.length_cons, List.length_cons, Nat.add_mul]
    omega
theorem told_le2 {m n : Nat} {ts : List Tx} (h : ∀ t ∈ ts, t.length ≤ m) (hn : ts.length ≤ n) (i : Nat) : (told (ts.take i)).length ≤ n * (m + 1) := by
  refine Nat.le_trans (told_le m (ts.take i) fun t ht => h t (List.mem_of_mem_take ht)) (Nat.mul_le_mul_right _ ?_)
  rw [List.length_take]; omega
theorem all2_map {α β γ δ : Type} {R : α → β → Prop} {S : γ → δ → Prop} (f : α → γ) (g : β → δ) (h : ∀ a b, R a b → S (f a) (g b)) : ∀ {as : List α} {bs : List β}, All2 R as bs → All2 S (as.map f) (bs.map g)
  | [], [], _ => trivial
  | _ :: _, _ :: _, ⟨h1, h2⟩ => ⟨h _ _ h1, all2_map f g h h2⟩
  | [], _ :: _, z => z.elim
  | _ :: _, [], z => z.elim
theorem pos_texts {l : List Pos} (hw : wfL l) : (∀ t ∈ l.map Vaflxa.posText, t ≠ []) ∧ (∀ t ∈ l.map Vaflxa.posText, t.length ≤ 10) ∧ (l.map Vaflxa.posText).length ≤ 34 := by
  refine ⟨fun t ht => ?_, fun t ht => ?_, by rw [List.length_map]; exact hw.len⟩
  · rw [List.mem_map] at ht
    obtain ⟨p, _, rfl⟩ := ht
    cases p <;> simp [Vaflxa.posText]
  · rw [List.mem_map] at ht
    obtain ⟨p, hp, rfl⟩ := ht
    exact pos_len (hw.wf p hp)
theorem zero_cat (t : Tx) : ([.int 0] : List V) ++ tv t = (Vaflxb.textAnswer t).map V.int := by
  unfold Vaflxb.textAnswer Vaflxb.numbers tv
  rw [List.map_cons, List.map_map]; rfl
section
variable {P : Program} {w : World} {K : PySem.W.Frag} {mg : Str → Option Value} {base : Heap} {CP CB CPs CPc CS CC : Addr} {f : Addr} {fd : FuncData}
def sp_asked (w : World) (K : PySem.W.Frag) (CP CB CPs CPc CS CC : Addr) : Sp := fun vs H Q _ => ∃ D sh dh st nm x, vs = [.ref sh, nm] ∧ Sub D H ∧ ShelfD K w CP CB CPs CS D H sh dh st ∧ BL D nm x ∧ (Vaflxb.find st x = none → ∀ D' H', Grow [] D H D' H' → Q .non H') ∧ (∀ h, Vaflxb.find st x = some h → wfH h → ∀ D' H' v, Grow [] D H D' H' → HeldAt K w CP CB CPs D' v h → Q v H')
abbrev s_asked : Stmt := topS 101
theorem sc_asked : FnScope ["shelf", "name"] ["shelf", "name"] (defScope s_asked) := ⟨rfl, rfl, rfl, by decide +kernel, rfl, by decide +kernel, by decide +kernel⟩
theorem ok_asked (F : Fun K "asked" "asked" s_asked f fd) (T : Txt K mg CP CB CPs CPc CS CC)  : FnOk P w K mg base CX0 1 f fd ["shelf", "name"] (sp_asked w K CP CB CPs CPc CS CC) := by
  refine F.ok sc_asked (fun vs H Q E h => ?_) (fun cdv A outer s H vs Q E hr h => ?_)
  · obtain ⟨_, _, _, _, _, _, rfl, _⟩ := h; rfl
  · obtain ⟨D, sh, dh, st, nm, x, rfl, hs, hsh, ⟨an, rfl, han⟩, k0, k1⟩ := h
    refine ⟨_, (pss_one (ps_ret (pe_bmG PySem.F.slot_dict_get PySem.F.type_dict_get (mt_getG1 hr.units) (pe_fld (pv 0) rfl) (pa_cons (pe_callTy call_tuple_of (by rfl) T.m_tuple b_tuple (pa_cons (pv 1) pa_nil)) pa_nil)))), ?_⟩
    obtain ⟨⟨dxs, hsD⟩, hnd, ⟨xs, ep, hat, z⟩, hok⟩ := id hsh
    refine ⟨_, rfl, sh, CS, dxs, _, .ref dh, rfl, hs _ _ hsD, T.clS, T.nS, rfl, ⟨dh, xs, ep, rfl, hat⟩, _, rfl, an, _, rfl, .inl ⟨SqL.of (hs _ _ han), fun q hq => ?_⟩⟩
    have g1 := Grow.fresh (M := []) (u := .tup (tv x)) hs hq
    have hqk : BT K (upd D q (.tup (tv x))) (.ref q) x := ⟨q, rfl, SqT.of upd_same⟩
    refine ⟨_, dh, xs, ep, kT x, rfl, ⟨rfl, g1.h dh _ (by simp) hat, GKeys.up (g1.d.trans g1.s) (hent_keys z), KeyOf.up g1.s hqk.key⟩, ?_⟩
    rcases held_get x z with ⟨h1, h2⟩ | ⟨v', p, h1, h2, h3⟩
    · rw [h1]
      exact k0 (by unfold Vaflxb.find; rw [h2]; rfl) _ _ g1
    · rw [h1]
      exact k1 p.2 (by unfold Vaflxb.find; rw [h2]; rfl) (hok.wf p (List.mem_of_find?_eq_some h2)).2 _ _ _ g1 (h3.mono g1.d)
def sp_names (w : World) (K : PySem.W.Frag) (CP CB CPs CPc CS CC : Addr) : Sp := fun vs H Q _ => ∃ D sh dh st, vs = [.ref sh] ∧ Sub D H ∧ ShelfD K w CP CB CPs CS D H sh dh st ∧ ∀ D' H' r, Grow [] D H D' H' → AL D' r (Vaflxb.textAnswer (told (st.held.map (·.1)))) → Q r H'
abbrev s_names : Stmt := topS 100
theorem sc_names : FnScope ["shelf"] ["shelf"] (defScope s_names) := ⟨rfl, rfl, rfl, by decide +kernel, rfl, by decide +kernel, by decide +kernel⟩
theorem ok_names (F : Fun K "names" "names" s_names f fd) (T : Txt K mg CP CB CPs CPc CS CC) (C_texts_told : Def P w K mg base 1 "texts_told" ["texts"] (sp_texts_told w K CP CB CPs CPc CS CC)) : FnOk P w K mg base CX0 2 f fd ["shelf"] (sp_names w K CP CB CPs CPc CS CC) := by
  refine F.ok sc_names (fun vs H Q E h => ?_) (fun cdv A outer s H vs Q E hr h => ?_)
  · obtain ⟨_, _, _, _, rfl, _⟩ := h; rfl
  · obtain ⟨D, sh, dh, st, rfl, hs, hsh, k⟩ := h
    refine ⟨_, (pss_one (ps_ret (pe_op op_cat (pe_lst (pa_cons pe_int pa_nil)) (pe_callD C_texts_told (hr.mono (by decide)) (by rfl) (pa_cons (pe_callTy (call_listG rfl) (by rfl) T.m_list b_list (pa_cons (pe_fld (pv 0) rfl) pa_nil)) pa_nil))))), ?_⟩
    obtain ⟨⟨dxs, hsD⟩, hnd, ⟨xs, ep, hat, z⟩, hok⟩ := id hsh
    refine ⟨sz1, fun p hp => ?_⟩
    have g1 := Grow.fresh (M := []) (u := .lst [V.int 0]) hs hp
    refine ⟨_, rfl, sh, CS, dxs, _, .ref dh, rfl, g1.s _ _ (g1.d _ _ hsD), T.clS, T.nS, rfl, dh, xs, ep, rfl, g1.h dh _ (by simp) hat, fun q hq => ?_⟩
    have g2 := Grow.fresh (M := []) (u := .lst (xs.map (·.2.1))) g1.s hq
    have hnl : ∀ t ∈ st.held.map (·.1), 1 ≤ t.length ∧ t.length ≤ 12 := fun t ht => by
      rw [List.mem_map] at ht
      obtain ⟨p, hp, rfl⟩ := ht
      have := (hok.wf p hp).1
      rw [name_eq, Bool.and_eq_true, Bool.and_eq_true, decide_eq_true_eq, decide_eq_true_eq] at this
      exact ⟨this.1, this.2.1⟩
    have hlen : ∀ i, (told ((st.held.map (·.1)).take i)).length ≤ 20 * 13 := told_le2 (fun t ht => (hnl t ht).2) (by rw [List.length_map]; exact hok.len)
    refine ⟨_, st.held.map (fun p : Tx × Hd => p.1), .ref q, rfl, g2.s, ⟨q, _, rfl, upd_same, all2_map (R := HEnt K w CP CB CPs D) (fun e : Ent => e.2.1) (fun p : Tx × Hd => p.1) (fun e p h => h.2.1.mono (g1.d.trans g2.d)) z⟩, fun t ht e => (by have := (hnl t ht).1; rw [e] at this; cases this), fun i => Nat.le_trans (hlen i) (by decide), fun t ht => Nat.le_trans (hnl t ht).2 (by decide), fun D3 H3 r3 g3 b3 => ?_⟩
    obtain ⟨a3, rfl, e3⟩ := b3
    have h1 := hlen (st.held.map (·.1)).length
    rw [List.take_length] at h1
    have h1' : (tv (told (st.held.map fun p : Tx × Hd => p.1))).length ≤ 20 * 13 := by rw [List.length_map]; exact h1
    refine ⟨p, a3, _, _, rfl, rfl, g3.s _ _ (g3.d _ _ (g2.d _ _ upd_same)), g3.s _ _ e3, small_le (Nat.le_trans (Nat.add_le_add_left h1' 1) (by decide)), fun r hr => ?_⟩
    rw [zero_cat]
    have g4 := Grow.fresh (M := []) (u := .lst ((Vaflxb.textAnswer (told (st.held.map (·.1)))).map V.int)) g3.s hr
    exact k _ _ _ (((g1.trans g2).trans g3).trans g4) ⟨r, rfl, upd_same⟩
def sp_set_size (w : World) (K : PySem.W.Frag) (CP CB CPs CPc CS CC : Addr) : Sp := fun vs H Q _ => ∃ D v h, vs = [v] ∧ Sub D H ∧ HeldAt K w CP CB CPs D v h ∧ wfH h ∧ ∀ H', Same H H' → Q (nv (sizeH h)) H'
abbrev s_set_size : Stmt := topS 90
theorem sc_set_size : FnScope ["some"] ["some"] (defScope s_set_size) := ⟨rfl, rfl, rfl, by decide +kernel, rfl, by decide +kernel, by decide +kernel⟩
theorem ok_set_size (F : Fun K "set_size" "set_size" s_set_size f fd) (T : Txt K mg CP CB CPs CPc CS CC) (C_is_pieces : Def P w K mg base 1 "is_pieces" ["some"] (sp_is_pieces w K CP CB CPs CPc CS CC)) (C_size_of : Def P w K mg base 2 "size_of" ["pieces"] (sp_size_of w K CP CB CPs CPc CS CC)) : FnOk P w K mg base CX0 3 f fd ["some"] (sp_set_size w K CP CB CPs CPc CS CC) := by
  refine F.ok sc_set_size (fun vs H Q E h => ?_) (fun cdv A outer s H vs Q E hr h => ?_)
  · obtain ⟨_, _, _, rfl, _⟩ := h; rfl
  · obtain ⟨D, v, h, rfl, hs, hh, hw, k⟩ := h
    refine ⟨_, (pss_cons (ps_if (pt_val (pe_callD C_is_pieces (hr.mono (by decide)) (by rfl) (pa_cons (pv 0) pa_nil))) (pss_one (ps_ret (pe_callD C_size_of (hr.mono (by decide)) (by rfl) (pa_cons (pv 0) pa_nil)))) pss_nil)
      (pss_one (ps_ret (pe_callB call_lenG (by rfl) T.m_len b_len (pa_cons (pv 0) pa_nil))))), ?_⟩
    refine ⟨_, rfl, D, v, h, rfl, hs, hh, _, rfl, ?_⟩
    cases h with
    | positions l =>
      obtain ⟨d, xs, ep, rfl, hd, z⟩ := hh
      refine iteF ⟨_, rfl, d, xs, ep, rfl, hs _ _ hd, ?_⟩
      rw [z.length]
      exact k _ (fun _ _ e => e)
    | pieces s => exact iteT ⟨_, rfl, D, s, v, rfl, hs, hh, hw.b, Nat.le_trans hw.len (by decide), k⟩
def sp_least_text (w : World) (K : PySem.W.Frag) (CP CB CPs CPc CS CC : Addr) : Sp := fun vs H Q _ => ∃ D v h, vs = [v] ∧ Sub D H ∧ HeldAt K w CP CB CPs D v h ∧ wfH h ∧ (leastTx h = none → ∀ D' H', Grow [] D H D' H' → Q .non H') ∧ (∀ t, leastTx h = some t → ∀ D' H' r, Grow [] D H D' H' → BT K D' r t → Q r H')
abbrev s_least_text : Stmt := topS 91
theorem sc_least_text : FnScope ["some", "piece"] ["some"] (defScope s_least_text) := ⟨rfl, rfl, rfl, by decide +kernel, rfl, by decide +kernel, by decide +kernel⟩
theorem ok_least_text (F : Fun K "least_text" "least_text" s_least_text f fd) (T : Txt K mg CP CB CPs CPc CS CC) (C_is_pieces : Def P w K mg base 1 "is_pieces" ["some"] (sp_is_pieces w K CP CB CPs CPc CS CC)) (C_least_piece : Def P w K mg base 5 "least_piece" ["pieces"] (sp_least_piece w K CP CB CPs CPc CS CC)) : FnOk P w K mg base CX0 6 f fd ["some"] (sp_least_text w K CP CB CPs CPc CS CC) := by
  refine F.ok sc_least_text (fun vs H Q E h => ?_) (fun cdv A outer s H vs Q E hr h => ?_)
  · obtain ⟨_, _, _, rfl, _⟩ := h; rfl
  · obtain ⟨D, v, h, rfl, hs, hh, hw, k0, k1⟩ := h
    refine ⟨_, (pss_cons (ps_if (pt_not (pt_val (pe_callD C_is_pieces (hr.mono (by decide)) (by rfl) (pa_cons (pv 0) pa_nil)))) (pss_one (ps_ret (pe_ix ix_list (pe_op op_cat (pe_callTy (call_listG rfl) (by rfl) T.m_list b_list (pa_cons (pv 0) pa_nil)) (pe_lst (pa_cons pe_non pa_nil))) pe_int (fun _ _ => rfl)))) pss_nil)
      (pss_cons (ps_set (i := 1) sc_least_text.nd rfl (by first | exact Or.inl rfl | exact Or.inr rfl) (pe_callD C_least_piece (hr.mono (by decide)) (by rfl) (pa_cons (pv 0) pa_nil)))
      (pss_cons (ps_if (pt_cmpR op_isN (pv 1) pe_non (nomark _)) (pss_one (ps_ret pe_non)) pss_nil)
      (pss_one (ps_ret (pe_fld (pv 1) rfl)))))), ?_⟩
    refine ⟨_, rfl, D, v, h, rfl, hs, hh, _, rfl, ?_⟩
    cases h with
    | positions l =>
      obtain ⟨d, xs, ep, rfl, hd, z⟩ := hh
      have hll := hw.len
      have zl := z.length
      refine iteT ⟨_, rfl, d, xs, ep, rfl, hs _ _ hd, fun p hp => ⟨sz1, fun q hq => ?_⟩⟩
      have g1 : Grow [] D H D (upd H p (.lst (xs.map (·.2.1)))) := (Grow.refl hs).tmp hp
      have g2 : Grow [] D _ D (upd (upd H p (.lst (xs.map (·.2.1)))) q (.lst [.non])) := (Grow.refl g1.s).tmp hq
      have ne : p ≠ q := ne_of_none upd_same hq
      refine ⟨p, q, _, _, rfl, rfl, by rw [upd_ne ne]; exact upd_same, upd_same, small_le (by simp; omega), fun r hr => ?_⟩
      have g3 : Grow [] D _ D (upd (upd (upd H p (.lst (xs.map (·.2.1)))) q (.lst [.non])) r (.lst (xs.map (·.2.1) ++ [.non]))) := (Grow.refl g2.s).tmp hr
      have G := (g1.trans g2).trans g3
      cases xs with
      | nil =>
        have e0 : l = [] := List.length_eq_zero_iff.mp zl.symm
        subst e0
        exact ⟨r, _, 0, .non, rfl, rfl, SqL.of upd_same, (show atI _ ((0 : Nat) : Int) = _ from atI_nat rfl), k0 rfl _ _ G⟩
      | cons e xs =>
        cases l with
        | nil => exact z.elim
        | cons p0 l =>
          exact ⟨r, _, 0, e.2.1, rfl, rfl, SqL.of upd_same, (show atI _ ((0 : Nat) : Int) = _ from atI_nat rfl), k1 _ rfl _ _ _ G (z.1.2.1)⟩
    | pieces s =>
      refine iteF ⟨_, rfl, D, s, v, rfl, hs, hh, hw.b, fun t ht => (hw.c t ht).2.1, hw.count, fun hn D' H' g => ?_, fun x hx D' H' r g b => ?_⟩
      · exact ⟨_, rfl, rfl, _, rfl, iteT (k0 (by show (Vaflxb.leastPiece s).map _ = _; rw [hn]; rfl) _ _ g)⟩
      · obtain ⟨a, dx, tt, rfl, ha, htt⟩ := b
        exact ⟨_, rfl, rfl, _, rfl, iteF ⟨_, rfl, a, CPc, dx, _, tt, rfl, g.s _ _ ha, T.clPc, T.nPc _ (by simp), (lookup_pieceFs tt x).1, k1 _ (by show (Vaflxb.leastPiece s).map _ = _; rw [hx]; rfl) _ _ _ g htt⟩⟩
end
theorem leastIn_mem : ∀ (l : List Pc) (x : Pc), Vaflxb.leastIn l = some x → x ∈ l := by
  have key : ∀ (l : List Pc) (m : Option Pc) (x : Pc), l.foldl (fun (m : Option Pc) x => match m with | none => some x | some y => if Vaflxa.pieceAhead x y = true then some x else m) m = some x → x ∈ l ∨ m = some x := by
    intro l
    induction l with
    | nil => intro m x h; exact .inr h
    | cons a l ih =>
      intro m x h
      rw [List.foldl_cons] at h
      rcases ih _ x h with h | h
      · exact .inl (List.mem_cons_of_mem _ h)
      · cases m with
        | none => cases h; exact .inl List.mem_cons_self
        | some y =>
          by_cases hc : Vaflxa.pieceAhead a y = true
          · have h : (if Vaflxa.pieceAhead a y = true then some a else some y) = some x := h
            rw [if_pos hc] at h; cases h; exact .inl List.mem_cons_self
          · have h : (if Vaflxa.pieceAhead a y = true then some a else some y) = some x := h
            rw [if_neg hc] at h; exact .inr h
  intro l x h
  rcases key l none x h with h | h
  · exact h
  · cases h
theorem part_len {b : Bx} (hw : wfB b) {p q : Pos} (hp : p ∈ b.left) (hq : q ∈ b.right) : (Vaflxa.pieceText (.sub b.field p q b.case_)).length ≤ 1000 := by
  have h1 := dec_le b.field (Nat.le_trans hw.f2 (by decide))
  have h2 := pos_len (hw.l.wf p hp)
  have h3 := pos_len (hw.r.wf q hq)
  have h4 : (Vaflxa.caseText b.case_).length ≤ 1 := by cases b.case_ <;> decide
  simp [Vaflxa.pieceText]
  omega
theorem quoted_len (t : Tx) : (Vaflxa.quoted t).length ≤ 2 + 2 * t.length := by
  unfold Vaflxa.quoted
  have : (t.flatMap fun c => if c = 34 then [34, 34] else [c]).length ≤ 2 * t.length := by
    induction t with
    | nil => simp
    | cons c t ih =>
      rw [List.flatMap_cons, List.length_append, List.length_cons]
      have : (if c = 34 then [34, 34] else [c] : Tx).length ≤ 2 := by split <;> simp
      omega
  simp only [List.length_cons, List.length_append, List.length_nil]
  omega
theorem all_len {s : Pcs} (hw : wfS s) : ∀ x ∈ Vaflxb.constPieces s ++ s.boxes.flatMap allP, (Vaflxa.pieceText x).length ≤ 1000 := by
  intro x hx
  rw [List.mem_append] at hx
  rcases hx with hx | hx
  · unfold Vaflxb.constPieces at hx
    cases hc : s.const with
    | none => rw [hc] at hx; exact nomatch hx
    | some t =>
      rw [hc] at hx
      simp at hx
      subst hx
      have h1 := quoted_len t
      have h2 := (hw.c t hc).2.1
      show (Vaflxa.quoted t).length ≤ 1000
      omega
  · rw [List.mem_flatMap] at hx
    obtain ⟨b, hb, hx⟩ := hx
    unfold allP partsP at hx
    rw [List.mem_flatMap] at hx
    obtain ⟨p, hp, hx⟩ := hx
    rw [List.mem_map] at hx
    obtain ⟨q, hq, rfl⟩ := hx
    exact part_len (hw.b b hb) hp hq
theorem cheap_all (s : Pcs) : ∀ x ∈ Vaflxb.constPieces s ++ s.boxes.flatMap cheapP, x ∈ Vaflxb.constPieces s ++ s.boxes.flatMap allP := by
  intro x hx
  rw [List.mem_append] at hx ⊢
  rcases hx with hx | hx
  · exact .inl hx
  · right
    rw [List.mem_flatMap] at hx ⊢
    obtain ⟨b, hb, hx⟩ := hx
    refine ⟨b, hb, ?_⟩
    unfold cheapP partsP at hx
    unfold allP partsP
    rw [List.mem_flatMap] at hx ⊢
    obtain ⟨p, hp, hx⟩ := hx
    refine ⟨p, cheap_sub hp, ?_⟩
    rw [List.mem_map] at hx ⊢
    obtain ⟨q, hq, rfl⟩ := hx
    exact ⟨q, cheap_sub hq, rfl⟩
theorem text_len {h : Hd} (hw : wfH h) {t : Tx} (e : leastTx h = some t) : t.length ≤ 1000 := by
  cases h with
  | positions l =>
    have := pos_texts hw
    exact Nat.le_trans (this.2.1 t (List.mem_of_getElem? e)) (by decide)
  | pieces s =>
    have e : (Vaflxb.leastPiece s).map Vaflxa.pieceText = some t := e
    cases hx : Vaflxb.leastPiece s with
    | none => rw [hx] at e; cases e
    | some x =>
      rw [hx] at e; cases e
      exact all_len hw x (cheap_all s x (leastIn_mem _ x hx))
section
variable {P : Program} {w : World} {K : PySem.W.Frag} {mg : Str → Option Value} {base : Heap} {CP CB CPs CPc CS CC : Addr} {f : Addr} {fd : FuncData}
def sp_least (w : World) (K : PySem.W.Frag) (CP CB CPs CPc CS CC : Addr) : Sp := fun vs H Q _ => ∃ D v h, vs = [v] ∧ Sub D H ∧ HeldAt K w CP CB CPs D v h ∧ wfH h ∧ ∀ D' H' r, Grow [] D H D' H' → AL D' r (ansLeast h) → Q r H'
abbrev s_least : Stmt := topS 92
theorem sc_least : FnScope ["some", "text"] ["some"] (defScope s_least) := ⟨rfl, rfl, rfl, by decide +kernel, rfl, by decide +kernel, by decide +kernel⟩
theorem ok_least (F : Fun K "least" "least" s_least f fd) (T : Txt K mg CP CB CPs CPc CS CC) (C_least_text : Def P w K mg base 6 "least_text" ["some"] (sp_least_text w K CP CB CPs CPc CS CC)) : FnOk P w K mg base CX0 7 f fd ["some"] (sp_least w K CP CB CPs CPc CS CC) := by
  refine F.ok sc_least (fun vs H Q E h => ?_) (fun cdv A outer s H vs Q E hr h => ?_)
  · obtain ⟨_, _, _, rfl, _⟩ := h; rfl
  · obtain ⟨D, v, h, rfl, hs, hh, hw, k⟩ := h
    refine ⟨_, (pss_cons (ps_set (i := 1) sc_least.nd rfl (by first | exact Or.inl rfl | exact Or.inr rfl) (pe_callD C_least_text (hr.mono (by decide)) (by rfl) (pa_cons (pv 0) pa_nil)))
      (pss_cons (ps_if (pt_cmpR op_isN (pv 1) pe_non (nomark _)) (pss_one (ps_ret (pe_lst (pa_cons (pe_const (by rfl) T.g_NOT_THERE) pa_nil)))) pss_nil)
      (pss_one (ps_ret (pe_op op_cat (pe_lst (pa_cons pe_int pa_nil)) (pe_callTy call_list_of (by rfl) T.m_list b_list (pa_cons (pv 1) pa_nil))))))), ?_⟩
    refine ⟨_, rfl, D, v, h, rfl, hs, hh, hw, fun hn D' H' g => ?_, fun t ht D' H' r g b => ?_⟩
    · refine ⟨_, rfl, rfl, _, rfl, iteT ⟨sz1, fun p hp => ?_⟩⟩
      have g2 := Grow.fresh (M := []) (u := .lst [V.int (-6)]) g.s hp
      unfold ansLeast at k
      rw [hn] at k
      exact k _ _ _ (g.trans g2) ⟨p, rfl, upd_same⟩
    · obtain ⟨a, rfl, ha⟩ := b
      have hl := text_len hw ht
      refine ⟨_, rfl, rfl, _, rfl, iteF ⟨sz1, fun p hp => ?_⟩⟩
      have g2 := Grow.fresh (M := []) (u := .lst [V.int 0]) g.s hp
      refine ⟨_, rfl, a, _, rfl, .inr (SqT.up g2.s (SqT.up g2.d ha)), fun q hq => ?_⟩
      have g3 := Grow.fresh (M := []) (u := .lst (tv t)) g2.s hq
      refine ⟨p, q, _, _, rfl, rfl, g3.s _ _ (g3.d _ _ upd_same), upd_same, small_le (by simp; omega), fun r hr => ?_⟩
      rw [zero_cat]
      have g4 := Grow.fresh (M := []) (u := .lst ((Vaflxb.textAnswer t).map V.int)) g3.s hr
      unfold ansLeast at k
      rw [ht] at k
      exact k _ _ _ (((g.trans g2).trans g3).trans g4) ⟨r, rfl, upd_same⟩
def sp_list_of (w : World) (K : PySem.W.Frag) (CP CB CPs CPc CS CC : Addr) : Sp := fun vs H Q _ => ∃ D v h, vs = [v] ∧ Sub D H ∧ HeldAt K w CP CB CPs D v h ∧ wfH h ∧ ∀ D' H' r, Grow [] D H D' H' → AL D' r (ansList h) → Q r H'
abbrev s_list_of : Stmt := topS 95
theorem sc_list_of : FnScope ["some"] ["some"] (defScope s_list_of) := ⟨rfl, rfl, rfl, by decide +kernel, rfl, by decide +kernel, by decide +kernel⟩
theorem ok_list_of (F : Fun K "list_of" "list_of" s_list_of f fd) (T : Txt K mg CP CB CPs CPc CS CC) (C_is_pieces : Def P w K mg base 1 "is_pieces" ["some"] (sp_is_pieces w K CP CB CPs CPc CS CC)) (C_texts_told : Def P w K mg base 1 "texts_told" ["texts"] (sp_texts_told w K CP CB CPs CPc CS CC)) : FnOk P w K mg base CX0 2 f fd ["some"] (sp_list_of w K CP CB CPs CPc CS CC) := by
  refine F.ok sc_list_of (fun vs H Q E h => ?_) (fun cdv A outer s H vs Q E hr h => ?_)
  · obtain ⟨_, _, _, rfl, _⟩ := h; rfl
  · obtain ⟨D, v, h, rfl, hs, hh, hw, k⟩ := h
    refine ⟨_, (pss_cons (ps_if (pt_val (pe_callD C_is_pieces (hr.mono (by decide)) (by rfl) (pa_cons (pv 0) pa_nil))) (pss_one (ps_ret (pe_lst (pa_cons (pe_const (by rfl) T.g_WRONG_SORT) pa_nil)))) pss_nil)
      (pss_one (ps_ret (pe_op op_cat (pe_lst (pa_cons pe_int pa_nil)) (pe_callD C_texts_told (hr.mono (by decide)) (by rfl) (pa_cons (pe_callTy (call_listG rfl) (by rfl) T.m_list b_list (pa_cons (pv 0) pa_nil)) pa_nil)))))), ?_⟩
    refine ⟨_, rfl, D, v, h, rfl, hs, hh, _, rfl, ?_⟩
    cases h with
    | pieces s =>
      refine iteT ⟨sz1, fun p hp => ?_⟩
      have g2 := Grow.fresh (M := []) (u := .lst [V.int (-4)]) hs hp
      exact k _ _ _ g2 ⟨p, rfl, upd_same⟩
    | positions l =>
      obtain ⟨d, xs, ep, rfl, hd, z⟩ := hh
      obtain ⟨t1, t2, t3⟩ := pos_texts hw
      have hlen := told_le2 t2 t3
      refine iteF ⟨sz1, fun p hp => ?_⟩
      have g1 := Grow.fresh (M := []) (u := .lst [V.int 0]) hs hp
      refine ⟨_, rfl, d, xs, ep, rfl, g1.s _ _ (g1.d _ _ hd), fun q hq => ?_⟩
      have g2 := Grow.fresh (M := []) (u := .lst (xs.map (·.2.1))) g1.s hq
      refine ⟨_, l.map Vaflxa.posText, .ref q, rfl, g2.s, ⟨q, _, rfl, upd_same, all2_map (R := EntP K CP D) (fun e : Ent => e.2.1) Vaflxa.posText (fun e p h => h.2.1.mono (g1.d.trans g2.d)) z⟩, t1, fun i => Nat.le_trans (hlen i) (by decide), fun t ht => Nat.le_trans (t2 t ht) (by decide), fun D3 H3 r3 g3 b3 => ?_⟩
      obtain ⟨a3, rfl, e3⟩ := b3
      have h1 := hlen (l.map Vaflxa.posText).length
      rw [List.take_length] at h1
      refine ⟨p, a3, _, _, rfl, rfl, g3.s _ _ (g3.d _ _ (g2.d _ _ upd_same)), g3.s _ _ e3, small_le (by simp; omega), fun r hr => ?_⟩
      rw [zero_cat]
      have g4 := Grow.fresh (M := []) (u := .lst ((Vaflxb.textAnswer (told (l.map Vaflxa.posText))).map V.int)) g3.s hr
      exact k _ _ _ (((g1.trans g2).trans g3).trans g4) ⟨r, rfl, upd_same⟩
def sp_has (w : World) (K : PySem.W.Frag) (CP CB CPs CPc CS CC : Addr) : Sp := fun vs H Q _ => ∃ D v h nm t, vs = [v, nm] ∧ Sub D H ∧ HeldAt K w CP CB CPs D v h ∧ wfH h ∧ BL D nm t ∧ t.length ≤ 100000 ∧ ∀ D' H' r, Grow [] D H D' H' → AL D' r [0, if hasH t h = true then 1 else 0] → Q r H'
abbrev s_has : Stmt := topS 94
theorem sc_has : FnScope ["some", "text"] ["some", "text"] (defScope s_has) := ⟨rfl, rfl, rfl, by decide +kernel, rfl, by decide +kernel, by decide +kernel⟩
theorem ok_has (F : Fun K "has" "has" s_has f fd) (T : Txt K mg CP CB CPs CPc CS CC) (C_has_piece : Def P w K mg base 4 "has_piece" ["pieces", "text"] (sp_has_piece w K CP CB CPs CPc CS CC)) (C_is_pieces : Def P w K mg base 1 "is_pieces" ["some"] (sp_is_pieces w K CP CB CPs CPc CS CC)) : FnOk P w K mg base CX0 5 f fd ["some", "text"] (sp_has w K CP CB CPs CPc CS CC) := by
  refine F.ok sc_has (fun vs H Q E h => ?_) (fun cdv A outer s H vs Q E hr h => ?_)
  · obtain ⟨_, _, _, _, _, rfl, _⟩ := h; rfl
  · obtain ⟨D, v, h, nm, t, rfl, hs, hh, hw, ⟨an, rfl, han⟩, htl, k⟩ := h
    refine ⟨_, (pss_cons (ps_if (pt_val (pe_callD C_is_pieces (hr.mono (by decide)) (by rfl) (pa_cons (pv 0) pa_nil))) (pss_one (ps_ret (pe_lst (pa_cons pe_int (pa_cons (pe_callTy call_int1 (by rfl) T.m_int b_int (pa_cons (pe_callD C_has_piece (hr.mono (by decide)) (by rfl) (pa_cons (pv 0) (pa_cons (pe_callTy call_tuple_of (by rfl) T.m_tuple b_tuple (pa_cons (pv 1) pa_nil)) pa_nil))) pa_nil)) pa_nil))))) pss_nil)
      (pss_one (ps_ret (pe_lst (pa_cons pe_int (pa_cons (pe_callTy call_int1 (by rfl) T.m_int b_int (pa_cons (pe_cmpR (op_inG hr.units) (pe_callTy call_tuple_of (by rfl) T.m_tuple b_tuple (pa_cons (pv 1) pa_nil)) (pv 0) (by rfl)) pa_nil)) pa_nil)))))), ?_⟩
    refine ⟨_, rfl, D, v, h, rfl, hs, hh, _, rfl, ?_⟩
    cases h with
    | pieces s =>
      refine iteT ⟨_, rfl, _, rfl, an, _, rfl, .inl ⟨SqL.of (hs _ _ han), fun q hq => ?_⟩⟩
      have g1 := Grow.fresh (M := []) (u := .tup (tv t)) hs hq
      refine ⟨_, s, t, v, .ref q, rfl, g1.s, PcsAt.mono g1.d hh, hw.b, fun t ht => (hw.c t ht).2.1, Nat.le_trans hw.len (by decide), ⟨q, rfl, SqT.of upd_same⟩, htl, fun H2 hH2 => .inr ⟨_, rfl, sz2, fun p hp => ?_⟩⟩
      have g2 := Grow.of_same (M := []) g1.s hH2
      have g3 := Grow.fresh (M := []) (u := .lst [V.int 0, V.int (if hasS s t = true then 1 else 0)]) g2.s hp
      exact k _ _ _ ((g1.trans g2).trans g3) ⟨p, rfl, upd_same⟩
    | positions l =>
      obtain ⟨d, xs, ep, rfl, hd, z⟩ := hh
      refine iteF ⟨_, rfl, an, _, rfl, .inl ⟨SqL.of (hs _ _ han), fun q hq => ?_⟩⟩
      have g1 := Grow.fresh (M := []) (u := .tup (tv t)) hs hq
      refine ⟨_, rfl, d, xs, ep, kT t, ⟨rfl, g1.s _ _ (g1.d _ _ hd), GKeys.up (g1.d.trans g1.s) (gkeys_of z), KeyOf.up g1.s (BT.key ⟨q, rfl, SqT.of upd_same⟩)⟩, .inr ⟨_, rfl, sz2, fun p hp => ?_⟩⟩
      rw [isSome_any z]
      have g3 := Grow.fresh (M := []) (u := .lst [V.int 0, V.int (if (l.any fun q => decide (Vaflxa.posText q = t)) = true then 1 else 0)]) g1.s hp
      exact k _ _ _ (g1.trans g3) ⟨p, rfl, upd_same⟩
end
end Ps
set_option Elab.async false
set_option linter.all false
set_option maxRecDepth 100000
set_option maxHeartbeats 2000000
namespace Ps
open PySem PySem.Spec PyProof.Rows L2 Gd
def boxRow (b : Bx) : List Int := [Vaflxb.nat b.field, Vaflxb.nat (Vaflxb.caseNumber b.case_), Vaflxb.nat b.left.length, Vaflxb.nat b.right.length]
def ansBoxes : Hd → List Int
  | .positions _ => [-4]
  | .pieces s => 0 :: (if s.const.isSome = true then 1 else 0) :: s.boxes.flatMap boxRow
def ansSide (i w : Int) : Hd → List Int
  | .positions _ => [-4]
  | .pieces s => Vaflxb.sideAnswer i w s
theorem boxRow_len : ∀ bs : List Bx, (bs.flatMap boxRow).length = 4 * bs.length
  | [] => rfl
  | b :: bs => by rw [List.flatMap_cons, List.length_append, boxRow_len bs, List.length_cons]; show 4 + _ = _; omega
section
variable {P : Program} {w : World} {K : PySem.W.Frag} {mg : Str → Option Value} {base : Heap} {CP CB CPs CPc CS CC : Addr} {f : Addr} {fd : FuncData}
def sp_item (w : World) (K : PySem.W.Frag) (CP CB CPs CPc CS CC : Addr) : Sp := fun vs H Q _ => ∃ D v h n, vs = [v, .int n] ∧ Sub D H ∧ HeldAt K w CP CB CPs D v h ∧ wfH h ∧ ∀ D' H' r, Grow [] D H D' H' → AL D' r (ansItem n h) → Q r H'
abbrev s_item : Stmt := topS 93
theorem sc_item : FnScope ["some", "n"] ["some", "n"] (defScope s_item) := ⟨rfl, rfl, rfl, by decide +kernel, rfl, by decide +kernel, by decide +kernel⟩
theorem ok_item (F : Fun K "item" "item" s_item f fd) (T : Txt K mg CP CB CPs CPc CS CC) (C_all_pieces : Def P w K mg base 5 "all_pieces" ["pieces"] (sp_all_pieces w K CP CB CPs CPc CS CC)) (C_is_pieces : Def P w K mg base 1 "is_pieces" ["some"] (sp_is_pieces w K CP CB CPs CPc CS CC)) (C_set_size : Def P w K mg base 3 "set_size" ["some"] (sp_set_size w K CP CB CPs CPc CS CC)) : FnOk P w K mg base CX0 6 f fd ["some", "n"] (sp_item w K CP CB CPs CPc CS CC) := by
  refine F.ok sc_item (fun vs H Q E h => ?_) (fun cdv A outer s H vs Q E hr h => ?_)
  · obtain ⟨_, _, _, _, rfl, _⟩ := h; rfl
  · obtain ⟨D, v, h, n, rfl, hs, hh, hw, k⟩ := h
    refine ⟨_, (pss_cons (ps_if (pt_not (pt_chain op_le op_lt pe_int (pv 1) (pe_callD C_set_size (hr.mono (by decide)) (by rfl) (pa_cons (pv 0) pa_nil)))) (pss_one (ps_ret (pe_lst (pa_cons (pe_const (by rfl) T.g_NOT_THERE) pa_nil)))) pss_nil)
      (pss_cons (ps_if (pt_not (pt_val (pe_callD C_is_pieces (hr.mono (by decide)) (by rfl) (pa_cons (pv 0) pa_nil)))) (pss_one (ps_ret (pe_op op_cat (pe_lst (pa_cons pe_int pa_nil)) (pe_callTy call_list_of (by rfl) T.m_list b_list (pa_cons (pe_ix ix_list (pe_callTy (call_listG rfl) (by rfl) T.m_list b_list (pa_cons (pv 0) pa_nil)) (pv 1) (fun _ _ => rfl)) pa_nil))))) pss_nil)
      (pss_cons (ps_if (pt_cmpR op_gt (pe_callD C_set_size (hr.mono (by decide)) (by rfl) (pa_cons (pv 0) pa_nil)) (pe_const (by rfl) T.g_MOST_LISTED) (nomark _)) (pss_one (ps_ret (pe_lst (pa_cons (pe_const (by rfl) T.g_TOO_MANY) pa_nil)))) pss_nil)
      (pss_one (ps_ret (pe_op op_cat (pe_lst (pa_cons pe_int pa_nil)) (pe_callTy call_list_of (by rfl) T.m_list b_list (pa_cons (pe_fld (pe_ix ix_list (pe_callD C_all_pieces (hr.mono (by decide)) (by rfl) (pa_cons (pv 0) pa_nil)) (pv 1) (fun _ _ => rfl)) rfl) pa_nil)))))))), ?_⟩
    have none_ : ∀ {D1 H1 : Hp}, Grow [] D H D1 H1 → ∀ z, ansItem n h = [z] → ∀ p, H1 p = none → Q (.ref p) (upd H1 p (.lst [.int z])) := by
      intro D1 H1 g z e p hp
      rw [e] at k
      exact k _ _ _ (g.trans (Grow.fresh g.s hp)) ⟨p, rfl, upd_same⟩
    have n0 : ¬ 0 ≤ n → ansItem n h = [-6] := fun hn => by
      cases h with
      | positions l => show Vaflxb.atIndex n _ = _; unfold Vaflxb.atIndex; rw [if_pos (by omega)]
      | pieces s => show Vaflxb.itemAnswer n s = _; unfold Vaflxb.itemAnswer; rw [if_pos (.inl (by omega))]
    have n1 : 0 ≤ n → ¬ n < ((sizeH h : Nat) : Int) → ansItem n h = [-6] := fun h0 hn => by
      cases h with
      | positions l =>
        show Vaflxb.atIndex n _ = _
        unfold Vaflxb.atIndex
        have hn : ¬ n < ((l.length : Nat) : Int) := hn
        rw [if_neg (by omega), List.getElem?_eq_none (by rw [List.length_map]; omega)]
      | pieces s =>
        have hn : ¬ n < ((Vaflxb.countOf s : Nat) : Int) := hn
        show Vaflxb.itemAnswer n s = _; unfold Vaflxb.itemAnswer; rw [if_pos (.inr (by omega))]
    refine ⟨_, rfl, 0, n, rfl, rfl, _, rfl, ?_⟩
    by_cases h0 : 0 ≤ n
    · rw [decide_eq_true h0]
      refine iteT ⟨_, rfl, D, v, h, rfl, hs, hh, hw, fun H1 hH1 => ⟨n, _, rfl, rfl, _, rfl, ?_⟩⟩
      have g1 := Grow.of_same (M := []) hs hH1
      by_cases hn : n < ((sizeH h : Nat) : Int)
      · rw [decide_eq_true hn]
        obtain ⟨m, rfl⟩ : ∃ m : Nat, n = (m : Int) := ⟨n.toNat, by omega⟩
        have hm : m < sizeH h := by omega
        refine iteF ⟨_, rfl, D, v, h, rfl, g1.s, hh, _, rfl, ?_⟩
        cases h with
        | positions l =>
          have hm : m < l.length := hm
          obtain ⟨d, xs, ep, rfl, hd, z⟩ := hh
          obtain ⟨e, he, e1, e2, e3⟩ := z.get' (i := m) (b := l[m]) (by simp [hm])
          have tl := pos_len (hw.wf _ (List.getElem_mem hm))
          refine iteT ⟨sz1, fun p hp => ?_⟩
          have g2 := Grow.fresh (M := []) (u := .lst [V.int 0]) g1.s hp
          refine ⟨_, rfl, d, xs, ep, rfl, g2.s _ _ (g2.d _ _ hd), fun q hq => ?_⟩
          have g3 := Grow.fresh (M := []) (u := .lst (xs.map (·.2.1))) g2.s hq
          obtain ⟨at_, hat, hst⟩ := BT.sq (H := D) (Sub.refl D) e2
          refine ⟨_, rfl, q, _, _, e.2.1, rfl, rfl, SqL.of upd_same, atI_nat (by rw [List.getElem?_map, he]; rfl), at_, _, by rw [hat], .inr (SqT.up g3.s (SqT.up (g2.d.trans g3.d) hst)), fun r hr => ?_⟩
          have g4 := Grow.fresh (M := []) (u := .lst (tv (Vaflxa.posText l[m]))) g3.s hr
          refine ⟨p, r, _, _, rfl, rfl, g4.s _ _ (g4.d _ _ (g3.d _ _ upd_same)), upd_same, small_le (by simp; omega), fun y hy => ?_⟩
          rw [zero_cat]
          have g5 := Grow.fresh (M := []) (u := .lst ((Vaflxb.textAnswer (Vaflxa.posText l[m])).map V.int)) g4.s hy
          refine k _ _ _ ((((g1.trans g2).trans g3).trans g4).trans g5) ⟨y, rfl, ?_⟩
          rw [upd_same]
          have : ansItem ((m : Nat) : Int) (.positions l) = Vaflxb.textAnswer (Vaflxa.posText l[m]) := by
            show Vaflxb.atIndex _ _ = _
            unfold Vaflxb.atIndex
            rw [if_neg (by omega), Int.toNat_natCast, List.getElem?_map, List.getElem?_eq_getElem hm]; rfl
          rw [this]
        | pieces s =>
          have hm : m < Vaflxb.countOf s := hm
          refine iteF ⟨_, rfl, D, v, .pieces s, rfl, g1.s, hh, hw, fun H2 hH2 => ⟨_, 1000, rfl, rfl, _, rfl, ?_⟩⟩
          have g2 := Grow.of_same (M := []) g1.s hH2
          have hia : ansItem ((m : Nat) : Int) (.pieces s) = if 1000 < Vaflxb.countOf s then [-7] else Vaflxb.atIndex ((m : Nat) : Int) ((Vaflxb.sortBy Vaflxa.pieceAhead (Vaflxb.allPieces s)).map Vaflxa.pieceText) := by
            show Vaflxb.itemAnswer _ _ = _
            unfold Vaflxb.itemAnswer
            rw [if_neg (by omega)]; rfl
          by_cases hc : 1000 < Vaflxb.countOf s
          · rw [decide_eq_true (p := (1000 : Int) < ((sizeH (.pieces s) : Nat) : Int)) (by show (1000 : Int) < ((Vaflxb.countOf s : Nat) : Int); omega)]
            rw [if_pos hc] at hia
            exact iteT ⟨sz1, none_ (g1.trans g2) _ hia⟩
          · rw [decide_eq_false (p := (1000 : Int) < ((sizeH (.pieces s) : Nat) : Int)) (by show ¬ (1000 : Int) < ((Vaflxb.countOf s : Nat) : Int); omega)]
            rw [if_neg hc] at hia
            refine iteF ⟨sz1, fun p hp => ?_⟩
            have g3 := Grow.fresh (M := []) (u := .lst [V.int 0]) g2.s hp
            refine ⟨_, rfl, _, s, v, rfl, g3.s, PcsAt.mono g3.d hh, hw.b, fun t ht => (hw.c t ht).2.1, hw.count, fun D4 H4 r4 g4 b4 => ?_⟩
            obtain ⟨a4, vs4, rfl, e4, z4⟩ := b4
            have hlen : (Vaflxb.sortBy Vaflxa.pieceAhead (Vaflxb.allPieces s)).length = Vaflxb.countOf s := by
              rw [sortBy_eq (le := PySem.W.dataLe false pieceKey) (total_dataLe _) (fun a b => by rw [dataLe_lt, ahead_eq]; simp), List.length_mergeSort, all_eq, count_eq, List.length_append]
              congr 1
              have : ∀ bs : List Bx, (bs.flatMap allP).length = (bs.map fun b => b.left.length * b.right.length).sum := by
                intro bs
                induction bs with
                | nil => rfl
                | cons b bs ih =>
                  rw [List.flatMap_cons, List.length_append, List.map_cons, List.sum_cons, ih]
                  unfold allP
                  rw [partsP_len]
              exact this s.boxes
            obtain ⟨x, hx⟩ : ∃ x, (Vaflxb.sortBy Vaflxa.pieceAhead (Vaflxb.allPieces s))[m]? = some x := ⟨_, List.getElem?_eq_getElem (by omega)⟩
            obtain ⟨vx, hvx, a, dx, tt, rfl, ha, htt⟩ := z4.get' hx
            have hxl : (Vaflxa.pieceText x).length ≤ 1000 := by
              refine all_len hw x ?_
              rw [← all_eq]
              have hmem := List.mem_of_getElem? hx
              rw [sortBy_eq (le := PySem.W.dataLe false pieceKey) (total_dataLe _) (fun a b => by rw [dataLe_lt, ahead_eq]; simp)] at hmem
              exact (List.mergeSort_perm _ _).mem_iff.mp hmem
            obtain ⟨at_, hat, hst⟩ := BT.sq (H := D4) (Sub.refl D4) htt
            refine ⟨_, rfl, a4, _, _, _, rfl, rfl, SqL.of (g4.s _ _ e4), atI_nat hvx, a, CPc, dx, _, tt, rfl, g4.s _ _ ha, T.clPc, T.nPc _ (by simp), (lookup_pieceFs tt x).1, at_, _, by rw [hat], .inr (SqT.up g4.s hst), fun r hr => ?_⟩
            have g5 := Grow.fresh (M := []) (u := .lst (tv (Vaflxa.pieceText x))) g4.s hr
            refine ⟨p, r, _, _, rfl, rfl, g5.s _ _ (g5.d _ _ (g4.d _ _ upd_same)), upd_same, small_le (by simp; omega), fun y hy => ?_⟩
            rw [zero_cat]
            have g6 := Grow.fresh (M := []) (u := .lst ((Vaflxb.textAnswer (Vaflxa.pieceText x)).map V.int)) g5.s hy
            refine k _ _ _ (((((g1.trans g2).trans g3).trans g4).trans g5).trans g6) ⟨y, rfl, ?_⟩
            rw [upd_same, hia]
            unfold Vaflxb.atIndex
            rw [if_neg (by omega), Int.toNat_natCast, List.getElem?_map, hx]; rfl
      · rw [decide_eq_false hn]
        exact iteT ⟨sz1, none_ g1 _ (n1 h0 hn)⟩
    · rw [decide_eq_false h0]
      exact iteF ⟨_, rfl, iteT ⟨sz1, none_ (Grow.refl hs) _ (n0 h0)⟩⟩
def sp_boxes (w : World) (K : PySem.W.Frag) (CP CB CPs CPc CS CC : Addr) : Sp := fun vs H Q _ => ∃ D v h, vs = [v] ∧ Sub D H ∧ HeldAt K w CP CB CPs D v h ∧ wfH h ∧ ∀ D' H' r, Grow [] D H D' H' → AL D' r (ansBoxes h) → Q r H'
abbrev s_boxes : Stmt := topS 97
theorem sc_boxes : FnScope ["some", "row", "box"] ["some"] (defScope s_boxes) := ⟨rfl, rfl, rfl, by decide +kernel, rfl, by decide +kernel, by decide +kernel⟩
theorem ok_boxes (F : Fun K "boxes" "boxes" s_boxes f fd) (T : Txt K mg CP CB CPs CPc CS CC) (C_is_pieces : Def P w K mg base 1 "is_pieces" ["some"] (sp_is_pieces w K CP CB CPs CPc CS CC)) : FnOk P w K mg base CX0 2 f fd ["some"] (sp_boxes w K CP CB CPs CPc CS CC) := by
  refine F.ok sc_boxes (fun vs H Q E h => ?_) (fun cdv A outer s H vs Q E hr h => ?_)
  · obtain ⟨_, _, _, rfl, _⟩ := h; rfl
  · obtain ⟨D, v, h, rfl, hs, hh, hw, k⟩ := h
    refine ⟨_, (pss_cons (ps_if (pt_not (pt_val (pe_callD C_is_pieces (hr.mono (by decide)) (by rfl) (pa_cons (pv 0) pa_nil)))) (pss_one (ps_ret (pe_lst (pa_cons (pe_const (by rfl) T.g_WRONG_SORT) pa_nil)))) pss_nil)
      (pss_cons (ps_set (i := 1) sc_boxes.nd rfl (by first | exact Or.inl rfl | exact Or.inr rfl) (pe_lst (pa_cons pe_int (pa_cons (pe_callTy call_int1 (by rfl) T.m_int b_int (pa_cons (pe_cmpR op_notN (pe_fld (pv 0) rfl) pe_non (nomark _)) pa_nil)) pa_nil))))
      (pss_cons (ps_for PassesOwn.never rfl (pi_list (pe_fld (pv 0) rfl)) (pg_name (i := 2) sc_boxes.nd rfl (by first | exact Or.inl rfl | exact Or.inr rfl)) (pss_one (ps_expr (pe_bm PySem.F.plainAttrs_list PySem.F.slot_list_extend PySem.F.type_list_extend mt_extend (pv 1) (pa_cons (pe_lst (pa_cons (pe_fld (pv 2) rfl) (pa_cons (pe_fld (pv 2) rfl) (pa_cons (pe_callB call_lenG (by rfl) T.m_len b_len (pa_cons (pe_fld (pv 2) rfl) pa_nil)) (pa_cons (pe_callB call_lenG (by rfl) T.m_len b_len (pa_cons (pe_fld (pv 2) rfl) pa_nil)) pa_nil))))) pa_nil)))))
      (pss_one (ps_ret (pv 1)))))), ?_⟩
    refine ⟨_, rfl, D, v, h, rfl, hs, hh, _, rfl, ?_⟩
    cases h with
    | positions l =>
      refine iteT ⟨sz1, fun p hp => ?_⟩
      have g2 := Grow.fresh (M := []) (u := .lst [V.int (-4)]) hs hp
      exact k _ _ _ g2 ⟨p, rfl, upd_same⟩
    | pieces s =>
      obtain ⟨a, dx, cv, bv1, rfl, ha, hcv, ⟨ab, xb, rfl, eb, zb⟩⟩ := hh
      have hl := zb.length
      have hbl := hw.len
      have hcn : (!decide (cv = V.non)) = s.const.isSome := by
        cases hc : s.const with
        | none => rw [hc] at hcv; cases (show cv = .non from hcv); rfl
        | some t => rw [hc] at hcv; obtain ⟨x, rfl, _⟩ := hcv; rfl
      refine iteF ⟨_, rfl, a, CPs, dx, _, cv, rfl, hs _ _ ha, T.clPs, T.nPs _ (by simp), rfl, rfl, .inr ⟨_, rfl, sz2, fun p hp => ?_⟩⟩
      rw [hcn]
      have o1 : Own D H D (upd H p (.lst [.int 0, .int (if s.const.isSome = true then 1 else 0)])) p (.lst [.int 0, .int (if s.const.isSome = true then 1 else 0)]) := Own.mk' (Grow.refl hs) hp
      refine ⟨_, rfl, a, CPs, dx, _, .ref ab, rfl, o1.g.s _ _ ha, T.clPs, T.nPs _ (by simp), rfl, ab, rfl, ⟨_, SqL.of (o1.g.s _ _ eb)⟩, for_it (walk_list (xs := xb)) (fun i σ H' => ∃ x2, σ = [some (.ref a), some (.ref p), x2] ∧ Own D H D H' p (.lst (((0 : Int) :: (if s.const.isSome = true then 1 else 0) :: (s.boxes.take i).flatMap boxRow).map V.int))) ?_ ?_ ?_ ?_⟩
      · exact ⟨_, rfl, o1⟩
      · rintro i σ H' hi ⟨x2, rfl, o⟩
        exact SqL.of (o.g.s _ _ eb)
      · rintro i x σ H0 H' hi ⟨x2, rfl, o⟩ ⟨rfl, hx⟩
        obtain ⟨b, hb, ab2, dxb, lv, rv, rfl, hab, ⟨dl, xl, epl, rfl, hdl, zl⟩, ⟨dr, xr, epr, rfl, hdr, zr⟩⟩ := zb.get hx
        have LB := lookup_boxFs b (.ref dl) (.ref dr)
        have s' := o.g.s
        refine ⟨_, rfl, .inl ⟨rfl, _, SqL.of o.at_⟩, _, rfl, ab2, CB, dxb, _, _, rfl, s' _ _ hab, T.clB, T.nB _ (by simp), LB.1, _, rfl, ab2, CB, dxb, _, _, rfl, s' _ _ hab, T.clB, T.nB _ (by simp), LB.2.1, _, rfl, ab2, CB, dxb, _, _, rfl, s' _ _ hab, T.clB, T.nB _ (by simp), LB.2.2.1, dl, xl, epl, rfl, s' _ _ hdl, _, rfl, ab2, CB, dxb, _, _, rfl, s' _ _ hab, T.clB, T.nB _ (by simp), LB.2.2.2, dr, xr, epr, rfl, s' _ _ hdr, sz4, fun q hq => ?_⟩
        have o2 := o.tmp (v := .lst [nv b.field, nv (Vaflxb.caseNumber b.case_), .int ((xl.length : Nat) : Int), .int ((xr.length : Nat) : Int)]) hq
        refine ⟨p, q, _, _, rfl, rfl, o2.at_, upd_same, ?_, ?_⟩
        · rw [List.length_map, List.length_cons, List.length_cons, boxRow_len, List.length_take]
          exact small_le (by show _ + 4 ≤ _; omega)
        · refine ⟨_, rfl, ?_⟩
          have e : (((0 : Int) :: (if s.const.isSome = true then 1 else 0) :: (s.boxes.take (i + 1)).flatMap boxRow).map V.int) = (((0 : Int) :: (if s.const.isSome = true then 1 else 0) :: (s.boxes.take i).flatMap boxRow).map V.int) ++ [nv b.field, nv (Vaflxb.caseNumber b.case_), .int ((xl.length : Nat) : Int), .int ((xr.length : Nat) : Int)] := by
            rw [flatMap_take _ _ _ _ hb, zl.length, zr.length]
            simp [boxRow, Vaflxb.nat]
          rw [e]
          exact o2.set
      · rintro σ H' ⟨x2, rfl, o⟩
        refine ⟨_, rfl, ?_⟩
        rw [List.take_of_length_le (by omega)] at o
        obtain ⟨G, S, at1⟩ := Own.fin hs o
        exact k _ _ _ G ⟨p, rfl, at1⟩
def sp_side (w : World) (K : PySem.W.Frag) (CP CB CPs CPc CS CC : Addr) : Sp := fun vs H Q _ => ∃ D v h i j, vs = [v, .int i, .int j] ∧ Sub D H ∧ HeldAt K w CP CB CPs D v h ∧ wfH h ∧ ∀ D' H' r, Grow [] D H D' H' → AL D' r (ansSide i j h) → Q r H'
abbrev s_side : Stmt := topS 98
theorem sc_side : FnScope ["some", "i", "which", "box"] ["some", "i", "which"] (defScope s_side) := ⟨rfl, rfl, rfl, by decide +kernel, rfl, by decide +kernel, by decide +kernel⟩
theorem ok_side (F : Fun K "side" "side" s_side f fd) (T : Txt K mg CP CB CPs CPc CS CC) (C_is_pieces : Def P w K mg base 1 "is_pieces" ["some"] (sp_is_pieces w K CP CB CPs CPc CS CC)) (C_texts_told : Def P w K mg base 1 "texts_told" ["texts"] (sp_texts_told w K CP CB CPs CPc CS CC)) : FnOk P w K mg base CX0 2 f fd ["some", "i", "which"] (sp_side w K CP CB CPs CPc CS CC) := by
  refine F.ok sc_side (fun vs H Q E h => ?_) (fun cdv A outer s H vs Q E hr h => ?_)
  · obtain ⟨_, _, _, _, _, rfl, _⟩ := h; rfl
  · obtain ⟨D, v, h, i, j, rfl, hs, hh, hw, k⟩ := h
    refine ⟨_, (pss_cons (ps_if (pt_not (pt_val (pe_callD C_is_pieces (hr.mono (by decide)) (by rfl) (pa_cons (pv 0) pa_nil)))) (pss_one (ps_ret (pe_lst (pa_cons (pe_const (by rfl) T.g_WRONG_SORT) pa_nil)))) pss_nil)
      (pss_cons (ps_if (PW.pt (pw_or (pt_not (pt_chain op_le op_lt pe_int (pv 1) (pe_callB call_len (by rfl) T.m_len b_len (pa_cons (pe_fld (pv 0) rfl) pa_nil)))) (pw_or1 (pt_not (pt_chain op_le op_le pe_int (pv 2) pe_int))))) (pss_one (ps_ret (pe_lst (pa_cons (pe_const (by rfl) T.g_NOT_THERE) pa_nil)))) pss_nil)
      (pss_cons (ps_set (i := 3) sc_side.nd rfl (by first | exact Or.inl rfl | exact Or.inr rfl) (pe_ix ix_list (pe_fld (pv 0) rfl) (pv 1) (fun _ _ => rfl)))
      (pss_one (ps_ret (pe_op op_cat (pe_lst (pa_cons pe_int pa_nil)) (pe_callD C_texts_told (hr.mono (by decide)) (by rfl) (pa_cons (pe_callTy (call_listG rfl) (by rfl) T.m_list b_list (pa_cons (pe_ix ix_list (pe_lst (pa_cons (pe_fld (pv 3) rfl) (pa_cons (pe_fld (pv 3) rfl) pa_nil))) (pv 2) (fun _ _ => rfl)) pa_nil)) pa_nil)))))))), ?_⟩
    refine ⟨_, rfl, D, v, h, rfl, hs, hh, _, rfl, ?_⟩
    cases h with
    | positions l =>
      refine iteT ⟨sz1, fun p hp => ?_⟩
      have g2 := Grow.fresh (M := []) (u := .lst [V.int (-4)]) hs hp
      exact k _ _ _ g2 ⟨p, rfl, upd_same⟩
    | pieces s =>
      obtain ⟨a, dx, cv, bv1, rfl, ha, hcv, ⟨ab, xb, rfl, eb, zb⟩⟩ := hh
      have hl := zb.length
      have k : ∀ D' H' r, Grow [] D H D' H' → AL D' r (Vaflxb.sideAnswer i j s) → Q r H' := k
      have none_ : Vaflxb.sideAnswer i j s = [-6] → ∀ p, H p = none → Q (.ref p) (upd H p (.lst [.int (-6)])) := by
        intro e p hp
        rw [e] at k
        exact k _ _ _ (Grow.fresh hs hp) ⟨p, rfl, upd_same⟩
      have hlen : LenV K (.ref ab) H s.boxes.length := .inl ⟨_, SqL.of (hs _ _ eb), hl.symm⟩
      refine iteF ⟨_, rfl, 0, i, rfl, rfl, _, rfl, ?_⟩
      by_cases h0 : ¬ 0 ≤ i
      · rw [decide_eq_false h0]
        exact iteF ⟨_, rfl, iteT (iteT ⟨sz1, none_ (by unfold Vaflxb.sideAnswer; rw [if_pos (.inl (by omega))])⟩)⟩
      have h0 := Decidable.not_not.mp h0
      rw [decide_eq_true h0]
      obtain ⟨m, rfl⟩ : ∃ m : Nat, i = (m : Int) := ⟨i.toNat, by omega⟩
      refine iteT ⟨_, rfl, a, CPs, dx, _, .ref ab, rfl, hs _ _ ha, T.clPs, T.nPs _ (by simp), rfl, _, s.boxes.length, rfl, hlen, _, _, rfl, rfl, _, rfl, ?_⟩
      by_cases h1 : ¬ m < s.boxes.length
      · rw [decide_eq_false (p := ((m : Nat) : Int) < ((s.boxes.length : Nat) : Int)) (by omega)]
        refine iteT (iteT ⟨sz1, none_ ?_⟩)
        unfold Vaflxb.sideAnswer
        rw [Int.toNat_natCast, List.getElem?_eq_none (by omega)]
        split <;> rfl
      have h1 := Decidable.not_not.mp h1
      rw [decide_eq_true (p := ((m : Nat) : Int) < ((s.boxes.length : Nat) : Int)) (by omega)]
      refine iteF ⟨_, rfl, 0, j, rfl, rfl, _, rfl, ?_⟩
      by_cases h2 : ¬ 0 ≤ j
      · rw [decide_eq_false h2]
        exact iteF ⟨_, rfl, iteT ⟨sz1, none_ (by unfold Vaflxb.sideAnswer; rw [if_pos (.inr (.inl (by omega)))])⟩⟩
      have h2 := Decidable.not_not.mp h2
      rw [decide_eq_true h2]
      refine iteT ⟨j, 1, rfl, rfl, _, rfl, ?_⟩
      by_cases h3 : ¬ j ≤ 1
      · rw [decide_eq_false h3]
        exact iteT ⟨sz1, none_ (by unfold Vaflxb.sideAnswer; rw [if_pos (.inr (.inr (by omega)))])⟩
      have h3 := Decidable.not_not.mp h3
      rw [decide_eq_true h3]
      obtain ⟨b, hb⟩ : ∃ b, s.boxes[m]? = some b := ⟨_, List.getElem?_eq_getElem h1⟩
      have hwb := hw.b b (List.mem_of_getElem? hb)
      obtain ⟨vb, hvb, ab2, dxb, lv, rv, rfl, hab, pl, pr⟩ := zb.get' hb
      have LB := lookup_boxFs b lv rv
      have hj : j = 0 ∨ j = 1 := by omega
      refine iteF ⟨_, rfl, a, CPs, dx, _, .ref ab, rfl, hs _ _ ha, T.clPs, T.nPs _ (by simp), rfl, _, rfl, ab, xb, _, _, rfl, rfl, SqL.of (hs _ _ eb), atI_nat hvb, ?_⟩
      refine ⟨sz1, fun p hp => ?_⟩
      have g1 := Grow.fresh (M := []) (u := .lst [V.int 0]) hs hp
      refine ⟨_, rfl, ab2, CB, dxb, _, _, rfl, g1.s _ _ (g1.d _ _ hab), T.clB, T.nB _ (by simp), LB.2.2.1, _, rfl, ab2, CB, dxb, _, _, rfl, g1.s _ _ (g1.d _ _ hab), T.clB, T.nB _ (by simp), LB.2.2.2, sz2, fun q hq => ?_⟩
      have g2 := Grow.fresh (M := []) (u := .lst [lv, rv]) g1.s hq
      obtain ⟨v2, l, hv2, hl2, hps, hwl⟩ : ∃ v2 l, atI [lv, rv] j = some v2 ∧ Vaflxb.sideAnswer ((m : Nat) : Int) j s = Vaflxb.textAnswer (Vaflxb.listText l) ∧ PSet K w CP D v2 l ∧ wfL l := by
        have hsa : Vaflxb.sideAnswer ((m : Nat) : Int) j s = Vaflxb.textAnswer (Vaflxb.listText (if j = 0 then b.left else b.right)) := by
          unfold Vaflxb.sideAnswer
          rw [if_neg (by omega), Int.toNat_natCast, hb]
        rcases hj with rfl | rfl
        · exact ⟨lv, b.left, rfl, hsa, pl, hwb.l⟩
        · exact ⟨rv, b.right, rfl, hsa, pr, hwb.r⟩
      obtain ⟨d, xs, ep, rfl, hd, z⟩ := hps
      obtain ⟨t1, t2, t3⟩ := pos_texts hwl
      have hlen := told_le2 t2 t3
      refine ⟨_, rfl, q, _, _, _, rfl, rfl, SqL.of upd_same, hv2, d, xs, ep, rfl, g2.s _ _ (g2.d _ _ (g1.d _ _ hd)), fun q2 hq2 => ?_⟩
      have g3 := Grow.fresh (M := []) (u := .lst (xs.map (·.2.1))) g2.s hq2
      refine ⟨_, l.map Vaflxa.posText, .ref q2, rfl, g3.s, ⟨q2, _, rfl, upd_same, all2_map (R := EntP K CP D) (fun e : Ent => e.2.1) Vaflxa.posText (fun e p h => h.2.1.mono ((g1.d.trans g2.d).trans g3.d)) z⟩, t1, fun i => Nat.le_trans (hlen i) (by decide), fun t ht => Nat.le_trans (t2 t ht) (by decide), fun D4 H4 r4 g4 b4 => ?_⟩
      obtain ⟨a4, rfl, e4⟩ := b4
      have h1 := hlen (l.map Vaflxa.posText).length
      rw [List.take_length] at h1
      refine ⟨p, a4, _, _, rfl, rfl, g4.s _ _ (g4.d _ _ (g3.d _ _ (g2.d _ _ upd_same))), g4.s _ _ e4, small_le (by simp; omega), fun r hr => ?_⟩
      rw [zero_cat]
      have g5 := Grow.fresh (M := []) (u := .lst ((Vaflxb.textAnswer (told (l.map Vaflxa.posText))).map V.int)) g4.s hr
      refine k _ _ _ ((((g1.trans g2).trans g3).trans g4).trans g5) ⟨r, rfl, ?_⟩
      rw [upd_same, hl2]; rfl
end
end Ps
set_option Elab.async false
set_option linter.all false
set_option maxRecDepth 100000
set_option maxHeartbeats 2000000
/-! Plain laws: where positions stand, what pieces give. -/
namespace Ps
open PySem PySem.Spec PyProof.Rows L2 Gd
theorem cget_fold {α κ : Type} [DecidableEq κ] (f : α → κ) (n : α → Nat) (o : κ) : ∀ (ps : List α) (cs : List (κ × Nat)), cget (ps.foldl (fun cs p => bump cs (f p) (n p)) cs) o =
    if (ps.filter fun p => decide (f p = o)) = [] then cget cs o else some ((cget cs o).getD 0 + ((ps.filter fun p => decide (f p = o)).map n).sum)
  | [], cs => by rw [List.filter_nil, if_pos rfl]; rfl
  | p :: ps, cs => by
    rw [List.foldl_cons, cget_fold f n o ps (bump cs (f p) (n p)), cget_bump, List.filter_cons]
    by_cases h : f p = o
    · rw [if_pos h, if_pos (decide_eq_true h), if_neg (List.cons_ne_nil _ _), List.map_cons, List.sum_cons]
      rw [h]
      split
      · rename_i h2; rw [h2]; simp
      · simp only [Option.getD_some]; rw [Nat.add_assoc]
    · rw [if_neg h, if_neg (fun z => h (of_decide_eq_true z))]
theorem nodup_fold {α κ : Type} [DecidableEq κ] (f : α → κ) (n : α → Nat) : ∀ (ps : List α) (cs : List (κ × Nat)), (cs.map (·.1)).Nodup → ((ps.foldl (fun cs p => bump cs (f p) (n p)) cs).map (·.1)).Nodup
  | [], cs, h => h
  | p :: ps, cs, h => nodup_fold f n ps _ (nodup_bump h _ _)
def cntOf (t : Tx) (l : List Pos) (o : Option Nat) : Nat := (l.filter fun q => decide (Vaflxa.placeOf q t = o)).length
theorem cget_cntP (t : Tx) (l : List Pos) (o : Option Nat) : cget (cntP t l) o = if cntOf t l o = 0 then none else some (cntOf t l o) := by
  unfold cntP cntOf
  rw [cget_fold (fun p => Vaflxa.placeOf p t) (fun _ => 1)]
  have hs : ∀ xs : List Pos, (xs.map fun _ => 1).sum = xs.length := fun xs => by
    induction xs with
    | nil => rfl
    | cons x xs ih => rw [List.map_cons, List.sum_cons, ih, List.length_cons]; omega
  rw [hs]
  by_cases h : (l.filter fun p => decide (Vaflxa.placeOf p t = o)) = []
  · rw [if_pos h, h]; rfl
  · rw [if_neg h, if_neg (fun z => h (List.length_eq_zero_iff.mp z))]
    simp [cget]
theorem place_le {p : Pos} {t : Tx} {n : Nat} (h : Vaflxa.placeOf p t = some n) : n ≤ t.length := by
  have hb : ∀ l r, n ∈ Vaflxa.borders l r t → n ≤ t.length := fun l r hm => by
    unfold Vaflxa.borders at hm
    have := (List.mem_filter.mp hm).1
    rw [List.mem_range] at this; omega
  cases p with
  | start k =>
    have h : (if k ≤ t.length then some k else none) = some n := h
    split at h
    · cases h; assumption
    · cases h
  | finish k =>
    have h : (if k ≤ t.length then some (t.length - k) else none) = some n := h
    split at h
    · cases h; omega
    · cases h
  | left l r c =>
    have h : (if c = 0 then none else (Vaflxa.borders l r t)[c - 1]?) = some n := h
    split at h
    · cases h
    · exact hb l r (List.mem_of_getElem? h)
  | right l r c =>
    have h : (if c = 0 then none else (Vaflxa.borders l r t).reverse[c - 1]?) = some n := h
    split at h
    · cases h
    · exact hb l r (List.mem_reverse.mp (List.mem_of_getElem? h))
theorem cntOf_pos {t : Tx} {l : List Pos} {p : Nat} (h : cntOf t l (some p) ≠ 0) : p ≤ t.length := by
  unfold cntOf at h
  cases e : l.filter fun q => decide (Vaflxa.placeOf q t = some p) with
  | nil => rw [e] at h; exact absurd rfl h
  | cons q r =>
    have : q ∈ l.filter fun q => decide (Vaflxa.placeOf q t = some p) := by rw [e]; exact List.mem_cons_self
    exact place_le (of_decide_eq_true (List.mem_filter.mp this).2)
/-- the places where some stand -/
def somes (cs : List (Option Nat × Nat)) : List (Nat × Nat) := cs.filterMap fun c => c.1.map fun p => (p, c.2)
theorem mem_somes {cs : List (Option Nat × Nat)} (nd : (cs.map (·.1)).Nodup) {p n : Nat} : (p, n) ∈ somes cs ↔ cget cs (some p) = some n := by
  unfold somes
  rw [List.mem_filterMap]
  constructor
  · rintro ⟨c, hc, h⟩
    cases e : c.1 with
    | none => rw [e] at h; cases h
    | some q =>
      rw [e] at h
      cases h
      obtain ⟨i, hi⟩ := List.mem_iff_getElem?.mp hc
      have := cget_at nd hi
      rwa [e] at this
  · intro h
    unfold cget at h
    rw [Option.map_eq_some_iff] at h
    obtain ⟨c, hc, rfl⟩ := h
    have h1 := List.find?_some hc
    have h1 := of_decide_eq_true h1
    exact ⟨c, List.mem_of_find?_eq_some hc, by rw [h1]; rfl⟩
theorem nodup_somes {cs : List (Option Nat × Nat)} (nd : (cs.map (·.1)).Nodup) : ((somes cs).map (·.1)).Nodup := by
  unfold somes
  rw [List.map_filterMap]
  unfold List.Nodup at nd ⊢
  rw [List.pairwise_map] at nd
  refine nd.filterMap _ ?_
  intro a a' hne b hb b' hb' e
  subst e
  cases e1 : a.1 with
  | none => rw [e1] at hb; cases hb
  | some p =>
    cases e2 : a'.1 with
    | none => rw [e2] at hb'; cases hb'
    | some q =>
      rw [e1] at hb
      rw [e2] at hb'
      have hb : p = b := by simpa using hb
      have hb' : q = b := by simpa using hb'
      exact hne (by rw [e1, e2, hb, hb'])
theorem somes_perm (t : Tx) (l : List Pos) : (somes (cntP t l)).Perm (Vaflxb.standing l t) := by
  have nd := nodup_cntP t l
  have n1 : (somes (cntP t l)).Nodup := by
    have := nodup_somes nd
    unfold List.Nodup at this ⊢
    rw [List.pairwise_map] at this
    exact this.imp fun h e => h (by rw [e])
  have n2 : (Vaflxb.standing l t).Nodup := by
    unfold Vaflxb.standing
    refine nodup_filter _ (nodup_map (fun a b h => (Prod.mk.inj h).1) ?_)
    exact List.pairwise_lt_range.imp fun h => Nat.ne_of_lt h
  rw [List.perm_ext_iff_of_nodup n1 n2]
  rintro ⟨p, n⟩
  rw [mem_somes nd, cget_cntP]
  unfold Vaflxb.standing
  rw [List.mem_filter, List.mem_map]
  have hc : cntOf t l (some p) = (l.filter fun q => Vaflxa.placeOf q t == some p).length := by
    unfold cntOf
    congr 1
    refine List.filter_congr fun q _ => ?_
    rw [Bool.eq_iff_iff, decide_eq_true_eq, beq_iff_eq]
  constructor
  · intro h
    split at h
    · cases h
    · rename_i hne
      cases h
      refine ⟨⟨p, ?_, ?_⟩, ?_⟩
      · rw [List.mem_range]
        have := cntOf_pos hne
        omega
      · rw [hc]
      · simpa using hne
  · rintro ⟨⟨p', hp', h⟩, h2⟩
    have h3 : p' = p := (Prod.mk.inj h).1
    have h4 : (l.filter fun q => Vaflxa.placeOf q t == some p').length = n := (Prod.mk.inj h).2
    subst h3
    rw [hc]
    have h2 : n ≠ 0 := by simpa using h2
    rw [h4, if_neg h2]
theorem filterMap_congr' {α β : Type} {f g : α → Option β} : ∀ {xs : List α}, (∀ x ∈ xs, f x = g x) → xs.filterMap f = xs.filterMap g
  | [], _ => rfl
  | x :: xs, h => by rw [List.filterMap_cons, List.filterMap_cons, h x List.mem_cons_self, filterMap_congr' fun y hy => h y (List.mem_cons_of_mem _ hy)]
theorem flatMap_congr' {α β : Type} {f g : α → List β} : ∀ {xs : List α}, (∀ x ∈ xs, f x = g x) → xs.flatMap f = xs.flatMap g
  | [], _ => rfl
  | x :: xs, h => by rw [List.flatMap_cons, List.flatMap_cons, h x List.mem_cons_self, flatMap_congr' fun y hy => h y (List.mem_cons_of_mem _ hy)]
theorem stand_sorted (l : List Pos) (t : Tx) : ((Vaflxb.standing l t).map fun x => ((x.1 : Nat) : Int)).Pairwise (· < ·) := by
  unfold Vaflxb.standing
  rw [List.pairwise_map]
  refine List.Pairwise.filter _ ?_
  rw [List.pairwise_map]
  exact List.pairwise_lt_range.imp fun h => by
    show ((_ : Nat) : Int) < ((_ : Nat) : Int)
    omega
/-- the answer of stands -/
theorem stand_law {l : List Pos} {t : Tx} (hg : good t) {ns : List Int} (hp : ns.Perm ((somes (cntP t l)).map fun x => ((x.1 : Nat) : Int))) (hs : ns.Pairwise (· ≤ ·)) :
    (0 : Int) :: Vaflxb.nat ((cget (cntP t l) none).getD 0) :: (ns.flatMap fun z => [z, Vaflxb.nat ((cget (cntP t l) (some z.toNat)).getD 0)]) = Vaflxb.standsAnswer l t := by
  have e1 : ns = (Vaflxb.standing l t).map fun x => ((x.1 : Nat) : Int) := by
    refine List.Perm.eq_of_pairwise (le := (· ≤ ·)) (fun a b _ _ h1 h2 => Int.le_antisymm h1 h2) hs ((stand_sorted l t).imp fun h => Int.le_of_lt h) (hp.trans ((somes_perm t l).map _))
  unfold Vaflxb.standsAnswer
  have hgf : Vaflxb.goodField t = true := good_iff.mpr hg
  rw [hgf, if_neg (by decide)]
  have e2 : (cget (cntP t l) none).getD 0 = (l.filter fun q => (Vaflxa.placeOf q t).isNone).length := by
    rw [cget_cntP]
    have : cntOf t l none = (l.filter fun q => (Vaflxa.placeOf q t).isNone).length := by
      unfold cntOf
      congr 1
      refine List.filter_congr fun q _ => ?_
      cases Vaflxa.placeOf q t <;> simp
    rw [this]
    split
    · rename_i h; rw [h]; rfl
    · rfl
  rw [e2, e1, List.flatMap_map]
  congr 2
  refine flatMap_congr' fun x hx => ?_
  have hx' := (somes_perm t l).mem_iff.mpr hx
  have := (mem_somes (nodup_cntP t l)).mp (show (x.1, x.2) ∈ _ from hx')
  rw [Int.toNat_natCast, this]; rfl
/-! ### what pieces give -/
theorem countText_bump (n : Nat) (t : Tx) : ∀ l : List (Tx × Nat), (l.map (·.1)).Nodup → Vaflxb.countText n t l = bump l t n
  | [], _ => by simp [Vaflxb.countText, bump, cget]
  | x :: l, nd => by
    rw [List.map_cons, List.nodup_cons] at nd
    unfold Vaflxb.countText
    by_cases h : x.1 = t
    · rw [if_pos h]
      unfold bump
      rw [cget_cons, if_pos h, if_pos (show (some x.2).isSome = true from rfl), List.map_cons, if_pos h]
      congr 1
      refine ((List.map_congr_left fun c hc => ?_).trans (List.map_id l)).symm
      rw [if_neg fun z => nd.1 (by rw [h, ← z]; exact List.mem_map.mpr ⟨c, hc, rfl⟩)]; rfl
    · rw [if_neg h, countText_bump n t l nd.2]
      unfold bump
      rw [cget_cons, if_neg h]
      split
      · rw [List.map_cons, if_neg h]
      · rfl
theorem fold_countText : ∀ (all : List (Tx × Nat)) (l : List (Tx × Nat)), (l.map (·.1)).Nodup → all.foldl (fun l x => Vaflxb.countText x.2 x.1 l) l = all.foldl (fun l x => bump l x.1 x.2) l
  | [], _, _ => rfl
  | x :: all, l, nd => by
    rw [List.foldl_cons, List.foldl_cons, countText_bump _ _ l nd]
    exact fold_countText all _ (nodup_bump nd _ _)
/-- the parts' events -/
def evB (r : List Tx) (b : Bx) : List (Option Tx × Nat) := match r[b.field - 1]? with
  | none => [(none, b.left.length * b.right.length)]
  | some t => (cntP t b.left).flatMap fun x => (cntP t b.right).map fun y => (outOf t b.case_ x.1 y.1, x.2 * y.2)
def evS (s : Pcs) (r : List Tx) : List (Option Tx × Nat) := (s.const.map fun t => (some t, 1)).toList ++ s.boxes.flatMap (evB r)
theorem foldl_flatMap' {α β γ : Type} (f : γ → β → γ) (g : α → List β) : ∀ (xs : List α) (s : γ), (xs.flatMap g).foldl f s = xs.foldl (fun s x => (g x).foldl f s) s
  | [], _ => rfl
  | x :: xs, s => by rw [List.flatMap_cons, List.foldl_append, List.foldl_cons, foldl_flatMap' f g xs]
theorem boxG_ev (r : List Tx) (b : Bx) (cs : List (Option Tx × Nat)) : boxG r b cs = (evB r b).foldl (fun cs e => bump cs e.1 e.2) cs := by
  unfold boxG evB
  cases r[b.field - 1]? with
  | none => rfl
  | some t =>
    show (cntP t b.left).foldl (fun cs x => rowG t b.case_ (cntP t b.right) x cs) cs = _
    rw [foldl_flatMap']
    congr 1
    funext cs x
    rw [List.foldl_map]; rfl
theorem giveC_ev (s : Pcs) (r : List Tx) : giveC s r = (evS s r).foldl (fun cs e => bump cs e.1 e.2) [(none, 0)] := by
  unfold giveC evS
  rw [List.foldl_append, foldl_flatMap']
  have e : (fun cs b => boxG r b cs) = fun (cs : List (Option Tx × Nat)) (b : Bx) => (evB r b).foldl (fun cs e => bump cs e.1 e.2) cs := by
    funext cs b; exact boxG_ev r b cs
  rw [e]
  cases s.const <;> rfl
def spart (es : List (Option Tx × Nat)) : List (Tx × Nat) := es.filterMap fun c => c.1.map fun t => (t, c.2)
theorem flatMap_perm {α β : Type} {f g : α → List β} : ∀ {xs : List α}, (∀ x ∈ xs, (f x).Perm (g x)) → (xs.flatMap f).Perm (xs.flatMap g)
  | [], _ => .nil
  | x :: xs, h => by
    rw [List.flatMap_cons, List.flatMap_cons]
    exact (h x List.mem_cons_self).append (flatMap_perm fun y hy => h y (List.mem_cons_of_mem _ hy))
theorem evB_perm {r : List Tx} {b : Bx} : (spart (evB r b)).Perm (Vaflxb.boxGives r b) := by
  unfold evB Vaflxb.boxGives spart
  cases r[b.field - 1]? with
  | none => exact .nil
  | some t =>
    have e1 : ((cntP t b.left).flatMap fun x => (cntP t b.right).map fun y => (outOf t b.case_ x.1 y.1, x.2 * y.2)).filterMap (fun c : Option Tx × Nat => c.1.map fun t => (t, c.2)) =
        (somes (cntP t b.left)).flatMap fun x => (somes (cntP t b.right)).filterMap fun y => if x.1 < y.1 then some (Vaflxa.cased b.case_ ((t.take y.1).drop x.1), x.2 * y.2) else none := by
      unfold somes
      induction cntP t b.left with
      | nil => rfl
      | cons x xs ih =>
        rw [List.flatMap_cons, List.filterMap_append, ih, List.filterMap_cons]
        have e2 : ((cntP t b.right).map fun y => (outOf t b.case_ x.1 y.1, x.2 * y.2)).filterMap (fun c : Option Tx × Nat => c.1.map fun t => (t, c.2)) = match x.1 with
            | none => []
            | some a => ((cntP t b.right).filterMap fun c => c.1.map fun p => (p, c.2)).filterMap fun y => if a < y.1 then some (Vaflxa.cased b.case_ ((t.take y.1).drop a), x.2 * y.2) else none := by
          cases hx : x.1 with
          | none =>
            rw [List.filterMap_map]
            rw [List.filterMap_eq_nil_iff]
            intro y _; rfl
          | some a =>
            rw [List.filterMap_map]
            show _ = ((cntP t b.right).filterMap fun c => c.1.map fun p => (p, c.2)).filterMap _
            rw [List.filterMap_filterMap]
            refine filterMap_congr' fun y _ => ?_
            show ((outOf t b.case_ (some a) y.1).map fun t => (t, x.2 * y.2)) = _
            cases hy : y.1 with
            | none => rfl
            | some c =>
              show ((if a < c then some (Vaflxa.cased b.case_ ((t.take c).drop a)) else none).map fun t => (t, x.2 * y.2)) = if a < c then some (Vaflxa.cased b.case_ ((t.take c).drop a), x.2 * y.2) else none
              split <;> rfl
        rw [e2]
        cases hx : x.1 with
        | none => rfl
        | some a => rw [Option.map_some, List.flatMap_cons]
    rw [e1]
    refine ((somes_perm t b.left).flatMap_right _).trans (flatMap_perm fun x _ => ?_)
    exact (somes_perm t b.right).filterMap _
theorem evS_perm (s : Pcs) (r : List Tx) : (spart (evS s r)).Perm ((s.const.map fun t => (t, 1)).toList ++ s.boxes.flatMap (Vaflxb.boxGives r)) := by
  unfold evS spart
  rw [List.filterMap_append]
  have e : ((s.const.map fun t => (some t, 1)).toList).filterMap (fun c : Option Tx × Nat => c.1.map fun t => (t, c.2)) = (s.const.map fun t => (t, 1)).toList := by cases s.const <;> rfl
  rw [e, List.filterMap_flatMap]
  exact (List.Perm.refl _).append (flatMap_perm fun b _ => evB_perm)
end Ps
set_option Elab.async false
set_option linter.all false
set_option maxRecDepth 100000
set_option maxHeartbeats 2000000
namespace Ps
open PySem PySem.Spec PyProof.Rows L2 Gd
abbrev allG (s : Pcs) (r : List Tx) : List (Tx × Nat) := (s.const.map fun t => (t, 1)).toList ++ s.boxes.flatMap (Vaflxb.boxGives r)
theorem ev_filter (t : Tx) : ∀ es : List (Option Tx × Nat), (es.filter fun e => decide (e.1 = some t)).map (·.2) = ((spart es).filter fun x => decide (x.1 = t)).map (·.2)
  | [] => rfl
  | e :: es => by
    unfold spart
    rw [List.filter_cons, List.filterMap_cons]
    have ih := ev_filter t es
    unfold spart at ih
    cases h : e.1 with
    | none =>
      rw [if_neg (by simp)]
      exact ih
    | some u =>
      show _ = List.map _ (List.filter _ ((u, e.2) :: _))
      rw [List.filter_cons]
      by_cases hu : u = t
      · subst hu
        rw [if_pos (by simp), if_pos (by simp), List.map_cons, List.map_cons, ih]
      · rw [if_neg (by simp [hu]), if_neg (by simp [hu]), ih]
theorem cget_give (s : Pcs) (r : List Tx) (t : Tx) : cget (giveC s r) (some t) = cget ((allG s r).foldl (fun l x => bump l x.1 x.2) []) t := by
  rw [giveC_ev, cget_fold (fun e : Option Tx × Nat => e.1) (fun e => e.2), cget_fold (fun x : Tx × Nat => x.1) (fun x => x.2)]
  have h1 := ev_filter t (evS s r)
  have h2 : (((spart (evS s r)).filter fun x => decide (x.1 = t)).map (·.2)).Perm (((allG s r).filter fun x => decide (x.1 = t)).map (·.2)) := ((evS_perm s r).filter _).map _
  rw [← h1] at h2
  have h3 := h2.length_eq
  rw [List.length_map, List.length_map] at h3
  have h4 := h2.sum_nat
  have e0 : cget ([(none, 0)] : List (Option Tx × Nat)) (some t) = none := rfl
  rw [e0]
  by_cases hz : ((evS s r).filter fun e => decide (e.1 = some t)) = []
  · rw [if_pos hz, if_pos (List.length_eq_zero_iff.mp (by rw [← h3, hz]; rfl))]; rfl
  · rw [if_neg hz, if_neg (fun z => hz (List.length_eq_zero_iff.mp (by rw [h3, z]; rfl))), h4]; rfl
def tot {κ : Type} (cs : List (κ × Nat)) : Nat := (cs.map (·.2)).sum
theorem tot_bump {κ : Type} [DecidableEq κ] (o : κ) (n : Nat) : ∀ {cs : List (κ × Nat)}, (cs.map (·.1)).Nodup → tot (bump cs o n) = tot cs + n := by
  intro cs nd
  unfold bump tot
  cases h : cget cs o with
  | none => rw [if_neg (by simp), List.map_append, List.sum_append]; simp
  | some m =>
    rw [if_pos (by simp)]
    show ((cs.map fun c => if c.1 = o then (c.1, m + n) else c).map (·.2)).sum = _
    induction cs with
    | nil => simp [cget] at h
    | cons c cs ih =>
      rw [List.map_cons, List.nodup_cons] at nd
      rw [cget_cons] at h
      rw [List.map_cons, List.map_cons, List.map_cons, List.sum_cons, List.sum_cons]
      by_cases hc : c.1 = o
      · rw [if_pos hc] at h ⊢
        have hcs : (cs.map fun c => if c.1 = o then (c.1, m + n) else c) = cs := by
          refine (List.map_congr_left fun d hd => ?_).trans (List.map_id cs)
          rw [if_neg fun z => nd.1 (by rw [hc, ← z]; exact List.mem_map.mpr ⟨d, hd, rfl⟩)]; rfl
        rw [hcs]
        have : c.2 = m := Option.some.inj h
        show m + n + _ = _
        omega
      · rw [if_neg hc] at h ⊢
        have := ih nd.2 h
        omega
theorem tot_fold {α κ : Type} [DecidableEq κ] (f : α → κ) (n : α → Nat) : ∀ (ps : List α) {cs : List (κ × Nat)}, (cs.map (·.1)).Nodup → tot (ps.foldl (fun cs p => bump cs (f p) (n p)) cs) = tot cs + (ps.map n).sum
  | [], _, _ => rfl
  | p :: ps, cs, nd => by
    rw [List.foldl_cons, tot_fold f n ps (nodup_bump nd _ _), tot_bump _ _ nd, List.map_cons, List.sum_cons, Nat.add_assoc]
theorem tot_cntP (t : Tx) (ps : List Pos) : tot (cntP t ps) = ps.length := by
  unfold cntP
  rw [tot_fold (cs := []) (fun p => Vaflxa.placeOf p t) (fun _ => 1) ps List.nodup_nil]
  have hs : ∀ xs : List Pos, (xs.map fun _ => 1).sum = xs.length := fun xs => by
    induction xs with
    | nil => rfl
    | cons x xs ih => rw [List.map_cons, List.sum_cons, ih, List.length_cons]; omega
  rw [hs]
  show 0 + _ = _
  omega
theorem sum_mul_map {α : Type} (k : Nat) (f : α → Nat) : ∀ xs : List α, (xs.map fun y => k * f y).sum = k * (xs.map f).sum
  | [] => rfl
  | x :: xs => by rw [List.map_cons, List.map_cons, List.sum_cons, List.sum_cons, sum_mul_map k f xs, Nat.mul_add]
theorem sum_flat {α β : Type} (f : α → List β) (n : β → Nat) : ∀ xs : List α, ((xs.flatMap f).map n).sum = (xs.map fun x => ((f x).map n).sum).sum
  | [] => rfl
  | x :: xs => by rw [List.flatMap_cons, List.map_append, List.sum_append, List.map_cons, List.sum_cons, sum_flat f n xs]
theorem evB_sum (r : List Tx) (b : Bx) : ((evB r b).map (·.2)).sum = b.left.length * b.right.length := by
  unfold evB
  cases r[b.field - 1]? with
  | none => show b.left.length * b.right.length + 0 = _; omega
  | some t =>
    show (((cntP t b.left).flatMap fun x => (cntP t b.right).map fun y => (outOf t b.case_ x.1 y.1, x.2 * y.2)).map fun x => x.2).sum = _
    rw [sum_flat]
    have e : (fun x : Option Nat × Nat => (((cntP t b.right).map fun y => (outOf t b.case_ x.1 y.1, x.2 * y.2)).map fun x => x.2).sum) = fun x => b.right.length * x.2 := by
      funext x
      rw [List.map_map]
      have e2 : ((fun x : Option Tx × Nat => x.2) ∘ fun y : Option Nat × Nat => (outOf t b.case_ x.1 y.1, x.2 * y.2)) = fun y => x.2 * y.2 := rfl
      rw [e2, sum_mul_map x.2 (fun y : Option Nat × Nat => y.2), show ((cntP t b.right).map fun y => y.2).sum = b.right.length from tot_cntP t b.right, Nat.mul_comm]
    rw [e, sum_mul_map b.right.length (fun y : Option Nat × Nat => y.2), show ((cntP t b.left).map fun y => y.2).sum = b.left.length from tot_cntP t b.left, Nat.mul_comm]
theorem evS_sum (s : Pcs) (r : List Tx) : ((evS s r).map (·.2)).sum = Vaflxb.countOf s := by
  unfold evS
  rw [List.map_append, List.sum_append, sum_flat, count_eq]
  have e : (fun b : Bx => ((evB r b).map (·.2)).sum) = fun b => b.left.length * b.right.length := funext fun b => evB_sum r b
  rw [e]
  congr 1
  unfold Vaflxb.constPieces
  cases s.const <;> rfl
theorem nodup_give (s : Pcs) (r : List Tx) : ((giveC s r).map (·.1)).Nodup := by
  rw [giveC_ev]
  exact nodup_fold (fun e : Option Tx × Nat => e.1) (fun e => e.2) _ _ (by simp)
theorem give_none (s : Pcs) (r : List Tx) : ∃ c, cget (giveC s r) none = some c := by
  rw [giveC_ev, cget_fold (fun e : Option Tx × Nat => e.1) (fun e => e.2)]
  split
  · exact ⟨0, rfl⟩
  · exact ⟨_, rfl⟩
theorem tot_give (s : Pcs) (r : List Tx) : tot (giveC s r) = Vaflxb.countOf s := by
  rw [giveC_ev, tot_fold (fun e : Option Tx × Nat => e.1) (fun e => e.2) _ (by simp), evS_sum]
  show 0 + 0 + _ = _
  omega
theorem tot_split : ∀ {cs : List (Option Tx × Nat)}, (cs.map (·.1)).Nodup → tot cs = (cget cs none).getD 0 + tot (spart cs)
  | [], _ => rfl
  | c :: cs, nd => by
    rw [List.map_cons, List.nodup_cons] at nd
    have ih := tot_split nd.2
    unfold tot spart at ih ⊢
    rw [List.map_cons, List.sum_cons, cget_cons, List.filterMap_cons]
    cases h : c.1 with
    | none =>
      have hn : cget cs none = none := cget_none.mpr (by rw [← h]; exact nd.1)
      rw [hn] at ih
      rw [if_pos rfl]
      simp only [Option.getD_none, Option.getD_some, Option.map_none] at ih ⊢
      omega
    | some t =>
      rw [if_neg (by simp)]
      simp only [Option.map_some, List.map_cons, List.sum_cons]
      omega
theorem mem_spart {cs : List (Option Tx × Nat)} (nd : (cs.map (·.1)).Nodup) {t : Tx} {n : Nat} : (t, n) ∈ spart cs ↔ cget cs (some t) = some n := by
  unfold spart
  rw [List.mem_filterMap]
  constructor
  · rintro ⟨c, hc, h⟩
    cases e : c.1 with
    | none => rw [e] at h; cases h
    | some q =>
      rw [e] at h
      cases h
      obtain ⟨i, hi⟩ := List.mem_iff_getElem?.mp hc
      have := cget_at nd hi
      rwa [e] at this
  · intro h
    unfold cget at h
    rw [Option.map_eq_some_iff] at h
    obtain ⟨c, hc, rfl⟩ := h
    have h0 := List.find?_some hc
    have h1 := of_decide_eq_true h0
    exact ⟨c, List.mem_of_find?_eq_some hc, by rw [h1]; rfl⟩
theorem mem_cs {κ : Type} [DecidableEq κ] {cs : List (κ × Nat)} (nd : (cs.map (·.1)).Nodup) {t : κ} {n : Nat} : (t, n) ∈ cs ↔ cget cs t = some n := by
  constructor
  · intro hc
    obtain ⟨i, hi⟩ := List.mem_iff_getElem?.mp hc
    exact cget_at nd hi
  · intro h
    unfold cget at h
    rw [Option.map_eq_some_iff] at h
    obtain ⟨c, hc, rfl⟩ := h
    have h0 := List.find?_some hc
    have h1 := of_decide_eq_true h0
    rw [← h1]
    exact List.mem_of_find?_eq_some hc
theorem nodup_spart {cs : List (Option Tx × Nat)} (nd : (cs.map (·.1)).Nodup) : ((spart cs).map (·.1)).Nodup := by
  unfold spart
  rw [List.map_filterMap]
  unfold List.Nodup at nd ⊢
  rw [List.pairwise_map] at nd
  refine nd.filterMap _ ?_
  intro a a' hne b hb b' hb' e
  subst e
  cases e1 : a.1 with
  | none => rw [e1] at hb; cases hb
  | some p =>
    cases e2 : a'.1 with
    | none => rw [e2] at hb'; cases hb'
    | some q =>
      rw [e1] at hb
      rw [e2] at hb'
      have hb : p = b := by simpa using hb
      have hb' : q = b := by simpa using hb'
      exact hne (by rw [e1, e2, hb, hb'])
theorem nodup_pairs {κ : Type} {cs : List (κ × Nat)} (nd : (cs.map (·.1)).Nodup) : cs.Nodup := by
  unfold List.Nodup at nd ⊢
  rw [List.pairwise_map] at nd
  exact nd.imp fun h e => h (by rw [e])
abbrev gOf (s : Pcs) (r : List Tx) : List (Tx × Nat) := (allG s r).foldl (fun l x => bump l x.1 x.2) []
theorem nodup_gOf (s : Pcs) (r : List Tx) : ((gOf s r).map (·.1)).Nodup := nodup_fold (fun x : Tx × Nat => x.1) (fun x => x.2) _ _ List.nodup_nil
theorem spart_perm (s : Pcs) (r : List Tx) : (spart (giveC s r)).Perm (gOf s r) := by
  rw [List.perm_ext_iff_of_nodup (nodup_pairs (nodup_spart (nodup_give s r))) (nodup_pairs (nodup_gOf s r))]
  rintro ⟨t, n⟩
  rw [mem_spart (nodup_give s r), cget_give, mem_cs (nodup_gOf s r)]
/-! ### the order of texts -/
def tLe : Tx → Tx → Bool := PySem.W.dataLe false dT
theorem tLe_eq (a b : Tx) : tLe a b = !Vaflxa.textAhead b a := by
  unfold tLe
  rw [dataLe_lt, lt_dT]
theorem ahead_anti : ∀ {a b : Tx}, Vaflxa.textAhead a b = false → Vaflxa.textAhead b a = false → a = b
  | [], [], _, _ => rfl
  | [], _ :: _, h, _ => by simp [Vaflxa.textAhead] at h
  | _ :: _, [], _, h => by simp [Vaflxa.textAhead] at h
  | c :: a, d :: b, h1, h2 => by
    unfold Vaflxa.textAhead at h1 h2
    rw [Bool.or_eq_false_iff] at h1 h2
    have n1 := of_decide_eq_false h1.1
    have n2 := of_decide_eq_false h2.1
    have e : c = d := by
      apply UInt8.toNat_inj.mp
      rw [UInt8.lt_iff_toNat_lt] at n1 n2
      omega
    subst e
    have q1 := h1.2
    have q2 := h2.2
    rw [show (c == c) = true from beq_self_eq_true c, Bool.true_and] at q1 q2
    rw [ahead_anti q1 q2]
theorem tLe_anti {a b : Tx} (h1 : tLe a b = true) (h2 : tLe b a = true) : a = b := by
  rw [tLe_eq] at h1 h2
  exact ahead_anti (by simpa using h2) (by simpa using h1)
theorem gives_sorted (s : Pcs) (r : List Tx) : Vaflxb.givesOf s r = (gOf s r).mergeSort (fun a b => tLe a.1 b.1) := by
  unfold Vaflxb.givesOf
  simp only []
  rw [fold_countText _ [] List.nodup_nil]
  exact sortBy_eq (le := PySem.W.dataLe false fun x : Tx × Nat => dT x.1) (total_dataLe _) (fun a b => by rw [dataLe_lt, lt_dT]; simp) _
def textsC (cs : List (Option Tx × Nat)) : List Tx := (spart cs).map (·.1)
theorem gives_texts (s : Pcs) (r : List Tx) : (Vaflxb.givesOf s r).map (·.1) = (textsC (giveC s r)).mergeSort tLe := by
  rw [gives_sorted]
  have e := PySem.W.sort_maps (r := fun a b : Tx × Nat => tLe a.1 b.1) (s := tLe) (fun x : Tx × Nat => x.1) (l := gOf s r) (fun a _ b _ => rfl)
  rw [e]
  have tt : PySem.W.TotalLe tLe := total_dataLe dT
  refine List.Perm.eq_of_pairwise (le := fun a b => tLe a b = true) (fun a b _ _ h1 h2 => tLe_anti h1 h2) (PySem.W.sort_pairwise tt _) (PySem.W.sort_pairwise tt _) ?_
  refine (List.mergeSort_perm _ _).trans (.trans ?_ (List.mergeSort_perm _ _).symm)
  exact ((spart_perm s r).map _).symm
/-- the answer of gives -/
theorem gives_law {s : Pcs} {r : List Tx} (hg : Vaflxa.goodRecord r = true) :
    (if 100 < (spart (giveC s r)).length then [-7] else (0 : Int) :: Vaflxb.nat ((cget (giveC s r) none).getD 0) :: (((textsC (giveC s r)).mergeSort tLe).flatMap fun t => Vaflxb.nat ((cget (giveC s r) (some t)).getD 0) :: Vaflxb.nat t.length :: Vaflxb.numbers t)) = Vaflxb.givesAnswer s r := by
  have hperm : (Vaflxb.givesOf s r).Perm (spart (giveC s r)) := by
    rw [gives_sorted]
    exact (List.mergeSort_perm _ _).trans (spart_perm s r).symm
  have hga : Vaflxb.givesAnswer s r = if 100 < (Vaflxb.givesOf s r).length then [-7] else (0 : Int) :: Vaflxb.nat (Vaflxb.countOf s - Vaflxb.sum ((Vaflxb.givesOf s r).map fun x => x.2)) :: (Vaflxb.givesOf s r).flatMap fun x => Vaflxb.nat x.2 :: Vaflxb.nat x.1.length :: Vaflxb.numbers x.1 := by
    unfold Vaflxb.givesAnswer
    rw [hg]; rfl
  rw [hga, hperm.length_eq]
  by_cases h : 100 < (spart (giveC s r)).length
  · rw [if_pos h, if_pos h]
  · rw [if_neg h, if_neg h]
    have h1 := tot_give s r
    rw [tot_split (nodup_give s r)] at h1
    have h2 : Vaflxb.sum ((Vaflxb.givesOf s r).map fun x => x.2) = tot (spart (giveC s r)) := by
      rw [sum_eq]
      exact (hperm.map _).sum_nat
    rw [h2, ← gives_texts, List.flatMap_map]
    have h3 : (cget (giveC s r) none).getD 0 = Vaflxb.countOf s - tot (spart (giveC s r)) := by omega
    rw [h3]
    congr 2
    refine flatMap_congr' fun x hx => ?_
    have := (mem_spart (nodup_give s r)).mp (show (x.1, x.2) ∈ _ from hperm.mem_iff.mp hx)
    rw [this]; rfl
theorem event_len {s : Pcs} {r : List Tx} (hr : ∀ t ∈ r, good t) (hc : ∀ t, s.const = some t → t.length ≤ 12) : ∀ t n, (some t, n) ∈ evS s r → t.length ≤ 40 := by
  intro t n h
  unfold evS at h
  rw [List.mem_append] at h
  rcases h with h | h
  · cases e : s.const with
    | none => rw [e] at h; exact nomatch h
    | some c =>
      rw [e] at h
      simp at h
      have := hc c e
      rw [h.1]; omega
  · rw [List.mem_flatMap] at h
    obtain ⟨b, _, h⟩ := h
    unfold evB at h
    cases e : r[b.field - 1]? with
    | none => rw [e] at h; simp at h
    | some f =>
      rw [e] at h
      have h : (some t, n) ∈ (cntP f b.left).flatMap fun x => (cntP f b.right).map fun y => (outOf f b.case_ x.1 y.1, x.2 * y.2) := h
      rw [List.mem_flatMap] at h
      obtain ⟨x, _, h⟩ := h
      rw [List.mem_map] at h
      obtain ⟨y, _, h⟩ := h
      have h : outOf f b.case_ x.1 y.1 = some t := (Prod.mk.inj h).1
      cases h1 : x.1 with
      | none => rw [h1] at h; cases h
      | some a =>
        cases h2 : y.1 with
        | none => rw [h1, h2] at h; cases h
        | some c =>
          rw [h1, h2] at h
          have h : (if a < c then some (Vaflxa.cased b.case_ ((f.take c).drop a)) else none) = some t := h
          split at h
          · cases h
            rw [cased_len, List.length_drop, List.length_take]
            have := (hr f (List.mem_of_getElem? e)).1
            omega
          · cases h
theorem give_len {s : Pcs} {r : List Tx} (hr : ∀ t ∈ r, good t) (hc : ∀ t, s.const = some t → t.length ≤ 12) {t : Tx} {n : Nat} (h : cget (giveC s r) (some t) = some n) : t.length ≤ 40 := by
  rw [giveC_ev, cget_fold (fun e : Option Tx × Nat => e.1) (fun e => e.2)] at h
  split at h
  · cases h
  · rename_i hne
    cases e : (evS s r).filter fun p => decide (p.1 = some t) with
    | nil => exact absurd e hne
    | cons x xs =>
      have hm : x ∈ (evS s r).filter fun p => decide (p.1 = some t) := by rw [e]; exact List.mem_cons_self
      rw [List.mem_filter] at hm
      have h1 := of_decide_eq_true hm.2
      exact event_len hr hc t x.2 (by rw [← h1]; exact hm.1)
end Ps
namespace Ps
open PySem PySem.Spec PyProof.Rows L2 Gd
theorem cntP_key {t : Tx} {l : List Pos} {c : Nat} {n : Nat} (h : (some c, n) ∈ cntP t l) : c ≤ t.length := by
  have h1 := (mem_cs (nodup_cntP t l)).mp h
  rw [cget_cntP] at h1
  split at h1
  · cases h1
  · rename_i hne; exact cntOf_pos hne
theorem event_ne {s : Pcs} {r : List Tx} (hc : ∀ t, s.const = some t → 1 ≤ t.length) : ∀ t n, (some t, n) ∈ evS s r → t ≠ [] := by
  intro t n h
  unfold evS at h
  rw [List.mem_append] at h
  rcases h with h | h
  · cases e : s.const with
    | none => rw [e] at h; exact nomatch h
    | some c =>
      rw [e] at h
      simp at h
      have := hc c e
      rw [h.1]
      intro z; rw [z] at this; cases this
  · rw [List.mem_flatMap] at h
    obtain ⟨b, _, h⟩ := h
    unfold evB at h
    cases e : r[b.field - 1]? with
    | none => rw [e] at h; simp at h
    | some f =>
      rw [e] at h
      have h : (some t, n) ∈ (cntP f b.left).flatMap fun x => (cntP f b.right).map fun y => (outOf f b.case_ x.1 y.1, x.2 * y.2) := h
      rw [List.mem_flatMap] at h
      obtain ⟨x, _, h⟩ := h
      rw [List.mem_map] at h
      obtain ⟨y, hy, h⟩ := h
      have h : outOf f b.case_ x.1 y.1 = some t := (Prod.mk.inj h).1
      cases h1 : x.1 with
      | none => rw [h1] at h; cases h
      | some a =>
        cases h2 : y.1 with
        | none => rw [h1, h2] at h; cases h
        | some c =>
          have hcl : c ≤ f.length := cntP_key (n := y.2) (by rw [← h2]; exact hy)
          rw [h1, h2] at h
          have h : (if a < c then some (Vaflxa.cased b.case_ ((f.take c).drop a)) else none) = some t := h
          split at h
          · rename_i hac
            cases h
            intro z
            have := cased_len b.case_ ((f.take c).drop a)
            rw [z, List.length_drop, List.length_take] at this
            simp only [List.length_nil] at this
            omega
          · cases h
theorem give_ne {s : Pcs} {r : List Tx} (hc : ∀ t, s.const = some t → 1 ≤ t.length) {t : Tx} {n : Nat} (h : cget (giveC s r) (some t) = some n) : t ≠ [] := by
  rw [giveC_ev, cget_fold (fun e : Option Tx × Nat => e.1) (fun e => e.2)] at h
  split at h
  · cases h
  · rename_i hne
    cases e : (evS s r).filter fun p => decide (p.1 = some t) with
    | nil => exact absurd e hne
    | cons x xs =>
      have hm : x ∈ (evS s r).filter fun p => decide (p.1 = some t) := by rw [e]; exact List.mem_cons_self
      rw [List.mem_filter] at hm
      have h1 := of_decide_eq_true hm.2
      exact event_ne hc t x.2 (by rw [← h1]; exact hm.1)
end Ps
set_option Elab.async false
set_option linter.all false
set_option maxRecDepth 100000
set_option maxHeartbeats 2000000
namespace Ps
open PySem PySem.Spec PyProof.Rows L2 Gd
def ansStand (t : Tx) : Hd → List Int
  | .positions l => Vaflxb.standsAnswer l t
  | .pieces _ => [-4]
def ansGives (r : List Tx) : Hd → List Int
  | .positions _ => [-4]
  | .pieces s => Vaflxb.givesAnswer s r
theorem goodR {r : List Tx} (h : Vaflxa.goodRecord r = true) : (∀ t ∈ r, good t) ∧ r.length ≤ 4 := by
  unfold Vaflxa.goodRecord at h
  rw [Bool.and_eq_true, Bool.and_eq_true, decide_eq_true_eq, decide_eq_true_eq] at h
  exact ⟨fun t ht => good_iff.mp (List.all_eq_true.mp h.2 t ht), h.1.2⟩
theorem somes_fst (cs : List (Option Nat × Nat)) : (somes cs).map (fun x => ((x.1 : Nat) : Int)) = (cs.filterMap (·.1)).map fun p => ((p : Nat) : Int) := by
  unfold somes
  induction cs with
  | nil => rfl
  | cons c cs ih =>
    rw [List.filterMap_cons, List.filterMap_cons]
    cases h : c.1 with
    | none => exact ih
    | some p => rw [Option.map_some, List.map_cons, List.map_cons, ih]
theorem cent_drop {κ : Type} [DecidableEq κ] {RK : V → κ → Prop} {kk : κ → NestedKey} (hi : ∀ a b, kk a = kk b → a = b) (o : κ) : ∀ {xs : List Ent} {cs : List (κ × Nat)}, All2 (CEnt RK kk) xs cs → All2 (CEnt RK kk) (dropE xs (kk o)) (cs.filter fun c => decide (c.1 ≠ o))
  | [], [], _ => trivial
  | e :: xs, c :: cs, ⟨h1, t⟩ => by
    unfold dropE
    rw [List.filter_cons, List.filter_cons]
    have ih := cent_drop hi o t
    unfold dropE at ih
    by_cases h : c.1 = o
    · rw [if_neg (by rw [h1.1, h]; simp), if_neg (by simp [h])]; exact ih
    · rw [if_pos (by rw [h1.1]; exact decide_eq_true fun z => h (hi _ _ z)), if_pos (decide_eq_true h)]; exact ⟨h1, ih⟩
  | [], _ :: _, z => z.elim
  | _ :: _, [], z => z.elim
theorem spart_drop (cs : List (Option Tx × Nat)) : spart (cs.filter fun c => decide (c.1 ≠ none)) = spart cs ∧ (cs.filter fun c => decide (c.1 ≠ none)).length = (spart cs).length := by
  unfold spart
  induction cs with
  | nil => exact ⟨rfl, rfl⟩
  | cons c cs ih =>
    rw [List.filter_cons, List.filterMap_cons]
    cases h : c.1 with
    | none => rw [if_neg (by simp)]; exact ih
    | some t =>
      rw [if_pos (by simp), List.filterMap_cons, h]
      simp only [Option.map_some, List.length_cons]
      rw [ih.1, ih.2]
      exact ⟨rfl, rfl⟩
theorem drop_texts {K : PySem.W.Frag} {D : Hp} : ∀ {xs : List Ent} {cs : List (Option Tx × Nat)}, (∀ c ∈ cs, c.1 ≠ none) → TD K D xs cs → All2 (BT K D) (xs.map (·.2.1)) (textsC cs)
  | [], [], _, _ => trivial
  | e :: xs, c :: cs, hn, ⟨h1, t⟩ => by
    unfold textsC spart
    rw [List.filterMap_cons]
    have ih := drop_texts (fun x hx => hn x (List.mem_cons_of_mem _ hx)) t
    unfold textsC spart at ih
    cases h : c.1 with
    | none => exact absurd h (hn c List.mem_cons_self)
    | some u =>
      have h2 := h1.2.1
      rw [h] at h2
      exact ⟨h2, ih⟩
  | [], _ :: _, _, z => z.elim
  | _ :: _, [], _, z => z.elim
theorem allAlike_dT {β : Type} (g : β → Tx) (xs : List β) : PySem.W.AllAlike (xs.map fun x => dT (g x)) := by
  intro d hd d' hd'
  rw [List.mem_map] at hd hd'
  obtain ⟨_, _, rfl⟩ := hd
  obtain ⟨_, _, rfl⟩ := hd'
  exact alike_ints _ _
theorem depth_dT (t : Tx) : (dT t).depth ≤ 8 := by
  show PyData.depthAll (t.map fun c => .int (c.toNat : Int)) + 1 ≤ 8
  rw [(shaped_ints t).2]; decide
section
variable {P : Program} {w : World} {K : PySem.W.Frag} {mg : Str → Option Value} {base : Heap} {CP CB CPs CPc CS CC : Addr} {f : Addr} {fd : FuncData}
def sp_stands (w : World) (K : PySem.W.Frag) (CP CB CPs CPc CS CC : Addr) : Sp := fun vs H Q _ => ∃ D v h fv t, vs = [v, fv] ∧ Sub D H ∧ HeldAt K w CP CB CPs D v h ∧ wfH h ∧ BL D fv t ∧ t.length ≤ 100000 ∧ ∀ D' H' r, Grow [] D H D' H' → AL D' r (ansStand t h) → Q r H'
abbrev s_stands : Stmt := topS 96
theorem sc_stands : FnScope ["some", "field", "counts", "row", "place"] ["some", "field"] (defScope s_stands) := ⟨rfl, rfl, rfl, by decide +kernel, rfl, by decide +kernel, by decide +kernel⟩
theorem ok_stands (F : Fun K "stands" "stands" s_stands f fd) (T : Txt K mg CP CB CPs CPc CS CC) (C_counts_by_place : Def P w K mg base 7 "counts_by_place" ["positions", "field"] (sp_counts_by_place w K CP CB CPs CPc CS CC)) (C_is_field : Def P w K mg base 1 "is_field" ["row"] (sp_is_field w K CP CB CPs CPc CS CC)) (C_is_pieces : Def P w K mg base 1 "is_pieces" ["some"] (sp_is_pieces w K CP CB CPs CPc CS CC)) : FnOk P w K mg base CX0 8 f fd ["some", "field"] (sp_stands w K CP CB CPs CPc CS CC) := by
  refine F.ok sc_stands (fun vs H Q E h => ?_) (fun cdv A outer s H vs Q E hr h => ?_)
  · obtain ⟨_, _, _, _, _, rfl, _⟩ := h; rfl
  · obtain ⟨D, v, h, fv, t, rfl, hs, hh, hw, hbt, htl, k⟩ := h
    refine ⟨_, (pss_cons (ps_if (pt_val (pe_callD C_is_pieces (hr.mono (by decide)) (by rfl) (pa_cons (pv 0) pa_nil))) (pss_one (ps_ret (pe_lst (pa_cons (pe_const (by rfl) T.g_WRONG_SORT) pa_nil)))) pss_nil)
      (pss_cons (ps_if (pt_not (pt_val (pe_callD C_is_field (hr.mono (by decide)) (by rfl) (pa_cons (pv 1) pa_nil)))) (pss_one (ps_ret (pe_lst (pa_cons (pe_const (by rfl) T.g_NO_TEXT) pa_nil)))) pss_nil)
      (pss_cons (ps_set (i := 2) sc_stands.nd rfl (by first | exact Or.inl rfl | exact Or.inr rfl) (pe_callD C_counts_by_place (hr.mono (by decide)) (by rfl) (pa_cons (pv 0) (pa_cons (pv 1) pa_nil))))
      (pss_cons (ps_set (i := 3) sc_stands.nd rfl (by first | exact Or.inl rfl | exact Or.inr rfl) (pe_lst (pa_cons pe_int (pa_cons (pe_bmG PySem.F.slot_dict_get PySem.F.type_dict_get (mt_getG2 hr.units) (pv 2) (pa_cons pe_non (pa_cons pe_int pa_nil))) pa_nil))))
      (pss_cons (ps_for PassesOwn.never rfl (pi_list (pe_callB cr_sortedI (by rfl) T.m_sorted b_sorted (pa_cons (pe_lc (own := [("place", 4)]) (g := gName 4) rfl sc_stands.nd (pi_G (pv 2)) (blkOk_by (own := [("place", 4)]) (N := ["some", "field", "counts", "row", "place"]) (sc := defScope s_stands) (by decide +kernel)) (fun _ _ _ _ _ => pg_name (i := 4) sc_stands.nd rfl (Or.inl rfl)) (fun _ _ _ _ _ => (pts_one (pt_cmpR op_notN (pv 4) pe_non (nomark _)))) (fun _ _ _ _ _ => (pv 4))) pa_nil))) (pg_name (i := 4) sc_stands.nd rfl (by first | exact Or.inl rfl | exact Or.inr rfl)) (pss_one (ps_expr (pe_bm PySem.F.plainAttrs_list PySem.F.slot_list_extend PySem.F.type_list_extend mt_extend (pv 3) (pa_cons (pe_lst (pa_cons (pv 4) (pa_cons (pe_getG hr.units (pv 2) (pv 4) (fun _ _ => rfl)) pa_nil))) pa_nil)))))
      (pss_one (ps_ret (pv 3)))))))), ?_⟩
    refine ⟨_, rfl, D, v, h, rfl, hs, hh, _, rfl, ?_⟩
    cases h with
    | pieces s =>
      refine iteT ⟨sz1, fun p hp => ?_⟩
      have g2 := Grow.fresh (M := []) (u := .lst [V.int (-4)]) hs hp
      exact k _ _ _ g2 ⟨p, rfl, upd_same⟩
    | positions l =>
      have k : ∀ D' H' r, Grow [] D H D' H' → AL D' r (Vaflxb.standsAnswer l t) → Q r H' := k
      have hh : PSet K w CP D v l := hh
      refine iteF ⟨_, rfl, D, t, fv, rfl, hs, hbt, htl, fun H1 hH1 => ⟨_, rfl, ?_⟩⟩
      have g1 := Grow.of_same (M := []) hs hH1
      cases hg : Vaflxb.goodField t with
      | false =>
        refine iteT ⟨sz1, fun p hp => ?_⟩
        have g2 := Grow.fresh (M := []) (u := .lst [V.int (-5)]) g1.s hp
        refine k _ _ _ (g1.trans g2) ⟨p, rfl, ?_⟩
        rw [upd_same]
        unfold Vaflxb.standsAnswer
        rw [hg]; rfl
      | true =>
        have hgt := good_iff.mp hg
        refine iteF ⟨_, rfl, _, rfl, D, l, t, v, fv, rfl, g1.s, hh, hw.wf, hw.nd, Nat.le_trans hw.len (by decide), hbt, hgt, fun D2 H2 r2 g2 b2 => ?_⟩
        obtain ⟨d, xs, ep, rfl, hd, z⟩ := b2
        have zl := z.length
        have hcl := cntP_le t l
        have hwl := hw.len
        have nd := nodup_cntP t l
        have G2 := g1.trans g2
        refine ⟨_, rfl, ⟨d, xs, ep, rfl, g2.s _ _ hd⟩, _, _, d, xs, ep, oK none, rfl, ⟨rfl, g2.s _ _ hd, pkeys z, oK_of none⟩, ?_⟩
        have hget : ∀ o, (getE xs (oK o)).getD (.int 0) = nv ((cget (cntP t l) o).getD 0) := fun o => by
          rw [cent_get (fun _ _ => oK_inj) _ z]
          cases cget (cntP t l) o <;> rfl
        rw [hget]
        refine ⟨sz2, fun p hp => ?_⟩
        have o1 : Own D2 H2 D2 (upd H2 p (.lst [.int 0, nv ((cget (cntP t l) none).getD 0)])) p (.lst [.int 0, nv ((cget (cntP t l) none).getD 0)]) := Own.mk' (Grow.refl g2.s) hp
        refine ⟨_, rfl, d, xs, ep, rfl, o1.g.s _ _ hd, fun L hL => lc_it walk_G (fun i H' => H' = upd (upd H2 p (.lst [.int 0, nv ((cget (cntP t l) none).getD 0)])) L (.lst ((((cntP t l).take i).filterMap (·.1)).map nv))) rfl ?_ ?_ ?_⟩
        · rintro i H' hi rfl
          rw [upd_ne (ne_of_none (o1.g.s _ _ hd) hL)]; exact o1.g.s _ _ hd
        · rintro i x H' H3 hi rfl ⟨rfl, e, he, rfl⟩
          obtain ⟨⟨o, n⟩, hc, hek, _⟩ := cent_at oK_inj2 z nd he
          have hek : e.2.1 = oV o := hek
          rw [hek]
          refine ⟨rfl, _, rfl, rfl, _, rfl, ?_⟩
          have hsp : ((cntP t l).take (i + 1)).filterMap (·.1) = ((cntP t l).take i).filterMap (·.1) ++ o.toList := filterMap_take (fun c : Option Nat × Nat => c.1) _ _ _ hc
          cases o with
          | none =>
            refine iteF ?_
            rw [hsp]; simp
          | some m =>
            refine iteT ⟨_, rfl, _, upd_same, ?_, ?_⟩
            · rw [List.length_map]
              exact small_lt (Nat.le_trans (List.length_filterMap_le _ _) (by rw [List.length_take]; omega))
            · rw [upd_upd, hsp, List.map_append]; rfl
        · rintro H' rfl
          rw [List.take_of_length_le (by omega)]
          have o2 := o1.tmp (v := .lst (((cntP t l).filterMap (·.1)).map nv)) hL
          refine ⟨L, ((cntP t l).filterMap (·.1)).map fun q => ((q : Nat) : Int), rfl, SqL.of (by rw [upd_same, List.map_map]; rfl), fun ns q hpm hso hq => ?_⟩
          have hlaw := stand_law (l := l) (t := t) hgt (ns := ns) (by rw [somes_fst]; exact hpm) hso
          have o3 := o2.tmp (v := .lst (ns.map V.int)) hq
          have hpq : q ≠ p := fun e => by rw [e, o2.at_] at hq; cases hq
          have hnl : ns.length ≤ 34 := by
            rw [hpm.length_eq, List.length_map]
            exact Nat.le_trans (List.length_filterMap_le _ _) (by omega)
          have hq3 : (upd (upd (upd H2 p (.lst [.int 0, nv ((cget (cntP t l) none).getD 0)])) L (.lst (((cntP t l).filterMap (·.1)).map nv))) q (.lst (ns.map V.int))) q = some (.lst (ns.map V.int)) := upd_same
          generalize (upd (upd (upd H2 p (.lst [.int 0, nv ((cget (cntP t l) none).getD 0)])) L (.lst (((cntP t l).filterMap (·.1)).map nv))) q (.lst (ns.map V.int))) = H3 at *
          refine ⟨q, rfl, ⟨_, SqL.of hq3⟩, for_it (walk_list (xs := ns.map V.int)) (fun i σ H' => ∃ x4, σ = [some v, some fv, some (.ref d), some (.ref p), x4] ∧ Own D2 H2 D2 H' p (.lst (((0 : Int) :: Vaflxb.nat ((cget (cntP t l) none).getD 0) :: ((ns.take i).flatMap fun z => [z, Vaflxb.nat ((cget (cntP t l) (some z.toNat)).getD 0)])).map V.int)) ∧ H' q = some (.lst (ns.map V.int))) ?_ ?_ ?_ ?_⟩
          · exact ⟨_, rfl, o3, hq3⟩
          · rintro i σ H' hi ⟨x4, rfl, o, hq'⟩
            exact SqL.of hq'
          · rintro i x σ H0 H' hi ⟨x4, rfl, o, hq'⟩ ⟨rfl, hx⟩
            rw [List.getElem?_map] at hx
            cases hc : ns[i]? with
            | none => rw [hc] at hx; cases hx
            | some z0 =>
              rw [hc] at hx; cases hx
              have hmem := hpm.mem_iff.mp (List.mem_of_getElem? hc)
              rw [List.mem_map] at hmem
              obtain ⟨m, hm, rfl⟩ := hmem
              rw [List.mem_filterMap] at hm
              obtain ⟨⟨om, n⟩, hcm, hom⟩ := hm
              have hom : om = some m := hom
              subst hom
              have hcg : cget (cntP t l) (some m) = some n := (mem_cs nd).mp hcm
              have hgm : getE xs (oK (some m)) = some (nv n) := by rw [cent_get (fun _ _ => oK_inj) _ z, hcg]; rfl
              refine ⟨_, rfl, .inl ⟨rfl, _, SqL.of o.at_⟩, _, rfl, _, rfl, _, rfl, d, xs, ep, oK (some m), _, ⟨rfl, o.g.s _ _ hd, pkeys z, oK_of (some m)⟩, hgm, sz2, fun y hy => ?_⟩
              have o4 := o.tmp (v := .lst [.int ((m : Nat) : Int), nv n]) hy
              have hqy : q ≠ y := ne_of_none hq' hy
              have hfl : ∀ ms : List Int, (ms.flatMap fun z => [z, Vaflxb.nat ((cget (cntP t l) (some z.toNat)).getD 0)]).length = 2 * ms.length := fun ms => by
                induction ms with
                | nil => rfl
                | cons a ms ih => rw [List.flatMap_cons, List.length_append, ih]; show 2 + 2 * ms.length = 2 * (ms.length + 1); omega
              refine ⟨p, y, _, _, rfl, rfl, o4.at_, upd_same, ?_, ?_⟩
              · rw [List.length_map, List.length_cons, List.length_cons, hfl, List.length_take]
                exact small_le (by show _ + 2 ≤ _; omega)
              · refine ⟨_, rfl, ?_, by rw [upd_ne hpq, upd_ne hqy]; exact hq'⟩
                have e : (((0 : Int) :: Vaflxb.nat ((cget (cntP t l) none).getD 0) :: ((ns.take (i + 1)).flatMap fun z => [z, Vaflxb.nat ((cget (cntP t l) (some z.toNat)).getD 0)])).map V.int) = (((0 : Int) :: Vaflxb.nat ((cget (cntP t l) none).getD 0) :: ((ns.take i).flatMap fun z => [z, Vaflxb.nat ((cget (cntP t l) (some z.toNat)).getD 0)])).map V.int) ++ [.int ((m : Nat) : Int), nv n] := by
                  rw [flatMap_take _ _ _ _ hc]
                  simp [Vaflxb.nat, hcg]
                rw [e]
                exact o4.set
          · rintro σ H' ⟨x4, rfl, o, hq'⟩
            refine ⟨_, rfl, ?_⟩
            rw [List.take_of_length_le (by simp), hlaw] at o
            obtain ⟨G, S, at1⟩ := Own.fin g2.s o
            exact k _ _ _ (G2.trans G) ⟨p, rfl, at1⟩
def sp_gives (w : World) (K : PySem.W.Frag) (CP CB CPs CPc CS CC : Addr) : Sp := fun vs H Q _ => ∃ D v h rv r, vs = [v, rv] ∧ Sub D H ∧ HeldAt K w CP CB CPs D v h ∧ wfH h ∧ RecAt D rv r ∧ (∀ t ∈ r, t.length ≤ 100000) ∧ r.length ≤ 100000 ∧ ∀ D' H' x, Grow [] D H D' H' → AL D' x (ansGives r h) → Q x H'
abbrev s_gives : Stmt := topS 99
theorem sc_gives : FnScope ["some", "fields", "found", "row", "text"] ["some", "fields"] (defScope s_gives) := ⟨rfl, rfl, rfl, by decide +kernel, rfl, by decide +kernel, by decide +kernel⟩
theorem ok_gives (F : Fun K "gives" "gives" s_gives f fd) (T : Txt K mg CP CB CPs CPc CS CC) (C_given : Def P w K mg base 9 "given" ["pieces", "record"] (sp_given w K CP CB CPs CPc CS CC)) (C_is_pieces : Def P w K mg base 1 "is_pieces" ["some"] (sp_is_pieces w K CP CB CPs CPc CS CC)) (C_is_record : Def P w K mg base 2 "is_record" ["fields"] (sp_is_record w K CP CB CPs CPc CS CC)) : FnOk P w K mg base CX0 10 f fd ["some", "fields"] (sp_gives w K CP CB CPs CPc CS CC) := by
  refine F.ok sc_gives (fun vs H Q E h => ?_) (fun cdv A outer s H vs Q E hr h => ?_)
  · obtain ⟨_, _, _, _, _, rfl, _⟩ := h; rfl
  · obtain ⟨D, v, h, rv, r, rfl, hs, hh, hw, hrec, hrl, hrn, k⟩ := h
    refine ⟨_, (pss_cons (ps_if (pt_not (pt_val (pe_callD C_is_pieces (hr.mono (by decide)) (by rfl) (pa_cons (pv 0) pa_nil)))) (pss_one (ps_ret (pe_lst (pa_cons (pe_const (by rfl) T.g_WRONG_SORT) pa_nil)))) pss_nil)
      (pss_cons (ps_if (pt_not (pt_val (pe_callD C_is_record (hr.mono (by decide)) (by rfl) (pa_cons (pv 1) pa_nil)))) (pss_one (ps_ret (pe_lst (pa_cons (pe_const (by rfl) T.g_NO_TEXT) pa_nil)))) pss_nil)
      (pss_cons (ps_set (i := 2) sc_gives.nd rfl (by first | exact Or.inl rfl | exact Or.inr rfl) (pe_callD C_given (hr.mono (by decide)) (by rfl) (pa_cons (pv 0) (pa_cons (pv 1) pa_nil))))
      (pss_cons (ps_set (i := 3) sc_gives.nd rfl (by first | exact Or.inl rfl | exact Or.inr rfl) (pe_lst (pa_cons pe_int (pa_cons (pe_bmG PySem.F.slot_dict_pop PySem.F.type_dict_pop (mt_popG hr.units) (pv 2) (pa_cons pe_non pa_nil)) pa_nil))))
      (pss_cons (ps_if (pt_cmpR op_gt (pe_callB call_lenG (by rfl) T.m_len b_len (pa_cons (pv 2) pa_nil)) (pe_const (by rfl) T.g_MOST_GIVEN) (nomark _)) (pss_one (ps_ret (pe_lst (pa_cons (pe_const (by rfl) T.g_TOO_MANY) pa_nil)))) pss_nil)
      (pss_cons (ps_for PassesOwn.never rfl (pi_list (pe_callB (call_sortedG rfl hr.units) (by rfl) T.m_sorted b_sorted (pa_cons (pv 2) pa_nil))) (pg_name (i := 4) sc_gives.nd rfl (by first | exact Or.inl rfl | exact Or.inr rfl)) (pss_one (ps_expr (pe_bm PySem.F.plainAttrs_list PySem.F.slot_list_extend PySem.F.type_list_extend mt_extend (pv 3) (pa_cons (pe_op op_cat (pe_lst (pa_cons (pe_getG hr.units (pv 2) (pv 4) (fun _ _ => rfl)) (pa_cons (pe_callB call_len (by rfl) T.m_len b_len (pa_cons (pv 4) pa_nil)) pa_nil))) (pe_callTy call_list_of (by rfl) T.m_list b_list (pa_cons (pv 4) pa_nil))) pa_nil)))))
      (pss_one (ps_ret (pv 3))))))))), ?_⟩
    refine ⟨_, rfl, D, v, h, rfl, hs, hh, _, rfl, ?_⟩
    cases h with
    | positions l =>
      refine iteT ⟨sz1, fun p hp => ?_⟩
      have g2 := Grow.fresh (M := []) (u := .lst [V.int (-4)]) hs hp
      exact k _ _ _ g2 ⟨p, rfl, upd_same⟩
    | pieces s =>
      have k : ∀ D' H' x, Grow [] D H D' H' → AL D' x (Vaflxb.givesAnswer s r) → Q x H' := k
      have hh : PcsAt K w CP CB CPs D v s := hh
      refine iteF ⟨_, rfl, D, r, rv, rfl, hs, hrec, hrl, hrn, fun H1 hH1 => ⟨_, rfl, ?_⟩⟩
      have g1 := Grow.of_same (M := []) hs hH1
      cases hg : Vaflxa.goodRecord r with
      | false =>
        refine iteT ⟨sz1, fun p hp => ?_⟩
        have g2 := Grow.fresh (M := []) (u := .lst [V.int (-5)]) g1.s hp
        refine k _ _ _ (g1.trans g2) ⟨p, rfl, ?_⟩
        rw [upd_same]
        unfold Vaflxb.givesAnswer
        rw [hg]; rfl
      | true =>
        obtain ⟨hgr, _⟩ := goodR hg
        have hlaw := gives_law (s := s) hg
        refine iteF ⟨_, rfl, _, rfl, D, s, r, v, rv, rfl, g1.s, hh, hw.b, fun t ht => (hw.c t ht).2.1, hw.count, hrec, hgr, fun D2 H2 d xs ep o z => ?_⟩
        obtain ⟨c0, hc0⟩ := give_none s r
        have nd := nodup_give s r
        have gk : ∀ {D' : Hp} {xs : List Ent} {cs : List (Option Tx × Nat)}, TD K D' xs cs → GKeys K D' xs := fun z => cent_keys (fun v o q => TKV.key q) z
        have hgn : getE xs .none = some (nv c0) := by
          have := cent_get tK_inj none z
          rw [hc0] at this
          exact this
        refine ⟨_, rfl, ⟨d, xs, ep, rfl, o.at_⟩, _, d, xs, ep, .none, nv c0, rfl, ⟨rfl, o.at_, GKeys.up o.g.s (gk z), .non, by decide⟩, hgn, fun ep2 => ?_⟩
        have o2 := o.set (u' := GD w d (dropE xs .none) ep2)
        have z2 : TD K D2 (dropE xs .none) ((giveC s r).filter fun c => decide (c.1 ≠ none)) := cent_drop tK_inj none z
        obtain ⟨hsd, hsl⟩ := spart_drop (giveC s r)
        have hxl : (dropE xs .none).length = (spart (giveC s r)).length := by rw [z2.length]; exact hsl
        have zt : All2 (BT K D2) ((dropE xs .none).map (·.2.1)) (textsC (giveC s r)) := by
          have := drop_texts (fun c hc => of_decide_eq_true (List.mem_filter.mp hc).2) z2
          unfold textsC at this ⊢
          rw [hsd] at this
          exact this
        refine ⟨sz2, fun p hp => ?_⟩
        have o3 := o2.tmp (v := .lst [.int 0, nv c0]) hp
        have g3 : Grow [] D H1 D2 (upd (upd H2 d (GD w d (dropE xs .none) ep2)) p (.lst [.int 0, nv c0])) := o3.g
        have hpd : p ≠ d := fun e => (ne_of_none o2.at_ hp) e.symm
        have hpn : H1 p = none := (o2.g).newOf hp
        have hpD : D2 p = none := o2.g.s.none hp
        have hp3 : (upd (upd H2 d (GD w d (dropE xs .none) ep2)) p (.lst [.int 0, nv c0])) p = some (.lst [.int 0, nv c0]) := upd_same
        have op : Own D H1 D2 (upd (upd H2 d (GD w d (dropE xs .none) ep2)) p (.lst [.int 0, nv c0])) p (.lst [.int 0, nv c0]) := ⟨g3, hpn, hp3, hpD⟩
        refine ⟨_, rfl, d, _, ep2, rfl, o3.at_, _, _, rfl, rfl, _, rfl, ?_⟩
        by_cases hbig : 100 < (spart (giveC s r)).length
        · rw [decide_eq_true (by rw [hxl]; omega)]
          rw [if_pos hbig] at hlaw
          refine iteT ⟨sz1, fun y hy => ?_⟩
          have g4 := Grow.fresh (M := []) (u := .lst [V.int (-7)]) op.g.s hy
          refine k _ _ _ ((g1.trans op.g).trans g4) ⟨y, rfl, ?_⟩
          rw [upd_same, ← hlaw]; rfl
        · rw [decide_eq_false (by rw [hxl]; omega)]
          rw [if_neg hbig] at hlaw
          obtain ⟨f1, f2, f3⟩ := all2_zip zt
          have hmt : ∀ t ∈ textsC (giveC s r), ∃ n, cget (giveC s r) (some t) = some n := fun t ht => by
            unfold textsC at ht
            rw [List.mem_map] at ht
            obtain ⟨⟨t', n⟩, hm, rfl⟩ := ht
            exact ⟨n, (mem_spart nd).mp hm⟩
          have hsn : ∀ x ∈ ((dropE xs .none).map (·.2.1)).zip (textsC (giveC s r)), x.2 ≠ [] := fun x hx => by
            have hxm : x.2 ∈ textsC (giveC s r) := by rw [← f2]; exact List.mem_map.mpr ⟨x, hx, rfl⟩
            obtain ⟨n, hn⟩ := hmt _ hxm
            exact give_ne (fun t ht => (hw.c t ht).1) hn
          refine iteF ⟨_, rfl, d, _, ep2, V × Tx, Prod.fst, fun b => dT b.2, ((dropE xs .none).map (·.2.1)).zip (textsC (giveC s r)), rfl, o3.at_, f1.symm, fun x hx => Dp.up op.g.s (f3 x hx).dp, allAlike_dT _ _, .inl ?_, fun x _ => depth_dT _, fun q hq => ?_⟩
          · intro d hd
            rw [List.mem_map] at hd
            obtain ⟨x, hx, rfl⟩ := hd
            have hne := hsn x hx
            cases hx2 : x.2 with
            | nil => exact absurd hx2 hne
            | cons c t => exact ⟨_, _, rfl⟩
          · have zs : All2 (BT K D2) (((((dropE xs .none).map (·.2.1)).zip (textsC (giveC s r))).mergeSort (PySem.W.dataLe false fun b => dT b.2)).map Prod.fst) ((textsC (giveC s r)).mergeSort tLe) := by
              have hso : (textsC (giveC s r)).mergeSort tLe = ((((dropE xs .none).map (·.2.1)).zip (textsC (giveC s r))).mergeSort (PySem.W.dataLe false fun b : V × Tx => dT b.2)).map Prod.snd := by
                conv => lhs; rw [← f2]
                exact (PySem.W.sort_maps (r := PySem.W.dataLe false fun b : V × Tx => dT b.2) (s := tLe) Prod.snd (fun a _ b _ => rfl)).symm
              rw [hso]
              exact all2_of fun x hx => f3 x ((List.mergeSort_perm _ _).mem_iff.mp hx)
            generalize hvs : ((((dropE xs .none).map (·.2.1)).zip (textsC (giveC s r))).mergeSort (PySem.W.dataLe false fun b => dT b.2)).map Prod.fst = vs at zs ⊢
            generalize htx : (textsC (giveC s r)).mergeSort tLe = tx at zs hlaw
            have hmx : ∀ t ∈ tx, ∃ n, cget (giveC s r) (some t) = some n := fun t ht => hmt t (by rw [← htx] at ht; exact (List.mergeSort_perm _ _).mem_iff.mp ht)
            have htl : tx.length ≤ 100 := by
              rw [← htx, List.length_mergeSort]
              unfold textsC
              rw [List.length_map]; omega
            have zsl := zs.length
            have o4 := op.tmp (v := .lst vs) hq
            have od4 := o3.tmp (v := .lst vs) hq
            have hpq : q ≠ p := fun e => (ne_of_none op.at_ hq) e.symm
            have hdq : d ≠ q := ne_of_none o3.at_ hq
            have hq4 : (upd (upd (upd H2 d (GD w d (dropE xs .none) ep2)) p (.lst [.int 0, nv c0])) q (.lst vs)) q = some (.lst vs) := upd_same
            have hd4 := od4.at_
            have od4n := od4.nd
            have rowLen : ∀ ts : List Tx, (∀ t ∈ ts, t.length ≤ 40) → (ts.flatMap fun t => Vaflxb.nat ((cget (giveC s r) (some t)).getD 0) :: Vaflxb.nat t.length :: Vaflxb.numbers t).length ≤ 42 * ts.length := fun ts => by
              induction ts with
              | nil => intro _; exact Nat.le_refl _
              | cons a ts ih =>
                intro hh
                have h1 := ih fun t ht => hh t (List.mem_cons_of_mem _ ht)
                have h2 := hh a List.mem_cons_self
                rw [List.flatMap_cons, List.length_append]
                have h3 : (Vaflxb.nat ((cget (giveC s r) (some a)).getD 0) :: Vaflxb.nat a.length :: Vaflxb.numbers a).length = 2 + a.length := by
                  unfold Vaflxb.numbers
                  simp; omega
                rw [h3]
                show _ ≤ 42 * (ts.length + 1)
                omega
            have h40 : ∀ t ∈ tx, t.length ≤ 40 := fun t ht => by
              obtain ⟨n, hn⟩ := hmx t ht
              exact give_len hgr (fun t ht => (hw.c t ht).2.1) hn
            refine ⟨q, rfl, ⟨vs, SqL.of upd_same⟩, for_it (walk_list (xs := vs)) (fun i σ H' => ∃ x4, σ = [some v, some rv, some (.ref d), some (.ref p), x4] ∧ Own D H1 D2 H' p (.lst (((0 : Int) :: Vaflxb.nat c0 :: ((tx.take i).flatMap fun t => Vaflxb.nat ((cget (giveC s r) (some t)).getD 0) :: Vaflxb.nat t.length :: Vaflxb.numbers t)).map V.int)) ∧ H' q = some (.lst vs) ∧ H' d = some (GD w d (dropE xs .none) ep2)) ?_ ?_ ?_ ?_⟩
            · exact ⟨_, rfl, o4, hq4, hd4⟩
            · rintro i σ H' hi ⟨x4, rfl, o, hq', _⟩
              exact SqL.of hq'
            · rintro i x σ H0 H' hi ⟨x4, rfl, o, hq', hd'⟩ ⟨rfl, hx⟩
              obtain ⟨t, ht, bt⟩ := zs.get hx
              have htm := List.mem_of_getElem? ht
              obtain ⟨n, hn⟩ := hmx t htm
              have hl40 := h40 t htm
              have hgt : getE (dropE xs .none) (kT t) = some (nv n) := by
                have h1 := cent_get tK_inj (some t) z2
                have h2 : cget ((giveC s r).filter fun c => decide (c.1 ≠ none)) (some t) = some n := by
                  rw [← mem_cs (nodup_on (f := fun c : Option Tx × Nat => c.1) (fun a ha b hb e => by
                    have h1 := (List.mem_filter.mp ha).1
                    have h2 := (List.mem_filter.mp hb).1
                    have h3 := (mem_cs nd).mp (show (a.1, a.2) ∈ _ from h1)
                    have h4 := (mem_cs nd).mp (show (b.1, b.2) ∈ _ from h2)
                    rw [e] at h3
                    rw [h3] at h4
                    exact Prod.ext e (Option.some.inj h4)) (nodup_filter _ (nodup_pairs nd)))]
                  exact List.mem_filter.mpr ⟨(mem_cs nd).mpr hn, decide_eq_true (fun z => nomatch z)⟩
                rw [h2] at h1
                exact h1
              obtain ⟨at_, rfl, hat⟩ := BT.sq (H := D2) (Sub.refl D2) bt
              have s' := o.g.s
              refine ⟨_, rfl, .inl ⟨rfl, _, SqL.of o.at_⟩, _, rfl, _, rfl, d, _, ep2, kT t, nv n, ⟨rfl, hd', GKeys.up s' (gk z2), KeyOf.up s' (BT.key ⟨at_, rfl, hat⟩)⟩, hgt, _, rfl, _, t.length, rfl, .inr ⟨_, SqT.up s' hat, by simp⟩, sz2, fun y hy => ?_⟩
              have g5 : Grow [] D2 H' D2 (upd H' y (.lst [nv n, .int ((t.length : Nat) : Int)])) := (Grow.refl s').tmp hy
              refine ⟨_, rfl, at_, _, rfl, .inr (SqT.up g5.s hat), fun y2 hy2 => ?_⟩
              have g6 : Grow [] D2 _ D2 (upd (upd H' y (.lst [nv n, .int ((t.length : Nat) : Int)])) y2 (.lst (tv t))) := (Grow.refl g5.s).tmp hy2
              have hyy : y ≠ y2 := ne_of_none upd_same hy2
              refine ⟨y, y2, _, _, rfl, rfl, by rw [upd_ne hyy]; exact upd_same, upd_same, small_le (by simp; omega), fun y3 hy3 => ?_⟩
              have g7 : Grow [] D2 _ D2 (upd (upd (upd H' y (.lst [nv n, .int ((t.length : Nat) : Int)])) y2 (.lst (tv t))) y3 (.lst ([nv n, .int ((t.length : Nat) : Int)] ++ tv t))) := (Grow.refl g6.s).tmp hy3
              have g57 := (g5.trans g6).trans g7
              have o7 := o.call g57
              have hrl := rowLen (tx.take i) fun t ht => h40 t (List.mem_of_mem_take ht)
              rw [List.length_take] at hrl
              refine ⟨p, y3, _, _, rfl, rfl, o7.at_, upd_same, ?_, ?_⟩
              · rw [List.length_map, List.length_cons, List.length_cons]
                refine small_le ?_
                have e1 : ([nv n, V.int ((t.length : Nat) : Int)] ++ tv t).length = 2 + t.length := by simp; omega
                rw [e1]
                omega
              · refine ⟨_, rfl, ?_, by rw [upd_ne hpq]; exact g57.h q _ (by simp) hq', by rw [upd_ne (fun e => hpd e.symm)]; exact g57.h d _ (by simp) hd'⟩
                have e : (((0 : Int) :: Vaflxb.nat c0 :: ((tx.take (i + 1)).flatMap fun t => Vaflxb.nat ((cget (giveC s r) (some t)).getD 0) :: Vaflxb.nat t.length :: Vaflxb.numbers t)).map V.int) = (((0 : Int) :: Vaflxb.nat c0 :: ((tx.take i).flatMap fun t => Vaflxb.nat ((cget (giveC s r) (some t)).getD 0) :: Vaflxb.nat t.length :: Vaflxb.numbers t)).map V.int) ++ ([nv n, .int ((t.length : Nat) : Int)] ++ tv t) := by
                  rw [flatMap_take _ _ _ _ ht]
                  simp [Vaflxb.nat, hn, Vaflxb.numbers, tv]
                rw [e]
                exact o7.set
            · rintro σ H' ⟨x4, rfl, o, hq', hd'⟩
              refine ⟨_, rfl, ?_⟩
              have hc0' : (cget (giveC s r) none).getD 0 = c0 := by rw [hc0]; rfl
              rw [hc0'] at hlaw
              rw [List.take_of_length_le (by omega), hlaw] at o
              obtain ⟨G, S, at1⟩ := Own.fin g1.s o
              exact k _ _ _ (g1.trans G) ⟨p, rfl, at1⟩
end
end Ps
set_option Elab.async false
set_option linter.all false
set_option maxRecDepth 100000
set_option maxHeartbeats 2000000
/-! Plain laws: the sets of pieces that are held stay as they should. -/
namespace Ps
open PySem PySem.Spec PyProof.Rows L2 Gd
theorem prs_le15 (t : Tx) (p : Nat) : (prs t p).length ≤ 15 := by
  have h1 : ∀ c, Vaflxb.endings t p = Vaflxa.Cls.empty :: c → ∀ d, Vaflxb.beginnings t p = Vaflxa.Cls.empty :: d → (prs t p).length ≤ 15 := by
    intro c hc d hd
    have lc : c.length ≤ 3 := by have := ends_le4 t p; rw [hc] at this; exact Nat.le_of_succ_le_succ this
    have ld : d.length ≤ 3 := by have := begs_le4 t p; rw [hd] at this; exact Nat.le_of_succ_le_succ this
    unfold prs
    rw [hc, hd, List.flatMap_cons, List.length_append, List.length_map, List.filter_cons]
    rw [if_neg (by decide)]
    have h2 : ∀ xs : List Kl, (xs.flatMap fun l => ((Vaflxa.Cls.empty :: d).filter fun r => !(Vaflxa.isEmptyClass l && Vaflxa.isEmptyClass r)).map fun r => (l, r)).length ≤ 4 * xs.length := by
      intro xs
      induction xs with
      | nil => simp
      | cons x xs ih =>
        rw [List.flatMap_cons, List.length_append, List.length_map]
        have h1 := List.length_filter_le (fun r => !(Vaflxa.isEmptyClass x && Vaflxa.isEmptyClass r)) (Vaflxa.Cls.empty :: d)
        have h1 : _ ≤ 4 := Nat.le_trans h1 (Nat.succ_le_succ ld)
        show _ ≤ 4 * (xs.length + 1)
        omega
    have h3 := h2 c
    have h4 := List.length_filter_le (fun r => !(Vaflxa.isEmptyClass Vaflxa.Cls.empty && Vaflxa.isEmptyClass r)) d
    exact Nat.le_trans (Nat.add_le_add (Nat.le_trans h4 ld) (Nat.le_trans h3 (Nat.mul_le_mul_left 4 lc))) (by decide)
  exact h1 _ rfl _ rfl
theorem at32 (t : Tx) (p : Nat) : (Vaflxb.positionsAt t p).length ≤ 32 := by
  rw [ordAt_eq]
  unfold ordAt
  rw [List.length_mergeSort, allAt_len]
  have := prs_le15 t p
  omega
theorem place_all {t : Tx} {n : Nat} (hn : n ≤ t.length) : ∀ p ∈ allAt t n, Vaflxa.placeOf p t = some n := by
  intro p hp
  unfold allAt at hp
  rw [List.mem_append] at hp
  rcases hp with hp | hp
  · simp at hp
    rcases hp with rfl | rfl
    · show (if n ≤ t.length then some n else none) = _; rw [if_pos hn]
    · show (if t.length - n ≤ t.length then some (t.length - (t.length - n)) else none) = _
      rw [if_pos (by omega), show t.length - (t.length - n) = n by omega]
  · rw [List.mem_flatMap] at hp
    obtain ⟨⟨l, r⟩, h1, h2⟩ := hp
    have hm := mem_borders hn h1
    have hj := findIdx_le hm
    have hget : (Vaflxa.borders l r t)[(Vaflxa.borders l r t).findIdx fun q => q == n]? = some n := by
      rw [List.getElem?_eq_getElem hj]
      have := List.findIdx_getElem (p := fun q => q == n) (xs := Vaflxa.borders l r t) (w := hj)
      rw [beq_iff_eq] at this
      rw [this]
    unfold twoAt at h2
    simp at h2
    rcases h2 with rfl | rfl
    · rw [placeOf_left _ _ _ _ (by omega), Nat.add_sub_cancel]; exact hget
    · rw [placeOf_right _ _ _ _ (by omega)]
      generalize (Vaflxa.borders l r t).findIdx (fun q => q == n) = j at *
      rw [if_pos (by omega), show (Vaflxa.borders l r t).length - 1 - ((Vaflxa.borders l r t).length - j - 1) = j by omega]
      exact hget
theorem place_at {t : Tx} {n : Nat} (hn : n ≤ t.length) : ∀ p ∈ Vaflxb.positionsAt t n, Vaflxa.placeOf p t = some n := by
  intro p hp
  rw [ordAt_eq] at hp
  exact place_all hn p ((List.mergeSort_perm _ _).mem_iff.mp hp)
/-! ### the pieces for a record -/
theorem mem_boxesIn {num : Nat} {t u : Tx} {b : Bx} (h : b ∈ Vaflxb.boxesIn num t u) : ∃ a k, a + u.length ≤ t.length ∧ b = { field := num, case_ := k, left := Vaflxb.positionsAt t a, right := Vaflxb.positionsAt t (a + u.length) } := by
  unfold Vaflxb.boxesIn at h
  rw [List.mem_flatMap] at h
  obtain ⟨a, _, h⟩ := h
  rw [List.mem_filterMap] at h
  obtain ⟨k, _, h⟩ := h
  split at h
  · rename_i z; cases h; exact ⟨a, k, z.1, rfl⟩
  · cases h
def Disj (x y : Bx) : Prop := ∀ p ∈ tagB x, ∀ q ∈ tagB y, p ≠ q
theorem boxesIn_dj (num : Nat) (t u : Tx) : (Vaflxb.boxesIn num t u).Pairwise Disj := by
  unfold Vaflxb.boxesIn
  rw [List.pairwise_flatMap]
  constructor
  · intro a _
    rw [List.pairwise_filterMap]
    have hc : Vaflxb.allCases.Pairwise fun k m => Vaflxb.caseNumber k ≠ Vaflxb.caseNumber m := by
      unfold Vaflxb.allCases
      simp [Vaflxb.caseNumber]
    refine hc.imp fun {k m} hkm b hb b' hb' p hp q hq e => ?_
    subst e
    split at hb
    · cases hb
      split at hb'
      · cases hb'
        unfold tagB at hp hq
        rw [List.mem_map] at hp hq
        obtain ⟨_, _, rfl⟩ := hp
        obtain ⟨_, _, e⟩ := hq
        exact hkm (Prod.mk.inj (Prod.mk.inj e).2).1.symm
      · cases hb'
    · cases hb
  · refine List.pairwise_lt_range.imp fun {a a'} hlt x hx y hy p hp q hq e => ?_
    subst e
    rw [List.mem_filterMap] at hx hy
    obtain ⟨k, _, hx⟩ := hx
    obtain ⟨m, _, hy⟩ := hy
    split at hx
    · rename_i z1
      cases hx
      split at hy
      · rename_i z2
        cases hy
        unfold tagB at hp hq
        rw [List.mem_map] at hp hq
        obtain ⟨p1, h1, rfl⟩ := hp
        obtain ⟨p2, h2, e⟩ := hq
        have e : p2 = p1 := (Prod.mk.inj (Prod.mk.inj e).2).2
        subst e
        have g1 := place_at (by omega) _ h1
        have g2 := place_at (by omega) _ h2
        rw [g1] at g2
        have : a = a' := Option.some.inj g2
        omega
      · cases hy
    · cases hx
theorem boxesIn_160 {num : Nat} {t u : Tx} (h : t.length ≤ 40) (hu : 1 ≤ u.length) : (Vaflxb.boxesIn num t u).length ≤ 160 := by
  rw [← boxesTo_eq]
  refine Nat.le_trans (boxesTo_le _ _ _ _) ?_
  omega
theorem flat_le {α β : Type} (f : α → List β) (m : Nat) : ∀ {xs : List α}, (∀ x ∈ xs, (f x).length ≤ m) → (xs.flatMap f).length ≤ xs.length * m
  | [], _ => by simp
  | x :: xs, h => by
    rw [List.flatMap_cons, List.length_append, List.length_cons, Nat.add_mul]
    have := h x List.mem_cons_self
    have := flat_le f m fun y hy => h y (List.mem_cons_of_mem _ hy)
    omega
theorem sum_le_const (f : Bx → Nat) (m : Nat) : ∀ {bs : List Bx}, (∀ b ∈ bs, f b ≤ m) → (bs.map f).sum ≤ bs.length * m
  | [], _ => by simp
  | b :: bs, h => by
    rw [List.map_cons, List.sum_cons, List.length_cons, Nat.add_mul]
    have := h b List.mem_cons_self
    have := sum_le_const f m fun y hy => h y (List.mem_cons_of_mem _ hy)
    omega
theorem wfS_for {r : List Tx} {u : Tx} (hr : Vaflxa.goodRecord r = true) (hu : Vaflxb.goodField u = true) (h1 : u ≠ []) : wfS (Vaflxb.piecesFor r u) := by
  obtain ⟨hg, hr4⟩ := goodR hr
  have hgu := good_iff.mp hu
  have hu1 : 1 ≤ u.length := List.length_pos_iff.mpr h1
  have hz : ∀ x ∈ r.zipIdx, good x.1 ∧ x.2 < 4 ∧ r[x.2]? = some x.1 := fun x hx => by
    have e := List.mem_zipIdx_iff_getElem?.mp hx
    have hl := (List.getElem?_eq_some_iff.mp e).1
    exact ⟨hg _ (List.mem_of_getElem? e), by omega, e⟩
  have hb : ∀ b ∈ (Vaflxb.piecesFor r u).boxes, ∃ t a, good t ∧ a + u.length ≤ t.length ∧ b.left = Vaflxb.positionsAt t a ∧ b.right = Vaflxb.positionsAt t (a + u.length) ∧ 1 ≤ b.field ∧ b.field ≤ 4 := fun b hb => by
    have hb : b ∈ r.zipIdx.flatMap fun x => Vaflxb.boxesIn (x.2 + 1) x.1 u := hb
    rw [List.mem_flatMap] at hb
    obtain ⟨x, hx, hb⟩ := hb
    obtain ⟨a, k, h2, rfl⟩ := mem_boxesIn hb
    obtain ⟨g1, g2, _⟩ := hz x hx
    exact ⟨x.1, a, g1, h2, rfl, rfl, by show 1 ≤ x.2 + 1; omega, by show x.2 + 1 ≤ 4; omega⟩
  refine ⟨fun b h => ?_, fun t ht => ?_, ?_, ?_⟩
  · obtain ⟨t, a, h2, h3, e1, e2, h4, h5⟩ := hb b h
    exact ⟨by rw [e1]; exact wf_at h2 (by omega), by rw [e2]; exact wf_at h2 h3, by rw [e1]; exact at_ne, by rw [e2]; exact at_ne, h4, h5⟩
  · have ht : (if u.length ≤ 12 then some u else none) = some t := ht
    split at ht
    · cases ht; exact ⟨hu1, by assumption, hgu.2⟩
    · cases ht
  · show (r.zipIdx.flatMap fun x => Vaflxb.boxesIn (x.2 + 1) x.1 u).Pairwise Disj
    rw [List.pairwise_flatMap]
    refine ⟨fun x _ => boxesIn_dj _ _ _, ?_⟩
    have hnd : r.zipIdx.Pairwise fun x y => x.2 ≠ y.2 := by
      have : (r.zipIdx.map (·.2)).Nodup := by
        rw [List.zipIdx_map_snd]
        have : (List.range' 0 r.length).Pairwise (· < ·) := List.pairwise_lt_range'
        exact this.imp fun h => Nat.ne_of_lt h
      unfold List.Nodup at this
      rw [List.pairwise_map] at this
      exact this
    refine hnd.imp fun {x y} hne b hb b' hb' p hp q hq e => ?_
    subst e
    obtain ⟨a, k, _, rfl⟩ := mem_boxesIn hb
    obtain ⟨a', k', _, rfl⟩ := mem_boxesIn hb'
    unfold tagB at hp hq
    rw [List.mem_map] at hp hq
    obtain ⟨_, _, rfl⟩ := hp
    obtain ⟨_, _, e⟩ := hq
    have : y.2 + 1 = x.2 + 1 := (Prod.mk.inj e).1
    omega
  · have h3 : ((Vaflxb.piecesFor r u).boxes.map fun b => b.left.length).sum ≤ (Vaflxb.piecesFor r u).boxes.length * 32 := sum_le_const _ 32 fun b h => by
      obtain ⟨t, a, _, _, e1, _⟩ := hb b h
      rw [e1]; exact at32 t a
    have h4 : (r.zipIdx.flatMap fun x => Vaflxb.boxesIn (x.2 + 1) x.1 u).length ≤ r.zipIdx.length * 160 := flat_le _ 160 fun x hx => boxesIn_160 (hz x hx).1.1 hu1
    rw [List.length_zipIdx] at h4
    have h5 : (Vaflxb.piecesFor r u).boxes.length ≤ r.length * 160 := h4
    exact Nat.le_trans h3 (Nat.le_trans (Nat.mul_le_mul_right 32 (Nat.le_trans h5 (Nat.mul_le_mul_right 160 hr4))) (by decide))
/-! ### what is in both -/
theorem meet_tags {a b c : Bx} (h : Vaflxb.meetBox a b = some c) : (∀ p ∈ tagB c, p ∈ tagB a) ∧ ((∀ p ∈ b.left, wfP p) → ∀ p ∈ tagB c, p ∈ tagB b) := by
  rw [meetBox_eq] at h
  split at h
  · rename_i z
    cases h
    unfold tagB
    refine ⟨fun p hp => ?_, fun _ p hp => ?_⟩
    · rw [List.mem_map] at hp ⊢
      obtain ⟨q, hq, rfl⟩ := hp
      exact ⟨q, (List.mem_filter.mp hq).1, rfl⟩
    · rw [List.mem_map] at hp ⊢
      obtain ⟨q, hq, rfl⟩ := hp
      have hq2 := (List.mem_filter.mp hq).2
      rw [List.any_eq_true] at hq2
      obtain ⟨q', hq', e⟩ := hq2
      have e := (samePos_iff _ _).mp e
      subst e
      exact ⟨q, hq', by rw [z.1, z.2.1]⟩
  · cases h
theorem tags_nodup {s : Pcs} (h : wfS s) : (s.boxes.flatMap tagB).Nodup := by
  unfold List.Nodup
  rw [List.pairwise_flatMap]
  refine ⟨fun b hb => ?_, h.dj⟩
  unfold tagB
  refine nodup_map (fun x y e => (Prod.mk.inj (Prod.mk.inj e).2).2) ?_
  have := (h.b b hb).l.nd
  unfold List.Nodup at this ⊢
  rw [List.pairwise_map] at this
  exact this.imp fun h e => h (by rw [e])
theorem tags_len : ∀ bs : List Bx, (bs.flatMap tagB).length = (bs.map fun b => b.left.length).sum
  | [] => rfl
  | b :: bs => by
    rw [List.flatMap_cons, List.length_append, List.map_cons, List.sum_cons, tags_len bs]
    unfold tagB
    rw [List.length_map]
theorem wfS_meet {a b : Pcs} (ha : wfS a) (hb : wfS b) : wfS (Vaflxb.meetPieces a b) := by
  have hmem : ∀ c ∈ (Vaflxb.meetPieces a b).boxes, ∃ x ∈ a.boxes, ∃ y ∈ b.boxes, Vaflxb.meetBox x y = some c := fun c hc => by
    have hc : c ∈ a.boxes.flatMap fun x => b.boxes.filterMap (Vaflxb.meetBox x) := hc
    rw [List.mem_flatMap] at hc
    obtain ⟨x, hx, hc⟩ := hc
    rw [List.mem_filterMap] at hc
    obtain ⟨y, hy, hc⟩ := hc
    exact ⟨x, hx, y, hy, hc⟩
  have hwb : ∀ c ∈ (Vaflxb.meetPieces a b).boxes, wfB c := fun c hc => by
    obtain ⟨x, hx, y, _, e⟩ := hmem c hc
    exact wf_meetBox (ha.b x hx) e
  have hdj : (Vaflxb.meetPieces a b).boxes.Pairwise Disj := by
    show (a.boxes.flatMap fun x => b.boxes.filterMap (Vaflxb.meetBox x)).Pairwise Disj
    rw [List.pairwise_flatMap]
    constructor
    · intro x _
      rw [List.pairwise_filterMap]
      have hbd := hb.dj
      refine List.Pairwise.imp_of_mem (R := Disj) (fun {y y'} hy hy' hd c hc c' hc' p hp q hq => ?_) hbd
      exact hd p ((meet_tags hc).2 (hb.b y hy).l.wf p hp) q ((meet_tags hc').2 (hb.b y' hy').l.wf q hq)
    · refine List.Pairwise.imp (R := Disj) (fun {x x'} hd c hc c' hc' p hp q hq => ?_) ha.dj
      rw [List.mem_filterMap] at hc hc'
      obtain ⟨y, _, e⟩ := hc
      obtain ⟨y', _, e'⟩ := hc'
      exact hd p ((meet_tags e).1 p hp) q ((meet_tags e').1 q hq)
  have hcst : ∀ t, (Vaflxb.meetPieces a b).const = some t → a.const = some t := fun t ht => by
    have ht : (if (a.const == b.const) = true then a.const else none) = some t := ht
    split at ht
    · exact ht
    · cases ht
  refine ⟨hwb, fun t ht => ha.c t (hcst t ht), hdj, ?_⟩
  refine Nat.le_trans ?_ ha.m
  rw [← tags_len, ← tags_len]
  refine List.Nodup.length_le_of_subset ?_ ?_
  · unfold List.Nodup
    rw [List.pairwise_flatMap]
    refine ⟨fun c hc => ?_, hdj⟩
    unfold tagB
    refine nodup_map (fun x y e => (Prod.mk.inj (Prod.mk.inj e).2).2) ?_
    have := (hwb c hc).l.nd
    unfold List.Nodup at this ⊢
    rw [List.pairwise_map] at this
    exact this.imp fun h e => h (by rw [e])
  · intro p hp
    rw [List.mem_flatMap] at hp ⊢
    obtain ⟨c, hc, hp⟩ := hp
    obtain ⟨x, hx, y, _, e⟩ := hmem c hc
    exact ⟨x, hx, (meet_tags e).1 p hp⟩
end Ps
set_option Elab.async false
set_option linter.all false
set_option maxRecDepth 100000
set_option maxHeartbeats 2000000
namespace Ps
open PySem PySem.Spec PyProof.Rows L2 Gd
abbrev SA := Vaflxb.State × Vaflxb.Answer
/-- behind a call that may change the shelf -/
def Aft (K : PySem.W.Frag) (w : World) (CP CB CPs CS : Addr) (M : List Addr) (D H : Hp) (sh dh : Addr) (R : SA) (Q : VK) : Prop := ∀ D' H' r, Grow M D H D' H' → ShelfD K w CP CB CPs CS D' H' sh dh R.1 → AL D' r R.2 → Q r H'
theorem sortKind (h1 h2 : Hd) : decide (V.bl (isP h1) = V.bl (isP h2)) = decide (isP h1 = isP h2) := decide_eq_decide.mpr ⟨fun e => V.bl.inj e, fun e => by rw [e]⟩
section
variable {P : Program} {w : World} {K : PySem.W.Frag} {mg : Str → Option Value} {base : Heap} {CP CB CPs CPc CS CC : Addr} {f : Addr} {fd : FuncData}
theorem aft_fail {D H D1 H1 : Hp} {sh dh : Addr} {st : Vaflxb.State} {R : SA} {Q : VK} {z : Int} (hsh : ShelfD K w CP CB CPs CS D H sh dh st) (k : Aft K w CP CB CPs CS [dh] D H sh dh R Q) (e : R = (st, [z])) (g : Grow [] D H D1 H1) :
    ∀ p, H1 p = none → Q (.ref p) (upd H1 p (.lst [.int z])) := by
  intro p hp
  subst e
  have g2 := Grow.fresh (M := []) (u := .lst [V.int z]) g.s hp
  exact k _ _ _ (g.trans g2).anyM (hsh.grow (by simp) (g.trans g2)) ⟨p, rfl, upd_same⟩
def sp_at (w : World) (K : PySem.W.Frag) (CP CB CPs CPc CS CC : Addr) : Sp := fun vs H Q _ => ∃ D sh dh st pl nm fv x t, vs = [.ref sh, .int pl, nm, fv] ∧ Sub D H ∧ ShelfD K w CP CB CPs CS D H sh dh st ∧ BL D nm x ∧ BL D fv t ∧ x.length ≤ 100000 ∧ t.length ≤ 100000 ∧ Aft K w CP CB CPs CS [dh] D H sh dh (Vaflxb.doAt st pl x t) Q
abbrev s_at : Stmt := topS 87
theorem sc_at : FnScope ["shelf", "place", "name", "field"] ["shelf", "place", "name", "field"] (defScope s_at) := ⟨rfl, rfl, rfl, by decide +kernel, rfl, by decide +kernel, by decide +kernel⟩
theorem ok_at (F : Fun K "at" "at" s_at f fd) (T : Txt K mg CP CB CPs CPc CS CC) (C_hold : Def P w K mg base 1 "hold" ["shelf", "name", "some"] (sp_hold w K CP CB CPs CPc CS CC)) (C_is_field : Def P w K mg base 1 "is_field" ["row"] (sp_is_field w K CP CB CPs CPc CS CC)) (C_is_name : Def P w K mg base 2 "is_name" ["row"] (sp_is_name w K CP CB CPs CPc CS CC)) (C_position_sets : Def P w K mg base 7 "position_sets" ["field"] (sp_position_sets w K CP CB CPs CPc CS CC)) : FnOk P w K mg base CX0 8 f fd ["shelf", "place", "name", "field"] (sp_at w K CP CB CPs CPc CS CC) := by
  refine F.ok sc_at (fun vs H Q E h => ?_) (fun cdv A outer s H vs Q E hr h => ?_)
  · obtain ⟨_, _, _, _, _, _, _, _, _, rfl, _⟩ := h; rfl
  · obtain ⟨D, sh, dh, st, pl, nm, fv, x, t, rfl, hs, hsh, hnm, hbt, hxl, htl, k⟩ := h
    refine ⟨_, (pss_cons (ps_if (pt_not (pt_val (pe_callD C_is_name (hr.mono (by decide)) (by rfl) (pa_cons (pv 2) pa_nil)))) (pss_one (ps_ret (pe_lst (pa_cons (pe_const (by rfl) T.g_NO_NAME) pa_nil)))) pss_nil)
      (pss_cons (ps_if (PW.pt (pw_or (pt_not (pt_val (pe_callD C_is_field (hr.mono (by decide)) (by rfl) (pa_cons (pv 3) pa_nil)))) (pw_or1 (pt_not (pt_chain op_le op_le pe_int (pv 1) (pe_callB call_len (by rfl) T.m_len b_len (pa_cons (pv 3) pa_nil))))))) (pss_one (ps_ret (pe_lst (pa_cons (pe_const (by rfl) T.g_NO_TEXT) pa_nil)))) pss_nil)
      (pss_one (ps_ret (pe_callD C_hold (hr.mono (by decide)) (by rfl) (pa_cons (pv 0) (pa_cons (pv 2) (pa_cons (pe_ix ix_list (pe_callD C_position_sets (hr.mono (by decide)) (by rfl) (pa_cons (pv 3) pa_nil)) (pv 1) (fun _ _ => rfl)) pa_nil)))))))), ?_⟩
    refine ⟨_, rfl, D, x, nm, rfl, hs, hnm, hxl, fun H1 hH1 => ⟨_, rfl, ?_⟩⟩
    have g1 := Grow.of_same (M := []) hs hH1
    cases hn : Vaflxb.isName x with
    | false =>
      exact iteT ⟨sz1, aft_fail hsh k (by unfold Vaflxb.doAt; rw [if_pos hn]) g1⟩
    | true =>
      refine iteF ⟨_, rfl, D, t, fv, rfl, g1.s, hbt, htl, fun H2 hH2 => ⟨_, rfl, ?_⟩⟩
      have g2 := g1.trans (Grow.of_same (M := []) g1.s hH2)
      have hda : Vaflxb.doAt st pl x t = if Vaflxb.goodField t = false ∨ pl < 0 ∨ (t.length : Int) < pl then (st, [-5]) else Vaflxb.hold st x (.positions (Vaflxb.positionsAt t pl.toNat)) := by
        unfold Vaflxb.doAt
        rw [if_neg (by rw [hn]; decide)]
      cases hg : Vaflxb.goodField t with
      | false => exact iteT (iteT ⟨sz1, aft_fail hsh k (by rw [hda, if_pos (.inl hg)]) g2⟩)
      | true =>
        have hgt := good_iff.mp hg
        obtain ⟨af, rfl, haf⟩ := id hbt
        refine iteF ⟨_, rfl, 0, pl, rfl, rfl, _, rfl, ?_⟩
        by_cases h0 : ¬ 0 ≤ pl
        · rw [decide_eq_false h0]
          exact iteF ⟨_, rfl, iteT ⟨sz1, aft_fail hsh k (by rw [hda, if_pos (.inr (.inl (by omega)))]) g2⟩⟩
        have h0 := Decidable.not_not.mp h0
        rw [decide_eq_true h0]
        refine iteT ⟨_, rfl, _, t.length, rfl, .inl ⟨_, SqL.of (g2.s _ _ (g2.d _ _ haf)), by simp⟩, pl, _, rfl, rfl, _, rfl, ?_⟩
        by_cases h1 : ¬ pl ≤ ((t.length : Nat) : Int)
        · rw [decide_eq_false h1]
          exact iteT ⟨sz1, aft_fail hsh k (by rw [hda, if_pos (.inr (.inr (by omega)))]) g2⟩
        have h1 := Decidable.not_not.mp h1
        rw [decide_eq_true h1]
        obtain ⟨m, rfl⟩ : ∃ m : Nat, pl = (m : Int) := ⟨pl.toNat, by omega⟩
        rw [if_neg (by
          rw [hg]
          rintro (z | z | z)
          · cases z
          · omega
          · omega), Int.toNat_natCast] at hda
        have hm : m ≤ t.length := by omega
        refine iteF ⟨_, rfl, _, rfl, _, rfl, D, t, .ref af, rfl, g2.s, hbt, hgt, fun D3 H3 v3 g3 b3 => ?_⟩
        obtain ⟨a3, xs3, rfl, e3, z3⟩ := b3
        obtain ⟨vv, hvv, hps⟩ := z3.get' (i := m) (b := ordAt t m) (by rw [List.getElem?_map, List.getElem?_range (by omega)]; rfl)
        rw [← ordAt_eq] at hps
        have G := g2.trans g3
        refine ⟨_, rfl, a3, xs3, _, vv, rfl, rfl, SqL.of (g3.s _ _ e3), atI_nat hvv, D3, sh, dh, st, nm, x, vv, .positions (Vaflxb.positionsAt t m), rfl, g3.s, hsh.grow (by simp) G, hnm.mono G.d, hn, hps, wf_at hgt hm, fun D4 H4 r g4 s4 a4 => ?_⟩
        unfold Aft at k
        rw [hda] at k
        exact k _ _ _ (G.anyM.trans g4) s4 a4
def sp_parts (w : World) (K : PySem.W.Frag) (CP CB CPs CPc CS CC : Addr) : Sp := fun vs H Q _ => ∃ D sh dh st nm ov rv x u r, vs = [.ref sh, nm, ov, rv] ∧ Sub D H ∧ ShelfD K w CP CB CPs CS D H sh dh st ∧ BL D nm x ∧ BL D ov u ∧ RecAt D rv r ∧ x.length ≤ 100000 ∧ u.length ≤ 100000 ∧ (∀ t ∈ r, t.length ≤ 100000) ∧ r.length ≤ 100000 ∧ Aft K w CP CB CPs CS [dh] D H sh dh (Vaflxb.doParts st x u r) Q
abbrev s_parts : Stmt := topS 88
theorem sc_parts : FnScope ["shelf", "name", "output", "fields"] ["shelf", "name", "output", "fields"] (defScope s_parts) := ⟨rfl, rfl, rfl, by decide +kernel, rfl, by decide +kernel, by decide +kernel⟩
theorem ok_parts (F : Fun K "parts" "parts" s_parts f fd) (T : Txt K mg CP CB CPs CPc CS CC) (C_hold : Def P w K mg base 1 "hold" ["shelf", "name", "some"] (sp_hold w K CP CB CPs CPc CS CC)) (C_is_field : Def P w K mg base 1 "is_field" ["row"] (sp_is_field w K CP CB CPs CPc CS CC)) (C_is_name : Def P w K mg base 2 "is_name" ["row"] (sp_is_name w K CP CB CPs CPc CS CC)) (C_is_record : Def P w K mg base 2 "is_record" ["fields"] (sp_is_record w K CP CB CPs CPc CS CC)) (C_pieces_for : Def P w K mg base 9 "pieces_for" ["record", "output"] (sp_pieces_for w K CP CB CPs CPc CS CC)) : FnOk P w K mg base CX0 10 f fd ["shelf", "name", "output", "fields"] (sp_parts w K CP CB CPs CPc CS CC) := by
  refine F.ok sc_parts (fun vs H Q E h => ?_) (fun cdv A outer s H vs Q E hr h => ?_)
  · obtain ⟨_, _, _, _, _, _, _, _, _, _, rfl, _⟩ := h; rfl
  · obtain ⟨D, sh, dh, st, nm, ov, rv, x, u, r, rfl, hs, hsh, hnm, hbu, hrec, hxl, hul, hrl, hrn, k⟩ := h
    refine ⟨_, (pss_cons (ps_if (pt_not (pt_val (pe_callD C_is_name (hr.mono (by decide)) (by rfl) (pa_cons (pv 1) pa_nil)))) (pss_one (ps_ret (pe_lst (pa_cons (pe_const (by rfl) T.g_NO_NAME) pa_nil)))) pss_nil)
      (pss_cons (ps_if (PW.pt (pw_or (pt_not (pt_val (pe_callD C_is_record (hr.mono (by decide)) (by rfl) (pa_cons (pv 3) pa_nil)))) (pw_or (pt_not (pt_val (pe_callD C_is_field (hr.mono (by decide)) (by rfl) (pa_cons (pv 2) pa_nil)))) (pw_or1 (pt_cmpR (op_eqD hr.units) (pv 2) (pe_lst pa_nil) (nomark _)))))) (pss_one (ps_ret (pe_lst (pa_cons (pe_const (by rfl) T.g_NO_TEXT) pa_nil)))) pss_nil)
      (pss_one (ps_ret (pe_callD C_hold (hr.mono (by decide)) (by rfl) (pa_cons (pv 0) (pa_cons (pv 1) (pa_cons (pe_callD C_pieces_for (hr.mono (by decide)) (by rfl) (pa_cons (pv 3) (pa_cons (pv 2) pa_nil))) pa_nil)))))))), ?_⟩
    refine ⟨_, rfl, D, x, nm, rfl, hs, hnm, hxl, fun H1 hH1 => ⟨_, rfl, ?_⟩⟩
    have g1 := Grow.of_same (M := []) hs hH1
    cases hn : Vaflxb.isName x with
    | false =>
      exact iteT ⟨sz1, aft_fail hsh k (by unfold Vaflxb.doParts; rw [if_pos hn]) g1⟩
    | true =>
      have hda : Vaflxb.doParts st x u r = if Vaflxa.goodRecord r = false ∨ Vaflxb.goodField u = false ∨ u.isEmpty = true then (st, [-5]) else Vaflxb.hold st x (.pieces (Vaflxb.piecesFor r u)) := by
        unfold Vaflxb.doParts
        rw [if_neg (by rw [hn]; decide)]
      refine iteF ⟨_, rfl, D, r, rv, rfl, g1.s, hrec, hrl, hrn, fun H2 hH2 => ⟨_, rfl, ?_⟩⟩
      have g2 := g1.trans (Grow.of_same (M := []) g1.s hH2)
      cases hg : Vaflxa.goodRecord r with
      | false => exact iteT (iteT ⟨sz1, aft_fail hsh k (by rw [hda, if_pos (.inl hg)]) g2⟩)
      | true =>
        obtain ⟨hgr, hr4⟩ := goodR hg
        refine iteF ⟨_, rfl, D, u, ov, rfl, g2.s, hbu, hul, fun H3 hH3 => ⟨_, rfl, ?_⟩⟩
        have g3 := g2.trans (Grow.of_same (M := []) g2.s hH3)
        cases hgu : Vaflxb.goodField u with
        | false => exact iteT (iteT ⟨sz1, aft_fail hsh k (by rw [hda, if_pos (.inr (.inl hgu))]) g3⟩)
        | true =>
          obtain ⟨au, rfl, hau⟩ := id hbu
          refine iteF ⟨_, rfl, sz0, fun q hq => ?_⟩
          have g4 := g3.trans (Grow.fresh (M := []) (u := .lst []) g3.s hq)
          refine ⟨_, _, .lst (SqL.of (g4.s _ _ (g4.d _ _ hau))) (dpAll_tv u), (.lst (ds := []) (SqL.of upd_same) .nil), shaped_dL u, by decide, _, rfl, ?_⟩
          rw [show (PyData.list (u.map fun c => .int (c.toNat : Int))).eqv (.list []) = decide (u = []) from eqv_dL u []]
          by_cases h0 : u = []
          · rw [decide_eq_true h0]
            exact iteT ⟨sz1, aft_fail hsh k (by rw [hda, if_pos (.inr (.inr (by rw [h0]; rfl)))]) g4⟩
          · rw [decide_eq_false h0]
            rw [if_neg (by
              rw [hg, hgu]
              rintro (z | z | z)
              · cases z
              · cases z
              · exact h0 (List.isEmpty_iff.mp z))] at hda
            have hwf := wfS_for hg hgu h0
            have hgu2 := good_iff.mp hgu
            refine iteF ⟨_, rfl, _, rfl, _, rfl, _, rfl, _, r, u, rv, .ref au, rfl, g4.s, hrec.mono g4.d, hgr, hr4, hbu.mono g4.d, hgu2.1, fun D5 H5 v5 g5 b5 => ?_⟩
            have G := g4.trans g5
            refine ⟨D5, sh, dh, st, nm, x, v5, .pieces (Vaflxb.piecesFor r u), rfl, g5.s, hsh.grow (by simp) G, hnm.mono G.d, hn, b5, hwf, fun D6 H6 rr g6 s6 a6 => ?_⟩
            unfold Aft at k
            rw [hda] at k
            exact k _ _ _ (G.anyM.trans g6) s6 a6
def sp_meet (w : World) (K : PySem.W.Frag) (CP CB CPs CPc CS CC : Addr) : Sp := fun vs H Q _ => ∃ D sh dh st nm v1 v2 x a b, vs = [.ref sh, nm, v1, v2] ∧ Sub D H ∧ ShelfD K w CP CB CPs CS D H sh dh st ∧ BL D nm x ∧ BL D v1 a ∧ BL D v2 b ∧ x.length ≤ 100000 ∧ Aft K w CP CB CPs CS [dh] D H sh dh (Vaflxb.doMeet st x a b) Q
abbrev s_meet : Stmt := topS 89
theorem sc_meet : FnScope ["shelf", "name", "one", "other", "first", "second"] ["shelf", "name", "one", "other"] (defScope s_meet) := ⟨rfl, rfl, rfl, by decide +kernel, rfl, by decide +kernel, by decide +kernel⟩
theorem ok_meet (F : Fun K "meet" "meet" s_meet f fd) (T : Txt K mg CP CB CPs CPc CS CC) (C_common : Def P w K mg base 1 "common" ["one", "other"] (sp_common w K CP CB CPs CPc CS CC)) (C_common_pieces : Def P w K mg base 4 "common_pieces" ["one", "other"] (sp_common_pieces w K CP CB CPs CPc CS CC)) (C_hold : Def P w K mg base 1 "hold" ["shelf", "name", "some"] (sp_hold w K CP CB CPs CPc CS CC)) (C_is_name : Def P w K mg base 2 "is_name" ["row"] (sp_is_name w K CP CB CPs CPc CS CC)) (C_is_pieces : Def P w K mg base 1 "is_pieces" ["some"] (sp_is_pieces w K CP CB CPs CPc CS CC)) : FnOk P w K mg base CX0 5 f fd ["shelf", "name", "one", "other"] (sp_meet w K CP CB CPs CPc CS CC) := by
  refine F.ok sc_meet (fun vs H Q E h => ?_) (fun cdv A outer s H vs Q E hr h => ?_)
  · obtain ⟨_, _, _, _, _, _, _, _, _, _, rfl, _⟩ := h; rfl
  · obtain ⟨D, sh, dh, st, nm, v1, v2, x, a, b, rfl, hs, hsh, hnm, hb1, hb2, hxl, k⟩ := h
    refine ⟨_, (pss_cons (ps_if (pt_not (pt_val (pe_callD C_is_name (hr.mono (by decide)) (by rfl) (pa_cons (pv 1) pa_nil)))) (pss_one (ps_ret (pe_lst (pa_cons (pe_const (by rfl) T.g_NO_NAME) pa_nil)))) pss_nil)
      (pss_cons (ps_if (PW.pt (pw_or (pt_cmpR (op_notInG hr.units) (pe_callTy call_tuple_of (by rfl) T.m_tuple b_tuple (pa_cons (pv 2) pa_nil)) (pe_fld (pv 0) rfl) (by rfl)) (pw_or1 (pt_cmpR (op_notInG hr.units) (pe_callTy call_tuple_of (by rfl) T.m_tuple b_tuple (pa_cons (pv 3) pa_nil)) (pe_fld (pv 0) rfl) (by rfl))))) (pss_one (ps_ret (pe_lst (pa_cons (pe_const (by rfl) T.g_NO_SET) pa_nil)))) pss_nil)
      (pss_cons (ps_set (i := 4) sc_meet.nd rfl (by first | exact Or.inl rfl | exact Or.inr rfl) (pe_getG hr.units (pe_fld (pv 0) rfl) (pe_callTy call_tuple_of (by rfl) T.m_tuple b_tuple (pa_cons (pv 2) pa_nil)) (fun _ _ => rfl)))
      (pss_cons (ps_set (i := 5) sc_meet.nd rfl (by first | exact Or.inl rfl | exact Or.inr rfl) (pe_getG hr.units (pe_fld (pv 0) rfl) (pe_callTy call_tuple_of (by rfl) T.m_tuple b_tuple (pa_cons (pv 3) pa_nil)) (fun _ _ => rfl)))
      (pss_cons (ps_if (pt_cmpR op_ne (pe_callD C_is_pieces (hr.mono (by decide)) (by rfl) (pa_cons (pv 4) pa_nil)) (pe_callD C_is_pieces (hr.mono (by decide)) (by rfl) (pa_cons (pv 5) pa_nil)) (nomark _)) (pss_one (ps_ret (pe_lst (pa_cons (pe_const (by rfl) T.g_WRONG_SORT) pa_nil)))) pss_nil)
      (pss_cons (ps_if (pt_val (pe_callD C_is_pieces (hr.mono (by decide)) (by rfl) (pa_cons (pv 4) pa_nil))) (pss_one (ps_ret (pe_callD C_hold (hr.mono (by decide)) (by rfl) (pa_cons (pv 0) (pa_cons (pv 1) (pa_cons (pe_callD C_common_pieces (hr.mono (by decide)) (by rfl) (pa_cons (pv 4) (pa_cons (pv 5) pa_nil))) pa_nil)))))) pss_nil)
      (pss_one (ps_ret (pe_callD C_hold (hr.mono (by decide)) (by rfl) (pa_cons (pv 0) (pa_cons (pv 1) (pa_cons (pe_callD C_common (hr.mono (by decide)) (by rfl) (pa_cons (pv 4) (pa_cons (pv 5) pa_nil))) pa_nil)))))))))))), ?_⟩
    obtain ⟨⟨dxs, hsD⟩, hnd, ⟨xs, ep, hat, z⟩, hok⟩ := id hsh
    obtain ⟨a1, rfl, ha1⟩ := id hb1
    obtain ⟨a2, rfl, ha2⟩ := id hb2
    refine ⟨_, rfl, D, x, nm, rfl, hs, hnm, hxl, fun H1 hH1 => ⟨_, rfl, ?_⟩⟩
    have g1 := Grow.of_same (M := []) hs hH1
    cases hn : Vaflxb.isName x with
    | false =>
      exact iteT ⟨sz1, aft_fail hsh k (by unfold Vaflxb.doMeet; rw [if_pos hn]) g1⟩
    | true =>
      have hdm : Vaflxb.doMeet st x a b = match Vaflxb.find st a, Vaflxb.find st b with
          | some (.positions l), some (.positions m) => Vaflxb.hold st x (.positions (Vaflxb.meetPos l m))
          | some (.pieces s), some (.pieces u) => Vaflxb.hold st x (.pieces (Vaflxb.meetPieces s u))
          | some _, some _ => (st, [-4])
          | _, _ => (st, [-2]) := by
        unfold Vaflxb.doMeet
        rw [if_neg (by rw [hn]; decide)]
        generalize Vaflxb.find st a = fa
        generalize Vaflxb.find st b = fb
        cases fa with
        | none => cases fb <;> rfl
        | some ha =>
          cases fb with
          | none => cases ha <;> rfl
          | some hb => cases ha <;> cases hb <;> rfl
      refine iteF ⟨_, rfl, a1, _, rfl, .inl ⟨SqL.of (g1.s _ _ (g1.d _ _ ha1)), fun q hq => ?_⟩⟩
      have g2 := g1.trans (Grow.fresh (M := []) (u := .tup (tv a)) g1.s hq)
      have look : ∀ {D1 H1 : Hp} (g : Grow [] D H D1 H1) (q : Addr) (t : Tx), SqT K D1 q (tv t) → GGet K w H1 (.ref dh) (.ref q) dh xs ep (kT t) := fun g q t h => ⟨rfl, g.h dh _ (by simp) hat, GKeys.up (g.d.trans g.s) (hent_keys z), KeyOf.up g.s (BT.key ⟨q, rfl, h⟩)⟩
      have shf : ∀ {D1 H1 : Hp} (g : Grow [] D H D1 H1), H1 sh = some (.ins CS dxs [("held", .ref dh)]) := fun g => g.s _ _ (g.d _ _ hsD)
      refine ⟨_, rfl, sh, CS, dxs, _, .ref dh, rfl, shf g2, T.clS, T.nS, rfl, dh, xs, ep, kT a, look g2 q a (SqT.of upd_same), _, rfl, ?_⟩
      rcases held_get a z with ⟨h1, h2⟩ | ⟨va, pa, h1, h2, h3⟩
      · rw [h1]
        have hfa : Vaflxb.find st a = none := by unfold Vaflxb.find; rw [h2]; rfl
        exact iteT (iteT ⟨sz1, aft_fail hsh k (by rw [hdm, hfa]) g2⟩)
      rw [h1]
      have hfa : Vaflxb.find st a = some pa.2 := by unfold Vaflxb.find; rw [h2]; rfl
      have hwa := (hok.wf pa (List.mem_of_find?_eq_some h2)).2
      refine iteF ⟨_, rfl, a2, _, rfl, .inl ⟨SqL.of (g2.s _ _ (g2.d _ _ ha2)), fun q2 hq2 => ?_⟩⟩
      have g3 := g2.trans (Grow.fresh (M := []) (u := .tup (tv b)) g2.s hq2)
      refine ⟨_, rfl, sh, CS, dxs, _, .ref dh, rfl, shf g3, T.clS, T.nS, rfl, dh, xs, ep, kT b, look g3 q2 b (SqT.of upd_same), _, rfl, ?_⟩
      rcases held_get b z with ⟨h4, h5⟩ | ⟨vb, pb, h4, h5, h6⟩
      · rw [h4]
        have hfb : Vaflxb.find st b = none := by unfold Vaflxb.find; rw [h5]; rfl
        refine iteT ⟨sz1, aft_fail hsh k ?_ g3⟩
        rw [hdm, hfa, hfb]
        cases pa.2 <;> rfl
      rw [h4]
      have hfb : Vaflxb.find st b = some pb.2 := by unfold Vaflxb.find; rw [h5]; rfl
      have hwb := (hok.wf pb (List.mem_of_find?_eq_some h5)).2
      rw [hfa, hfb] at hdm
      refine iteF ⟨_, rfl, sh, CS, dxs, _, .ref dh, rfl, shf g3, T.clS, T.nS, rfl, _, rfl, a1, _, rfl, .inl ⟨SqL.of (g3.s _ _ (g3.d _ _ ha1)), fun q3 hq3 => ?_⟩⟩
      have g4 := g3.trans (Grow.fresh (M := []) (u := .tup (tv a)) g3.s hq3)
      refine ⟨dh, xs, ep, kT a, va, look g4 q3 a (SqT.of upd_same), h1, ?_⟩
      refine ⟨_, rfl, sh, CS, dxs, _, .ref dh, rfl, shf g4, T.clS, T.nS, rfl, _, rfl, a2, _, rfl, .inl ⟨SqL.of (g4.s _ _ (g4.d _ _ ha2)), fun q4 hq4 => ?_⟩⟩
      have g5 := g4.trans (Grow.fresh (M := []) (u := .tup (tv b)) g4.s hq4)
      refine ⟨dh, xs, ep, kT b, vb, look g5 q4 b (SqT.of upd_same), h4, ?_⟩
      have H3' := h3.mono g5.d
      have H6' := h6.mono g5.d
      refine ⟨_, rfl, _, va, pa.2, rfl, g5.s, H3', _, rfl, _, vb, pb.2, rfl, g5.s, H6', rfl, _, rfl, ?_⟩
      rw [sortKind]
      generalize pa.2 = ha at *
      generalize pb.2 = hb at *
      cases ha with
      | positions l => cases hb with
        | positions m =>
          refine iteF ⟨_, rfl, _, va, .positions l, rfl, g5.s, H3', _, rfl, ?_⟩
          refine iteF ⟨_, rfl, _, rfl, _, rfl, _, rfl, _, l, m, va, vb, rfl, g5.s, H3', H6', hwa.nd, Nat.le_trans hwa.len (by decide), fun D6 H6 v6 g6 b6 => ?_⟩
          rw [meetT_eq hwa.wf hwb.wf] at b6
          have G := g5.trans g6
          refine ⟨D6, sh, dh, st, nm, x, v6, .positions (Vaflxb.meetPos l m), rfl, g6.s, hsh.grow (by simp) G, hnm.mono G.d, hn, b6, wf_meet hwa, fun D7 H7 rr g7 s7 a7 => ?_⟩
          unfold Aft at k
          rw [hdm] at k
          exact k _ _ _ (G.anyM.trans g7) s7 a7
        | pieces u => exact iteT ⟨sz1, aft_fail hsh k (by rw [hdm]) g5⟩
      | pieces s => cases hb with
        | positions m => exact iteT ⟨sz1, aft_fail hsh k (by rw [hdm]) g5⟩
        | pieces u =>
          have hwm := wfS_meet hwa hwb
          refine iteF ⟨_, rfl, _, va, .pieces s, rfl, g5.s, H3', _, rfl, ?_⟩
          refine iteT ⟨_, rfl, _, rfl, _, rfl, _, rfl, _, s, u, va, vb, rfl, g5.s, H3', H6', hwa.b, hwb.b, Nat.le_trans hwm.len (by decide), fun D6 H6 v6 g6 b6 => ?_⟩
          have G := g5.trans g6
          refine ⟨D6, sh, dh, st, nm, x, v6, .pieces (Vaflxb.meetPieces s u), rfl, g6.s, hsh.grow (by simp) G, hnm.mono G.d, hn, b6, hwm, fun D7 H7 rr g7 s7 a7 => ?_⟩
          unfold Aft at k
          rw [hdm] at k
          exact k _ _ _ (G.anyM.trans g7) s7 a7
end
end Ps
set_option Elab.async false
set_option linter.all false
set_option maxRecDepth 100000
set_option maxHeartbeats 2000000
namespace Ps
open PySem PySem.Spec PyProof.Rows L2 Gd
abbrev Cl := Vaflxb.Call
def wordOf : Cl → Int
  | .at_ _ _ _ => 0
  | .parts _ _ _ => 1
  | .meet _ _ _ => 2
  | .size _ => 3
  | .least _ => 4
  | .item _ _ => 5
  | .has _ _ => 6
  | .list _ => 7
  | .stands _ _ => 8
  | .boxes _ => 9
  | .side _ _ _ => 10
  | .gives _ _ => 11
  | .drop _ => 12
  | .names => 13
def numsOf : Cl → List Int
  | .item n _ => [n]
  | .side i w _ => [i, w]
  | _ => []
/-- the row behind the name -/
def rowIs (rw : List Int) : Cl → Prop
  | .has _ t => rw = Vaflxb.numbers t ∧ t.length ≤ 100000
  | .stands _ t => rw = Vaflxb.numbers t ∧ t.length ≤ 100000
  | .gives _ r => (∃ n, VaflxbNeutral.texts? n rw = some r) ∧ rw.length ≤ 100000 ∧ (∀ t ∈ r, t.length ≤ 100000) ∧ r.length ≤ 100000
  | _ => rw = []
/-- what a call tells of a set -/
def tellC (h : Hd) : Cl → List Int
  | .size _ => [0, ((sizeH h : Nat) : Int)]
  | .least _ => ansLeast h
  | .item n _ => ansItem n h
  | .has _ t => [0, if hasH t h = true then 1 else 0]
  | .list _ => ansList h
  | .stands _ t => ansStand t h
  | .boxes _ => ansBoxes h
  | .side i w _ => ansSide i w h
  | .gives _ r => ansGives r h
  | _ => []
def told9 : Cl → Prop
  | .size _ => True
  | .least _ => True
  | .item _ _ => True
  | .has _ _ => True
  | .list _ => True
  | .stands _ _ => True
  | .boxes _ => True
  | .side _ _ _ => True
  | .gives _ _ => True
  | _ => False
section
variable {P : Program} {w : World} {K : PySem.W.Frag} {mg : Str → Option Value} {base : Heap} {CP CB CPs CPc CS CC : Addr} {f : Addr} {fd : FuncData}
def sp_told_of (w : World) (K : PySem.W.Frag) (CP CB CPs CPc CS CC : Addr) : Sp := fun vs H Q _ => ∃ D v h nv_ rv c rw, vs = [v, .int (wordOf c), nv_, rv] ∧ Sub D H ∧ HeldAt K w CP CB CPs D v h ∧ wfH h ∧ AL D nv_ (numsOf c) ∧ AL D rv rw ∧ rowIs rw c ∧ told9 c ∧ ∀ D' H' r, Grow [] D H D' H' → AL D' r (tellC h c) → Q r H'
abbrev s_told_of : Stmt := topS 103
theorem sc_told_of : FnScope ["some", "word", "numbers", "row"] ["some", "word", "numbers", "row"] (defScope s_told_of) := ⟨rfl, rfl, rfl, by decide +kernel, rfl, by decide +kernel, by decide +kernel⟩
theorem ok_told_of (F : Fun K "told_of" "told_of" s_told_of f fd) (T : Txt K mg CP CB CPs CPc CS CC) (C_boxes : Def P w K mg base 2 "boxes" ["some"] (sp_boxes w K CP CB CPs CPc CS CC)) (C_fields_of : Def P w K mg base 1 "fields_of" ["row"] (sp_fields_of w K CP CB CPs CPc CS CC)) (C_gives : Def P w K mg base 10 "gives" ["some", "fields"] (sp_gives w K CP CB CPs CPc CS CC)) (C_has : Def P w K mg base 5 "has" ["some", "text"] (sp_has w K CP CB CPs CPc CS CC)) (C_item : Def P w K mg base 6 "item" ["some", "n"] (sp_item w K CP CB CPs CPc CS CC)) (C_least : Def P w K mg base 7 "least" ["some"] (sp_least w K CP CB CPs CPc CS CC)) (C_list_of : Def P w K mg base 2 "list_of" ["some"] (sp_list_of w K CP CB CPs CPc CS CC)) (C_set_size : Def P w K mg base 3 "set_size" ["some"] (sp_set_size w K CP CB CPs CPc CS CC)) (C_side : Def P w K mg base 2 "side" ["some", "i", "which"] (sp_side w K CP CB CPs CPc CS CC)) (C_stands : Def P w K mg base 8 "stands" ["some", "field"] (sp_stands w K CP CB CPs CPc CS CC)) : FnOk P w K mg base CX0 11 f fd ["some", "word", "numbers", "row"] (sp_told_of w K CP CB CPs CPc CS CC) := by
  refine F.ok sc_told_of (fun vs H Q E h => ?_) (fun cdv A outer s H vs Q E hr h => ?_)
  · obtain ⟨_, _, _, _, _, _, _, rfl, _⟩ := h; rfl
  · obtain ⟨D, v, h, nv_, rv, c, rw, rfl, hs, hh, hw, hn, hrw, hri, h9, k⟩ := h
    refine ⟨_, (pss_cons (ps_if (pt_cmpR op_eq (pv 1) pe_int (nomark _)) (pss_one (ps_ret (pe_lst (pa_cons pe_int (pa_cons (pe_callD C_set_size (hr.mono (by decide)) (by rfl) (pa_cons (pv 0) pa_nil)) pa_nil))))) pss_nil)
      (pss_cons (ps_if (pt_cmpR op_eq (pv 1) pe_int (nomark _)) (pss_one (ps_ret (pe_callD C_least (hr.mono (by decide)) (by rfl) (pa_cons (pv 0) pa_nil)))) pss_nil)
      (pss_cons (ps_if (pt_cmpR op_eq (pv 1) pe_int (nomark _)) (pss_one (ps_ret (pe_callD C_item (hr.mono (by decide)) (by rfl) (pa_cons (pv 0) (pa_cons (pe_ix ix_list (pv 2) pe_int (fun _ _ => rfl)) pa_nil))))) pss_nil)
      (pss_cons (ps_if (pt_cmpR op_eq (pv 1) pe_int (nomark _)) (pss_one (ps_ret (pe_callD C_has (hr.mono (by decide)) (by rfl) (pa_cons (pv 0) (pa_cons (pv 3) pa_nil))))) pss_nil)
      (pss_cons (ps_if (pt_cmpR op_eq (pv 1) pe_int (nomark _)) (pss_one (ps_ret (pe_callD C_list_of (hr.mono (by decide)) (by rfl) (pa_cons (pv 0) pa_nil)))) pss_nil)
      (pss_cons (ps_if (pt_cmpR op_eq (pv 1) pe_int (nomark _)) (pss_one (ps_ret (pe_callD C_stands (hr.mono (by decide)) (by rfl) (pa_cons (pv 0) (pa_cons (pv 3) pa_nil))))) pss_nil)
      (pss_cons (ps_if (pt_cmpR op_eq (pv 1) pe_int (nomark _)) (pss_one (ps_ret (pe_callD C_boxes (hr.mono (by decide)) (by rfl) (pa_cons (pv 0) pa_nil)))) pss_nil)
      (pss_cons (ps_if (pt_cmpR op_eq (pv 1) pe_int (nomark _)) (pss_one (ps_ret (pe_callD C_side (hr.mono (by decide)) (by rfl) (pa_cons (pv 0) (pa_cons (pe_ix ix_list (pv 2) pe_int (fun _ _ => rfl)) (pa_cons (pe_ix ix_list (pv 2) pe_int (fun _ _ => rfl)) pa_nil)))))) pss_nil)
      (pss_one (ps_ret (pe_callD C_gives (hr.mono (by decide)) (by rfl) (pa_cons (pv 0) (pa_cons (pe_callD C_fields_of (hr.mono (by decide)) (by rfl) (pa_cons (pv 3) pa_nil)) pa_nil))))))))))))), ?_⟩
    cases c with
    | size a =>
      refine ⟨_, rfl, rfl, _, rfl, iteT ⟨_, rfl, D, v, h, rfl, hs, hh, hw, fun H1 hH1 => ⟨sz2, fun p hp => ?_⟩⟩⟩
      have g1 := Grow.of_same (M := []) hs hH1
      exact k _ _ _ (g1.trans (Grow.fresh g1.s hp)) ⟨p, rfl, upd_same⟩
    | least a =>
      exact ⟨_, rfl, rfl, _, rfl, iteF ⟨_, rfl, rfl, _, rfl, iteT ⟨_, rfl, D, v, h, rfl, hs, hh, hw, k⟩⟩⟩
    | item n a =>
      obtain ⟨an, rfl, han⟩ := hn
      exact ⟨_, rfl, rfl, _, rfl, iteF ⟨_, rfl, rfl, _, rfl, iteF ⟨_, rfl, rfl, _, rfl, iteT ⟨_, rfl, _, rfl, an, _, 0, .int n, rfl, rfl, SqL.of (hs _ _ han), (show atI _ ((0 : Nat) : Int) = _ from atI_nat rfl), D, v, h, n, rfl, hs, hh, hw, k⟩⟩⟩⟩
    | has a t =>
      obtain ⟨rfl, htl⟩ := hri
      exact ⟨_, rfl, rfl, _, rfl, iteF ⟨_, rfl, rfl, _, rfl, iteF ⟨_, rfl, rfl, _, rfl, iteF ⟨_, rfl, rfl, _, rfl, iteT ⟨_, rfl, _, rfl, D, v, h, rv, t, rfl, hs, hh, hw, hrw.bl, htl, k⟩⟩⟩⟩⟩
    | list a =>
      exact ⟨_, rfl, rfl, _, rfl, iteF ⟨_, rfl, rfl, _, rfl, iteF ⟨_, rfl, rfl, _, rfl, iteF ⟨_, rfl, rfl, _, rfl, iteF ⟨_, rfl, rfl, _, rfl, iteT ⟨_, rfl, D, v, h, rfl, hs, hh, hw, k⟩⟩⟩⟩⟩⟩
    | stands a t =>
      obtain ⟨rfl, htl⟩ := hri
      exact ⟨_, rfl, rfl, _, rfl, iteF ⟨_, rfl, rfl, _, rfl, iteF ⟨_, rfl, rfl, _, rfl, iteF ⟨_, rfl, rfl, _, rfl, iteF ⟨_, rfl, rfl, _, rfl, iteF ⟨_, rfl, rfl, _, rfl, iteT ⟨_, rfl, _, rfl, D, v, h, rv, t, rfl, hs, hh, hw, hrw.bl, htl, k⟩⟩⟩⟩⟩⟩⟩
    | boxes a =>
      exact ⟨_, rfl, rfl, _, rfl, iteF ⟨_, rfl, rfl, _, rfl, iteF ⟨_, rfl, rfl, _, rfl, iteF ⟨_, rfl, rfl, _, rfl, iteF ⟨_, rfl, rfl, _, rfl, iteF ⟨_, rfl, rfl, _, rfl, iteF ⟨_, rfl, rfl, _, rfl, iteT ⟨_, rfl, D, v, h, rfl, hs, hh, hw, k⟩⟩⟩⟩⟩⟩⟩⟩
    | side i w2 a =>
      obtain ⟨an, rfl, han⟩ := hn
      exact ⟨_, rfl, rfl, _, rfl, iteF ⟨_, rfl, rfl, _, rfl, iteF ⟨_, rfl, rfl, _, rfl, iteF ⟨_, rfl, rfl, _, rfl, iteF ⟨_, rfl, rfl, _, rfl, iteF ⟨_, rfl, rfl, _, rfl, iteF ⟨_, rfl, rfl, _, rfl, iteF ⟨_, rfl, rfl, _, rfl, iteT ⟨_, rfl, _, rfl, an, _, 0, .int i, rfl, rfl, SqL.of (hs _ _ han), (show atI _ ((0 : Nat) : Int) = _ from atI_nat rfl), _, rfl, an, _, 1, .int w2, rfl, rfl, SqL.of (hs _ _ han), (show atI _ ((1 : Nat) : Int) = _ from atI_nat rfl), D, v, h, i, w2, rfl, hs, hh, hw, k⟩⟩⟩⟩⟩⟩⟩⟩⟩
    | gives a r =>
      obtain ⟨⟨n, htx⟩, hrl, hr1, hr2⟩ := hri
      refine ⟨_, rfl, rfl, _, rfl, iteF ⟨_, rfl, rfl, _, rfl, iteF ⟨_, rfl, rfl, _, rfl, iteF ⟨_, rfl, rfl, _, rfl, iteF ⟨_, rfl, rfl, _, rfl, iteF ⟨_, rfl, rfl, _, rfl, iteF ⟨_, rfl, rfl, _, rfl, iteF ⟨_, rfl, rfl, _, rfl, iteF ⟨_, rfl, _, rfl, D, rw, r, n, rv, rfl, hs, hrw, htx, hrl, fun D1 H1 v1 g1 r1 => ⟨D1, v, h, v1, r, rfl, g1.s, hh.mono g1.d, hw, r1, hr1, hr2, fun D2 H2 r2 g2 a2 => ?_⟩⟩⟩⟩⟩⟩⟩⟩⟩⟩
      exact k _ _ _ (g1.trans g2) a2
    | at_ _ _ _ => exact h9.elim
    | parts _ _ _ => exact h9.elim
    | meet _ _ _ => exact h9.elim
    | drop _ => exact h9.elim
    | names  => exact h9.elim
end
end Ps
set_option Elab.async false
set_option linter.all false
set_option maxRecDepth 100000
set_option maxHeartbeats 2000000
namespace Ps
open PySem PySem.Spec PyProof.Rows L2 Gd
def nameOf : Cl → Tx
  | .size a => a
  | .least a => a
  | .item _ a => a
  | .has a _ => a
  | .list a => a
  | .stands a _ => a
  | .boxes a => a
  | .side _ _ a => a
  | .gives a _ => a
  | .drop a => a
  | _ => []
def hasRow : Cl → Bool
  | .has _ _ => true
  | .stands _ _ => true
  | .gives _ _ => true
  | _ => false
def setC : Cl → Prop
  | .at_ _ _ _ => False
  | .parts _ _ _ => False
  | .meet _ _ _ => False
  | .names => False
  | _ => True
def RowAt (l : List Int) (i : Nat) (rw : List Int) : Prop := l[i]? = some ((rw.length : Nat) : Int) ∧ (l.drop (i + 1)).take rw.length = rw
def Lay (l : List Int) (i : Nat) (c : Cl) (j : Nat) : Prop := ∃ rw, (l.drop i).take (numsOf c).length = numsOf c ∧ RowAt l (i + (numsOf c).length) (Vaflxb.numbers (nameOf c)) ∧ rowIs rw c ∧
  (hasRow c = true → RowAt l (i + (numsOf c).length + 1 + (nameOf c).length) rw ∧ j = i + (numsOf c).length + 1 + (nameOf c).length + 1 + rw.length) ∧ (hasRow c = false → j = i + (numsOf c).length + 1 + (nameOf c).length)
def stepS (st : Vaflxb.State) (c : Cl) : SA := match Vaflxb.find st (nameOf c) with
  | none => (st, [-2])
  | some h => match c with
    | .drop a => ({ held := st.held.filter fun p => p.1 != a }, [0])
    | c => (st, tellC h c)
theorem numbers_len (t : Tx) : (Vaflxb.numbers t).length = t.length := by unfold Vaflxb.numbers; rw [List.length_map]
theorem Grow.wide {M M' : List Addr} {D H D' H' : Hp} (h : ∀ p ∈ M, p ∈ M') (g : Grow M D H D' H') : Grow M' D H D' H' := ⟨fun b o hb e => g.h b o (fun z => hb (h b z)) e, g.m, g.d, g.s, g.n⟩
section
variable {K : PySem.W.Frag} {w : World} {CP CB CPs CS CC : Addr} {D H : Hp}
theorem held_ref {v : V} {h : Hd} (q : HeldAt K w CP CB CPs D v h) : ∃ a, v = .ref a := by
  cases h with
  | positions l => obtain ⟨d, _, _, e, _⟩ := q; exact ⟨d, e⟩
  | pieces s => obtain ⟨a, _, _, _, e, _⟩ := q; exact ⟨a, e⟩
theorem shelf_calls {sh dh ca : Addr} {st : Vaflxb.State} {l : List Int} {i : Nat} (s : ShelfD K w CP CB CPs CS D H sh dh st) (c : CallsD CC D H ca l i) : dh ≠ ca := by
  obtain ⟨_, _, ⟨xs, ep, h1, _⟩, _⟩ := s
  obtain ⟨_, dx, an, h2, _⟩ := c
  intro e
  rw [e, h2] at h1
  cases h1
theorem hent_drop (x : Tx) : ∀ {xs : List Ent} {l : List (Tx × Hd)}, All2 (HEnt K w CP CB CPs D) xs l → All2 (HEnt K w CP CB CPs D) (dropE xs (kT x)) (l.filter fun p => p.1 != x)
  | [], [], _ => trivial
  | e :: xs, p :: l, ⟨h1, t⟩ => by
    unfold dropE
    rw [List.filter_cons, List.filter_cons]
    have ih := hent_drop x t
    unfold dropE at ih
    by_cases h : p.1 = x
    · rw [if_neg (by rw [h1.1, h]; simp), if_neg (by simp [h])]; exact ih
    · rw [if_pos (by rw [h1.1]; exact decide_eq_true fun z => h (kT_inj z)), if_pos (by simp [h])]; exact ⟨h1, ih⟩
  | [], _ :: _, z => z.elim
  | _ :: _, [], z => z.elim
theorem stOk_drop {st : Vaflxb.State} (h : stOk st) (x : Tx) : stOk { held := st.held.filter fun p => p.1 != x } := by
  refine ⟨List.Sublist.nodup (List.Sublist.map _ List.filter_sublist) h.nd, Nat.le_trans (List.length_filter_le _ _) h.len, fun p hp => h.wf p (List.mem_filter.mp hp).1⟩
end
section
variable {P : Program} {w : World} {K : PySem.W.Frag} {mg : Str → Option Value} {base : Heap} {CP CB CPs CPc CS CC : Addr} {f : Addr} {fd : FuncData}
def sp_call_of_set (w : World) (K : PySem.W.Frag) (CP CB CPs CPc CS CC : Addr) : Sp := fun vs H Q _ => ∃ D sh dh st ca l i c j, vs = [.ref sh, .int (wordOf c), .ref ca] ∧ Sub D H ∧ ShelfD K w CP CB CPs CS D H sh dh st ∧ CallsD CC D H ca l i ∧ setC c ∧ Lay l i c j ∧ ∀ D' H' r, Grow [dh, ca] D H D' H' → ShelfD K w CP CB CPs CS D' H' sh dh (stepS st c).1 → CallsD CC D' H' ca l j → AL D' r (stepS st c).2 → Q r H'
abbrev s_call_of_set : Stmt := topS 102
theorem sc_call_of_set : FnScope ["shelf", "word", "calls", "numbers", "name", "row", "some"] ["shelf", "word", "calls"] (defScope s_call_of_set) := ⟨rfl, rfl, rfl, by decide +kernel, rfl, by decide +kernel, by decide +kernel⟩
theorem ok_call_of_set (F : Fun K "call_of_set" "call_of_set" s_call_of_set f fd) (T : Txt K mg CP CB CPs CPc CS CC) (C_asked : Def P w K mg base 1 "asked" ["shelf", "name"] (sp_asked w K CP CB CPs CPc CS CC)) (C_next_numbers : Def P w K mg base 1 "next_numbers" ["calls", "many"] (sp_next_numbers w K CP CB CPs CPc CS CC)) (C_next_row : Def P w K mg base 2 "next_row" ["calls"] (sp_next_row w K CP CB CPs CPc CS CC)) (C_told_of : Def P w K mg base 11 "told_of" ["some", "word", "numbers", "row"] (sp_told_of w K CP CB CPs CPc CS CC)) : FnOk P w K mg base CX0 12 f fd ["shelf", "word", "calls"] (sp_call_of_set w K CP CB CPs CPc CS CC) := by
  refine F.ok sc_call_of_set (fun vs H Q E h => ?_) (fun cdv A outer s H vs Q E hr h => ?_)
  · obtain ⟨_, _, _, _, _, _, _, _, _, rfl, _⟩ := h; rfl
  · obtain ⟨D, sh, dh, st, ca, l, i, c, j, rfl, hs, hsh, hca, hset, ⟨rw, hnum, hrow, hri, hy, hno⟩, k⟩ := h
    refine ⟨_, (pss_cons (ps_set (i := 3) sc_call_of_set.nd rfl (by first | exact Or.inl rfl | exact Or.inr rfl) (pe_lst pa_nil))
      (pss_cons (ps_if (pt_cmpR op_eq (pv 1) pe_int (nomark _)) (pss_one (ps_set (i := 3) sc_call_of_set.nd rfl (by first | exact Or.inl rfl | exact Or.inr rfl) (pe_callD C_next_numbers (hr.mono (by decide)) (by rfl) (pa_cons (pv 2) (pa_cons pe_int pa_nil))))) pss_nil)
      (pss_cons (ps_if (pt_cmpR op_eq (pv 1) pe_int (nomark _)) (pss_one (ps_set (i := 3) sc_call_of_set.nd rfl (by first | exact Or.inl rfl | exact Or.inr rfl) (pe_callD C_next_numbers (hr.mono (by decide)) (by rfl) (pa_cons (pv 2) (pa_cons pe_int pa_nil))))) pss_nil)
      (pss_cons (ps_set (i := 4) sc_call_of_set.nd rfl (by first | exact Or.inl rfl | exact Or.inr rfl) (pe_callD C_next_row (hr.mono (by decide)) (by rfl) (pa_cons (pv 2) pa_nil)))
      (pss_cons (ps_set (i := 5) sc_call_of_set.nd rfl (by first | exact Or.inl rfl | exact Or.inr rfl) (pe_lst pa_nil))
      (pss_cons (ps_if (pt_cmpR op_in_seq (pv 1) (pe_tup (pa_cons pe_int (pa_cons pe_int (pa_cons pe_int pa_nil)))) (by rfl)) (pss_one (ps_set (i := 5) sc_call_of_set.nd rfl (by first | exact Or.inl rfl | exact Or.inr rfl) (pe_callD C_next_row (hr.mono (by decide)) (by rfl) (pa_cons (pv 2) pa_nil)))) pss_nil)
      (pss_cons (ps_set (i := 6) sc_call_of_set.nd rfl (by first | exact Or.inl rfl | exact Or.inr rfl) (pe_callD C_asked (hr.mono (by decide)) (by rfl) (pa_cons (pv 0) (pa_cons (pv 4) pa_nil))))
      (pss_cons (ps_if (pt_cmpR op_isN (pv 6) pe_non (nomark _)) (pss_one (ps_ret (pe_lst (pa_cons (pe_const (by rfl) T.g_NO_SET) pa_nil)))) pss_nil)
      (pss_cons (ps_if (pt_cmpR op_eq (pv 1) pe_int (nomark _)) (pss_cons (ps_expr (pe_bmG PySem.F.slot_dict_pop PySem.F.type_dict_pop (mt_popG hr.units) (pe_fld (pv 0) rfl) (pa_cons (pe_callTy call_tuple_of (by rfl) T.m_tuple b_tuple (pa_cons (pv 4) pa_nil)) pa_nil)))
      (pss_one (ps_ret (pe_lst (pa_cons pe_int pa_nil))))) pss_nil)
      (pss_one (ps_ret (pe_callD C_told_of (hr.mono (by decide)) (by rfl) (pa_cons (pv 6) (pa_cons (pv 1) (pa_cons (pv 3) (pa_cons (pv 5) pa_nil)))))))))))))))), ?_⟩
    have hne := shelf_calls hsh hca
    refine ⟨sz0, fun q hq => ?_⟩
    have g1 := Grow.fresh (M := []) (u := .lst []) hs hq
    have c1 := hca.grow (by simp) g1
    have wca : ∀ p ∈ [ca], p ∈ [dh, ca] := fun p hp => List.mem_cons_of_mem _ hp
    cases c with
    | size a =>
      refine ⟨_, rfl, rfl, _, rfl, iteF ⟨_, rfl, rfl, _, rfl, iteF ?_⟩⟩
      have gN : Grow [ca] D H (upd D q (.lst [])) (upd H q (.lst [])) := g1.anyM
      have cN : CallsD CC (upd D q (.lst [])) (upd H q (.lst [])) ca l (i + 0) := c1
      have aN : AL (upd D q (.lst [])) (.ref q) [] := ⟨q, rfl, upd_same⟩
      have hr1 := hrow.1
      rw [numbers_len] at hr1
      have hr2 := hrow.2
      rw [numbers_len] at hr2
      refine ⟨_, rfl, _, ca, l, i + 0, a.length, rfl, gN.s, cN, hr1, fun D3 H3 v3 g3 c3 a3 => ?_⟩
      have b3 : BL D3 v3 a := AL.bl (by
        have hr2 : (l.drop (i + 0 + 1)).take a.length = Vaflxb.numbers a := hr2
        rw [← hr2]; exact a3)
      refine ⟨sz0, fun q2 hq2 => ?_⟩
      have g4 := Grow.fresh (M := [ca]) (u := .lst []) g3.s hq2
      refine ⟨_, rfl, sz3, fun q3 hq3 => ⟨q3, _, rfl, .inr (SqT.of upd_same), rfl, rfl, _, rfl, ?_⟩⟩
      have g5 := Grow.fresh (M := [ca]) (u := .tup [.int 6, .int 8, .int 11]) g4.s hq3
      have G5 := ((gN.trans g3).trans g4).trans g5
      have c5 : CallsD CC _ _ ca l (i + 0 + 1 + a.length) := (c3.grow (M := []) (by simp) (Grow.fresh (u := .lst []) g3.s hq2)).grow (M := []) (by simp) (Grow.fresh (u := .tup [.int 6, .int 8, .int 11]) g4.s hq3)
      refine iteF ?_
      have G6 := G5
      have hri : rw = [] := hri
      have a6 : AL (upd (upd D3 q2 (.lst [])) q3 (.tup [.int 6, .int 8, .int 11])) (.ref q2) rw := ⟨q2, rfl, by rw [hri]; exact g5.d _ _ upd_same⟩
      have e6 : j = i + 0 + 1 + a.length := hno rfl
      have c6 := c5
      rw [← e6] at c6
      have d36 := g4.d.trans g5.d
      have S6 := g5.s
      have sh6 := hsh.grow (by simp [hne]) G6
      refine ⟨_, rfl, _, rfl, _, sh, dh, st, v3, a, rfl, S6, sh6, b3.mono d36, fun hn D7 H7 g7 => ?_, fun h hf hwf D7 H7 v7 g7 hh => ?_⟩
      · refine ⟨_, rfl, rfl, _, rfl, iteT ⟨sz1, fun p hp => ?_⟩⟩
        have g8 := Grow.fresh (M := []) (u := .lst [V.int (-2)]) g7.s hp
        have g78 := g7.trans g8
        have hst : stepS st (.size a) = (st, [-2]) := by unfold stepS; show (match Vaflxb.find st a with | none => _ | some h => _) = _; rw [hn]
        rw [hst] at k
        exact k _ _ _ ((G6.wide wca).trans g78.anyM) (sh6.grow (by simp) g78) (c6.grow (by simp) g78) ⟨p, rfl, upd_same⟩
      · obtain ⟨a7, rfl⟩ := held_ref hh
        have G7 := (G6.wide wca).trans g7.anyM
        have sh7 := sh6.grow (by simp) g7
        have c7 := c6.grow (by simp) g7
        have hst : stepS st (.size a) = (st, tellC h (.size a)) := by unfold stepS; show (match Vaflxb.find st a with | none => _ | some h => _) = _; rw [hf]
        rw [hst] at k
        refine ⟨_, rfl, rfl, _, rfl, iteF ⟨_, rfl, rfl, _, rfl, iteF ⟨_, rfl, _, rfl, _, rfl, _, rfl, D7, .ref a7, h, .ref q, .ref q2, .size a, rw, rfl, g7.s, hh, hwf, aN.mono ((g3.d.trans d36).trans g7.d), a6.mono g7.d, hri, trivial, fun D8 H8 r8 g8 a8 => ?_⟩⟩⟩
        exact k _ _ _ (G7.trans g8.anyM) (sh7.grow (by simp) g8) (c7.grow (by simp) g8) a8
    | least a =>
      refine ⟨_, rfl, rfl, _, rfl, iteF ⟨_, rfl, rfl, _, rfl, iteF ?_⟩⟩
      have gN : Grow [ca] D H (upd D q (.lst [])) (upd H q (.lst [])) := g1.anyM
      have cN : CallsD CC (upd D q (.lst [])) (upd H q (.lst [])) ca l (i + 0) := c1
      have aN : AL (upd D q (.lst [])) (.ref q) [] := ⟨q, rfl, upd_same⟩
      have hr1 := hrow.1
      rw [numbers_len] at hr1
      have hr2 := hrow.2
      rw [numbers_len] at hr2
      refine ⟨_, rfl, _, ca, l, i + 0, a.length, rfl, gN.s, cN, hr1, fun D3 H3 v3 g3 c3 a3 => ?_⟩
      have b3 : BL D3 v3 a := AL.bl (by
        have hr2 : (l.drop (i + 0 + 1)).take a.length = Vaflxb.numbers a := hr2
        rw [← hr2]; exact a3)
      refine ⟨sz0, fun q2 hq2 => ?_⟩
      have g4 := Grow.fresh (M := [ca]) (u := .lst []) g3.s hq2
      refine ⟨_, rfl, sz3, fun q3 hq3 => ⟨q3, _, rfl, .inr (SqT.of upd_same), rfl, rfl, _, rfl, ?_⟩⟩
      have g5 := Grow.fresh (M := [ca]) (u := .tup [.int 6, .int 8, .int 11]) g4.s hq3
      have G5 := ((gN.trans g3).trans g4).trans g5
      have c5 : CallsD CC _ _ ca l (i + 0 + 1 + a.length) := (c3.grow (M := []) (by simp) (Grow.fresh (u := .lst []) g3.s hq2)).grow (M := []) (by simp) (Grow.fresh (u := .tup [.int 6, .int 8, .int 11]) g4.s hq3)
      refine iteF ?_
      have G6 := G5
      have hri : rw = [] := hri
      have a6 : AL (upd (upd D3 q2 (.lst [])) q3 (.tup [.int 6, .int 8, .int 11])) (.ref q2) rw := ⟨q2, rfl, by rw [hri]; exact g5.d _ _ upd_same⟩
      have e6 : j = i + 0 + 1 + a.length := hno rfl
      have c6 := c5
      rw [← e6] at c6
      have d36 := g4.d.trans g5.d
      have S6 := g5.s
      have sh6 := hsh.grow (by simp [hne]) G6
      refine ⟨_, rfl, _, rfl, _, sh, dh, st, v3, a, rfl, S6, sh6, b3.mono d36, fun hn D7 H7 g7 => ?_, fun h hf hwf D7 H7 v7 g7 hh => ?_⟩
      · refine ⟨_, rfl, rfl, _, rfl, iteT ⟨sz1, fun p hp => ?_⟩⟩
        have g8 := Grow.fresh (M := []) (u := .lst [V.int (-2)]) g7.s hp
        have g78 := g7.trans g8
        have hst : stepS st (.least a) = (st, [-2]) := by unfold stepS; show (match Vaflxb.find st a with | none => _ | some h => _) = _; rw [hn]
        rw [hst] at k
        exact k _ _ _ ((G6.wide wca).trans g78.anyM) (sh6.grow (by simp) g78) (c6.grow (by simp) g78) ⟨p, rfl, upd_same⟩
      · obtain ⟨a7, rfl⟩ := held_ref hh
        have G7 := (G6.wide wca).trans g7.anyM
        have sh7 := sh6.grow (by simp) g7
        have c7 := c6.grow (by simp) g7
        have hst : stepS st (.least a) = (st, tellC h (.least a)) := by unfold stepS; show (match Vaflxb.find st a with | none => _ | some h => _) = _; rw [hf]
        rw [hst] at k
        refine ⟨_, rfl, rfl, _, rfl, iteF ⟨_, rfl, rfl, _, rfl, iteF ⟨_, rfl, _, rfl, _, rfl, _, rfl, D7, .ref a7, h, .ref q, .ref q2, .least a, rw, rfl, g7.s, hh, hwf, aN.mono ((g3.d.trans d36).trans g7.d), a6.mono g7.d, hri, trivial, fun D8 H8 r8 g8 a8 => ?_⟩⟩⟩
        exact k _ _ _ (G7.trans g8.anyM) (sh7.grow (by simp) g8) (c7.grow (by simp) g8) a8
    | item n a =>
      refine ⟨_, rfl, rfl, _, rfl, iteT ⟨_, rfl, upd D q (.lst []), ca, l, i, 1, rfl, g1.s, c1, fun DN HN vN g2 cN aN => ⟨_, rfl, rfl, _, rfl, iteF ?_⟩⟩⟩
      have gN : Grow [ca] D H DN HN := g1.anyM.trans g2
      have hnum' : (l.drop i).take 1 = numsOf (.item n a) := hnum
      rw [hnum'] at aN
      have hr1 := hrow.1
      rw [numbers_len] at hr1
      have hr2 := hrow.2
      rw [numbers_len] at hr2
      refine ⟨_, rfl, _, ca, l, i + 1, a.length, rfl, gN.s, cN, hr1, fun D3 H3 v3 g3 c3 a3 => ?_⟩
      have b3 : BL D3 v3 a := AL.bl (by
        have hr2 : (l.drop (i + 1 + 1)).take a.length = Vaflxb.numbers a := hr2
        rw [← hr2]; exact a3)
      refine ⟨sz0, fun q2 hq2 => ?_⟩
      have g4 := Grow.fresh (M := [ca]) (u := .lst []) g3.s hq2
      refine ⟨_, rfl, sz3, fun q3 hq3 => ⟨q3, _, rfl, .inr (SqT.of upd_same), rfl, rfl, _, rfl, ?_⟩⟩
      have g5 := Grow.fresh (M := [ca]) (u := .tup [.int 6, .int 8, .int 11]) g4.s hq3
      have G5 := ((gN.trans g3).trans g4).trans g5
      have c5 : CallsD CC _ _ ca l (i + 1 + 1 + a.length) := (c3.grow (M := []) (by simp) (Grow.fresh (u := .lst []) g3.s hq2)).grow (M := []) (by simp) (Grow.fresh (u := .tup [.int 6, .int 8, .int 11]) g4.s hq3)
      refine iteF ?_
      have G6 := G5
      have hri : rw = [] := hri
      have a6 : AL (upd (upd D3 q2 (.lst [])) q3 (.tup [.int 6, .int 8, .int 11])) (.ref q2) rw := ⟨q2, rfl, by rw [hri]; exact g5.d _ _ upd_same⟩
      have e6 : j = i + 1 + 1 + a.length := hno rfl
      have c6 := c5
      rw [← e6] at c6
      have d36 := g4.d.trans g5.d
      have S6 := g5.s
      have sh6 := hsh.grow (by simp [hne]) G6
      refine ⟨_, rfl, _, rfl, _, sh, dh, st, v3, a, rfl, S6, sh6, b3.mono d36, fun hn D7 H7 g7 => ?_, fun h hf hwf D7 H7 v7 g7 hh => ?_⟩
      · refine ⟨_, rfl, rfl, _, rfl, iteT ⟨sz1, fun p hp => ?_⟩⟩
        have g8 := Grow.fresh (M := []) (u := .lst [V.int (-2)]) g7.s hp
        have g78 := g7.trans g8
        have hst : stepS st (.item n a) = (st, [-2]) := by unfold stepS; show (match Vaflxb.find st a with | none => _ | some h => _) = _; rw [hn]
        rw [hst] at k
        exact k _ _ _ ((G6.wide wca).trans g78.anyM) (sh6.grow (by simp) g78) (c6.grow (by simp) g78) ⟨p, rfl, upd_same⟩
      · obtain ⟨a7, rfl⟩ := held_ref hh
        have G7 := (G6.wide wca).trans g7.anyM
        have sh7 := sh6.grow (by simp) g7
        have c7 := c6.grow (by simp) g7
        have hst : stepS st (.item n a) = (st, tellC h (.item n a)) := by unfold stepS; show (match Vaflxb.find st a with | none => _ | some h => _) = _; rw [hf]
        rw [hst] at k
        refine ⟨_, rfl, rfl, _, rfl, iteF ⟨_, rfl, rfl, _, rfl, iteF ⟨_, rfl, _, rfl, _, rfl, _, rfl, D7, .ref a7, h, vN, .ref q2, .item n a, rw, rfl, g7.s, hh, hwf, aN.mono ((g3.d.trans d36).trans g7.d), a6.mono g7.d, hri, trivial, fun D8 H8 r8 g8 a8 => ?_⟩⟩⟩
        exact k _ _ _ (G7.trans g8.anyM) (sh7.grow (by simp) g8) (c7.grow (by simp) g8) a8
    | has a t =>
      refine ⟨_, rfl, rfl, _, rfl, iteF ⟨_, rfl, rfl, _, rfl, iteF ?_⟩⟩
      have gN : Grow [ca] D H (upd D q (.lst [])) (upd H q (.lst [])) := g1.anyM
      have cN : CallsD CC (upd D q (.lst [])) (upd H q (.lst [])) ca l (i + 0) := c1
      have aN : AL (upd D q (.lst [])) (.ref q) [] := ⟨q, rfl, upd_same⟩
      have hr1 := hrow.1
      rw [numbers_len] at hr1
      have hr2 := hrow.2
      rw [numbers_len] at hr2
      refine ⟨_, rfl, _, ca, l, i + 0, a.length, rfl, gN.s, cN, hr1, fun D3 H3 v3 g3 c3 a3 => ?_⟩
      have b3 : BL D3 v3 a := AL.bl (by
        have hr2 : (l.drop (i + 0 + 1)).take a.length = Vaflxb.numbers a := hr2
        rw [← hr2]; exact a3)
      refine ⟨sz0, fun q2 hq2 => ?_⟩
      have g4 := Grow.fresh (M := [ca]) (u := .lst []) g3.s hq2
      refine ⟨_, rfl, sz3, fun q3 hq3 => ⟨q3, _, rfl, .inr (SqT.of upd_same), rfl, rfl, _, rfl, ?_⟩⟩
      have g5 := Grow.fresh (M := [ca]) (u := .tup [.int 6, .int 8, .int 11]) g4.s hq3
      have G5 := ((gN.trans g3).trans g4).trans g5
      have c5 : CallsD CC _ _ ca l (i + 0 + 1 + a.length) := (c3.grow (M := []) (by simp) (Grow.fresh (u := .lst []) g3.s hq2)).grow (M := []) (by simp) (Grow.fresh (u := .tup [.int 6, .int 8, .int 11]) g4.s hq3)
      obtain ⟨hy1, hy2⟩ := hy rfl
      refine iteT ⟨_, rfl, _, ca, l, i + 0 + 1 + a.length, rw.length, rfl, G5.s, c5, hy1.1, fun D6 H6 v6 g6 c6 a6 => ?_⟩
      have G6 := G5.trans g6
      have a6 : AL D6 v6 rw := by
        have e : (l.drop (i + 0 + 1 + a.length + 1)).take rw.length = rw := hy1.2
        rw [e] at a6; exact a6
      have c6 : CallsD CC D6 H6 ca l j := by
        have e : j = i + 0 + 1 + a.length + 1 + rw.length := hy2
        rw [e]; exact c6
      have d36 := (g4.d.trans g5.d).trans g6.d
      have S6 := g6.s
      have sh6 := hsh.grow (by simp [hne]) G6
      refine ⟨_, rfl, _, rfl, _, sh, dh, st, v3, a, rfl, S6, sh6, b3.mono d36, fun hn D7 H7 g7 => ?_, fun h hf hwf D7 H7 v7 g7 hh => ?_⟩
      · refine ⟨_, rfl, rfl, _, rfl, iteT ⟨sz1, fun p hp => ?_⟩⟩
        have g8 := Grow.fresh (M := []) (u := .lst [V.int (-2)]) g7.s hp
        have g78 := g7.trans g8
        have hst : stepS st (.has a t) = (st, [-2]) := by unfold stepS; show (match Vaflxb.find st a with | none => _ | some h => _) = _; rw [hn]
        rw [hst] at k
        exact k _ _ _ ((G6.wide wca).trans g78.anyM) (sh6.grow (by simp) g78) (c6.grow (by simp) g78) ⟨p, rfl, upd_same⟩
      · obtain ⟨a7, rfl⟩ := held_ref hh
        have G7 := (G6.wide wca).trans g7.anyM
        have sh7 := sh6.grow (by simp) g7
        have c7 := c6.grow (by simp) g7
        have hst : stepS st (.has a t) = (st, tellC h (.has a t)) := by unfold stepS; show (match Vaflxb.find st a with | none => _ | some h => _) = _; rw [hf]
        rw [hst] at k
        refine ⟨_, rfl, rfl, _, rfl, iteF ⟨_, rfl, rfl, _, rfl, iteF ⟨_, rfl, _, rfl, _, rfl, _, rfl, D7, .ref a7, h, .ref q, v6, .has a t, rw, rfl, g7.s, hh, hwf, aN.mono ((g3.d.trans d36).trans g7.d), a6.mono g7.d, hri, trivial, fun D8 H8 r8 g8 a8 => ?_⟩⟩⟩
        exact k _ _ _ (G7.trans g8.anyM) (sh7.grow (by simp) g8) (c7.grow (by simp) g8) a8
    | list a =>
      refine ⟨_, rfl, rfl, _, rfl, iteF ⟨_, rfl, rfl, _, rfl, iteF ?_⟩⟩
      have gN : Grow [ca] D H (upd D q (.lst [])) (upd H q (.lst [])) := g1.anyM
      have cN : CallsD CC (upd D q (.lst [])) (upd H q (.lst [])) ca l (i + 0) := c1
      have aN : AL (upd D q (.lst [])) (.ref q) [] := ⟨q, rfl, upd_same⟩
      have hr1 := hrow.1
      rw [numbers_len] at hr1
      have hr2 := hrow.2
      rw [numbers_len] at hr2
      refine ⟨_, rfl, _, ca, l, i + 0, a.length, rfl, gN.s, cN, hr1, fun D3 H3 v3 g3 c3 a3 => ?_⟩
      have b3 : BL D3 v3 a := AL.bl (by
        have hr2 : (l.drop (i + 0 + 1)).take a.length = Vaflxb.numbers a := hr2
        rw [← hr2]; exact a3)
      refine ⟨sz0, fun q2 hq2 => ?_⟩
      have g4 := Grow.fresh (M := [ca]) (u := .lst []) g3.s hq2
      refine ⟨_, rfl, sz3, fun q3 hq3 => ⟨q3, _, rfl, .inr (SqT.of upd_same), rfl, rfl, _, rfl, ?_⟩⟩
      have g5 := Grow.fresh (M := [ca]) (u := .tup [.int 6, .int 8, .int 11]) g4.s hq3
      have G5 := ((gN.trans g3).trans g4).trans g5
      have c5 : CallsD CC _ _ ca l (i + 0 + 1 + a.length) := (c3.grow (M := []) (by simp) (Grow.fresh (u := .lst []) g3.s hq2)).grow (M := []) (by simp) (Grow.fresh (u := .tup [.int 6, .int 8, .int 11]) g4.s hq3)
      refine iteF ?_
      have G6 := G5
      have hri : rw = [] := hri
      have a6 : AL (upd (upd D3 q2 (.lst [])) q3 (.tup [.int 6, .int 8, .int 11])) (.ref q2) rw := ⟨q2, rfl, by rw [hri]; exact g5.d _ _ upd_same⟩
      have e6 : j = i + 0 + 1 + a.length := hno rfl
      have c6 := c5
      rw [← e6] at c6
      have d36 := g4.d.trans g5.d
      have S6 := g5.s
      have sh6 := hsh.grow (by simp [hne]) G6
      refine ⟨_, rfl, _, rfl, _, sh, dh, st, v3, a, rfl, S6, sh6, b3.mono d36, fun hn D7 H7 g7 => ?_, fun h hf hwf D7 H7 v7 g7 hh => ?_⟩
      · refine ⟨_, rfl, rfl, _, rfl, iteT ⟨sz1, fun p hp => ?_⟩⟩
        have g8 := Grow.fresh (M := []) (u := .lst [V.int (-2)]) g7.s hp
        have g78 := g7.trans g8
        have hst : stepS st (.list a) = (st, [-2]) := by unfold stepS; show (match Vaflxb.find st a with | none => _ | some h => _) = _; rw [hn]
        rw [hst] at k
        exact k _ _ _ ((G6.wide wca).trans g78.anyM) (sh6.grow (by simp) g78) (c6.grow (by simp) g78) ⟨p, rfl, upd_same⟩
      · obtain ⟨a7, rfl⟩ := held_ref hh
        have G7 := (G6.wide wca).trans g7.anyM
        have sh7 := sh6.grow (by simp) g7
        have c7 := c6.grow (by simp) g7
        have hst : stepS st (.list a) = (st, tellC h (.list a)) := by unfold stepS; show (match Vaflxb.find st a with | none => _ | some h => _) = _; rw [hf]
        rw [hst] at k
        refine ⟨_, rfl, rfl, _, rfl, iteF ⟨_, rfl, rfl, _, rfl, iteF ⟨_, rfl, _, rfl, _, rfl, _, rfl, D7, .ref a7, h, .ref q, .ref q2, .list a, rw, rfl, g7.s, hh, hwf, aN.mono ((g3.d.trans d36).trans g7.d), a6.mono g7.d, hri, trivial, fun D8 H8 r8 g8 a8 => ?_⟩⟩⟩
        exact k _ _ _ (G7.trans g8.anyM) (sh7.grow (by simp) g8) (c7.grow (by simp) g8) a8
    | stands a t =>
      refine ⟨_, rfl, rfl, _, rfl, iteF ⟨_, rfl, rfl, _, rfl, iteF ?_⟩⟩
      have gN : Grow [ca] D H (upd D q (.lst [])) (upd H q (.lst [])) := g1.anyM
      have cN : CallsD CC (upd D q (.lst [])) (upd H q (.lst [])) ca l (i + 0) := c1
      have aN : AL (upd D q (.lst [])) (.ref q) [] := ⟨q, rfl, upd_same⟩
      have hr1 := hrow.1
      rw [numbers_len] at hr1
      have hr2 := hrow.2
      rw [numbers_len] at hr2
      refine ⟨_, rfl, _, ca, l, i + 0, a.length, rfl, gN.s, cN, hr1, fun D3 H3 v3 g3 c3 a3 => ?_⟩
      have b3 : BL D3 v3 a := AL.bl (by
        have hr2 : (l.drop (i + 0 + 1)).take a.length = Vaflxb.numbers a := hr2
        rw [← hr2]; exact a3)
      refine ⟨sz0, fun q2 hq2 => ?_⟩
      have g4 := Grow.fresh (M := [ca]) (u := .lst []) g3.s hq2
      refine ⟨_, rfl, sz3, fun q3 hq3 => ⟨q3, _, rfl, .inr (SqT.of upd_same), rfl, rfl, _, rfl, ?_⟩⟩
      have g5 := Grow.fresh (M := [ca]) (u := .tup [.int 6, .int 8, .int 11]) g4.s hq3
      have G5 := ((gN.trans g3).trans g4).trans g5
      have c5 : CallsD CC _ _ ca l (i + 0 + 1 + a.length) := (c3.grow (M := []) (by simp) (Grow.fresh (u := .lst []) g3.s hq2)).grow (M := []) (by simp) (Grow.fresh (u := .tup [.int 6, .int 8, .int 11]) g4.s hq3)
      obtain ⟨hy1, hy2⟩ := hy rfl
      refine iteT ⟨_, rfl, _, ca, l, i + 0 + 1 + a.length, rw.length, rfl, G5.s, c5, hy1.1, fun D6 H6 v6 g6 c6 a6 => ?_⟩
      have G6 := G5.trans g6
      have a6 : AL D6 v6 rw := by
        have e : (l.drop (i + 0 + 1 + a.length + 1)).take rw.length = rw := hy1.2
        rw [e] at a6; exact a6
      have c6 : CallsD CC D6 H6 ca l j := by
        have e : j = i + 0 + 1 + a.length + 1 + rw.length := hy2
        rw [e]; exact c6
      have d36 := (g4.d.trans g5.d).trans g6.d
      have S6 := g6.s
      have sh6 := hsh.grow (by simp [hne]) G6
      refine ⟨_, rfl, _, rfl, _, sh, dh, st, v3, a, rfl, S6, sh6, b3.mono d36, fun hn D7 H7 g7 => ?_, fun h hf hwf D7 H7 v7 g7 hh => ?_⟩
      · refine ⟨_, rfl, rfl, _, rfl, iteT ⟨sz1, fun p hp => ?_⟩⟩
        have g8 := Grow.fresh (M := []) (u := .lst [V.int (-2)]) g7.s hp
        have g78 := g7.trans g8
        have hst : stepS st (.stands a t) = (st, [-2]) := by unfold stepS; show (match Vaflxb.find st a with | none => _ | some h => _) = _; rw [hn]
        rw [hst] at k
        exact k _ _ _ ((G6.wide wca).trans g78.anyM) (sh6.grow (by simp) g78) (c6.grow (by simp) g78) ⟨p, rfl, upd_same⟩
      · obtain ⟨a7, rfl⟩ := held_ref hh
        have G7 := (G6.wide wca).trans g7.anyM
        have sh7 := sh6.grow (by simp) g7
        have c7 := c6.grow (by simp) g7
        have hst : stepS st (.stands a t) = (st, tellC h (.stands a t)) := by unfold stepS; show (match Vaflxb.find st a with | none => _ | some h => _) = _; rw [hf]
        rw [hst] at k
        refine ⟨_, rfl, rfl, _, rfl, iteF ⟨_, rfl, rfl, _, rfl, iteF ⟨_, rfl, _, rfl, _, rfl, _, rfl, D7, .ref a7, h, .ref q, v6, .stands a t, rw, rfl, g7.s, hh, hwf, aN.mono ((g3.d.trans d36).trans g7.d), a6.mono g7.d, hri, trivial, fun D8 H8 r8 g8 a8 => ?_⟩⟩⟩
        exact k _ _ _ (G7.trans g8.anyM) (sh7.grow (by simp) g8) (c7.grow (by simp) g8) a8
    | boxes a =>
      refine ⟨_, rfl, rfl, _, rfl, iteF ⟨_, rfl, rfl, _, rfl, iteF ?_⟩⟩
      have gN : Grow [ca] D H (upd D q (.lst [])) (upd H q (.lst [])) := g1.anyM
      have cN : CallsD CC (upd D q (.lst [])) (upd H q (.lst [])) ca l (i + 0) := c1
      have aN : AL (upd D q (.lst [])) (.ref q) [] := ⟨q, rfl, upd_same⟩
      have hr1 := hrow.1
      rw [numbers_len] at hr1
      have hr2 := hrow.2
      rw [numbers_len] at hr2
      refine ⟨_, rfl, _, ca, l, i + 0, a.length, rfl, gN.s, cN, hr1, fun D3 H3 v3 g3 c3 a3 => ?_⟩
      have b3 : BL D3 v3 a := AL.bl (by
        have hr2 : (l.drop (i + 0 + 1)).take a.length = Vaflxb.numbers a := hr2
        rw [← hr2]; exact a3)
      refine ⟨sz0, fun q2 hq2 => ?_⟩
      have g4 := Grow.fresh (M := [ca]) (u := .lst []) g3.s hq2
      refine ⟨_, rfl, sz3, fun q3 hq3 => ⟨q3, _, rfl, .inr (SqT.of upd_same), rfl, rfl, _, rfl, ?_⟩⟩
      have g5 := Grow.fresh (M := [ca]) (u := .tup [.int 6, .int 8, .int 11]) g4.s hq3
      have G5 := ((gN.trans g3).trans g4).trans g5
      have c5 : CallsD CC _ _ ca l (i + 0 + 1 + a.length) := (c3.grow (M := []) (by simp) (Grow.fresh (u := .lst []) g3.s hq2)).grow (M := []) (by simp) (Grow.fresh (u := .tup [.int 6, .int 8, .int 11]) g4.s hq3)
      refine iteF ?_
      have G6 := G5
      have hri : rw = [] := hri
      have a6 : AL (upd (upd D3 q2 (.lst [])) q3 (.tup [.int 6, .int 8, .int 11])) (.ref q2) rw := ⟨q2, rfl, by rw [hri]; exact g5.d _ _ upd_same⟩
      have e6 : j = i + 0 + 1 + a.length := hno rfl
      have c6 := c5
      rw [← e6] at c6
      have d36 := g4.d.trans g5.d
      have S6 := g5.s
      have sh6 := hsh.grow (by simp [hne]) G6
      refine ⟨_, rfl, _, rfl, _, sh, dh, st, v3, a, rfl, S6, sh6, b3.mono d36, fun hn D7 H7 g7 => ?_, fun h hf hwf D7 H7 v7 g7 hh => ?_⟩
      · refine ⟨_, rfl, rfl, _, rfl, iteT ⟨sz1, fun p hp => ?_⟩⟩
        have g8 := Grow.fresh (M := []) (u := .lst [V.int (-2)]) g7.s hp
        have g78 := g7.trans g8
        have hst : stepS st (.boxes a) = (st, [-2]) := by unfold stepS; show (match Vaflxb.find st a with | none => _ | some h => _) = _; rw [hn]
        rw [hst] at k
        exact k _ _ _ ((G6.wide wca).trans g78.anyM) (sh6.grow (by simp) g78) (c6.grow (by simp) g78) ⟨p, rfl, upd_same⟩
      · obtain ⟨a7, rfl⟩ := held_ref hh
        have G7 := (G6.wide wca).trans g7.anyM
        have sh7 := sh6.grow (by simp) g7
        have c7 := c6.grow (by simp) g7
        have hst : stepS st (.boxes a) = (st, tellC h (.boxes a)) := by unfold stepS; show (match Vaflxb.find st a with | none => _ | some h => _) = _; rw [hf]
        rw [hst] at k
        refine ⟨_, rfl, rfl, _, rfl, iteF ⟨_, rfl, rfl, _, rfl, iteF ⟨_, rfl, _, rfl, _, rfl, _, rfl, D7, .ref a7, h, .ref q, .ref q2, .boxes a, rw, rfl, g7.s, hh, hwf, aN.mono ((g3.d.trans d36).trans g7.d), a6.mono g7.d, hri, trivial, fun D8 H8 r8 g8 a8 => ?_⟩⟩⟩
        exact k _ _ _ (G7.trans g8.anyM) (sh7.grow (by simp) g8) (c7.grow (by simp) g8) a8
    | side i2 w2 a =>
      refine ⟨_, rfl, rfl, _, rfl, iteF ⟨_, rfl, rfl, _, rfl, iteT ⟨_, rfl, upd D q (.lst []), ca, l, i, 2, rfl, g1.s, c1, fun DN HN vN g2 cN aN => ?_⟩⟩⟩
      have gN : Grow [ca] D H DN HN := g1.anyM.trans g2
      have hnum' : (l.drop i).take 2 = numsOf (.side i2 w2 a) := hnum
      rw [hnum'] at aN
      have hr1 := hrow.1
      rw [numbers_len] at hr1
      have hr2 := hrow.2
      rw [numbers_len] at hr2
      refine ⟨_, rfl, _, ca, l, i + 2, a.length, rfl, gN.s, cN, hr1, fun D3 H3 v3 g3 c3 a3 => ?_⟩
      have b3 : BL D3 v3 a := AL.bl (by
        have hr2 : (l.drop (i + 2 + 1)).take a.length = Vaflxb.numbers a := hr2
        rw [← hr2]; exact a3)
      refine ⟨sz0, fun q2 hq2 => ?_⟩
      have g4 := Grow.fresh (M := [ca]) (u := .lst []) g3.s hq2
      refine ⟨_, rfl, sz3, fun q3 hq3 => ⟨q3, _, rfl, .inr (SqT.of upd_same), rfl, rfl, _, rfl, ?_⟩⟩
      have g5 := Grow.fresh (M := [ca]) (u := .tup [.int 6, .int 8, .int 11]) g4.s hq3
      have G5 := ((gN.trans g3).trans g4).trans g5
      have c5 : CallsD CC _ _ ca l (i + 2 + 1 + a.length) := (c3.grow (M := []) (by simp) (Grow.fresh (u := .lst []) g3.s hq2)).grow (M := []) (by simp) (Grow.fresh (u := .tup [.int 6, .int 8, .int 11]) g4.s hq3)
      refine iteF ?_
      have G6 := G5
      have hri : rw = [] := hri
      have a6 : AL (upd (upd D3 q2 (.lst [])) q3 (.tup [.int 6, .int 8, .int 11])) (.ref q2) rw := ⟨q2, rfl, by rw [hri]; exact g5.d _ _ upd_same⟩
      have e6 : j = i + 2 + 1 + a.length := hno rfl
      have c6 := c5
      rw [← e6] at c6
      have d36 := g4.d.trans g5.d
      have S6 := g5.s
      have sh6 := hsh.grow (by simp [hne]) G6
      refine ⟨_, rfl, _, rfl, _, sh, dh, st, v3, a, rfl, S6, sh6, b3.mono d36, fun hn D7 H7 g7 => ?_, fun h hf hwf D7 H7 v7 g7 hh => ?_⟩
      · refine ⟨_, rfl, rfl, _, rfl, iteT ⟨sz1, fun p hp => ?_⟩⟩
        have g8 := Grow.fresh (M := []) (u := .lst [V.int (-2)]) g7.s hp
        have g78 := g7.trans g8
        have hst : stepS st (.side i2 w2 a) = (st, [-2]) := by unfold stepS; show (match Vaflxb.find st a with | none => _ | some h => _) = _; rw [hn]
        rw [hst] at k
        exact k _ _ _ ((G6.wide wca).trans g78.anyM) (sh6.grow (by simp) g78) (c6.grow (by simp) g78) ⟨p, rfl, upd_same⟩
      · obtain ⟨a7, rfl⟩ := held_ref hh
        have G7 := (G6.wide wca).trans g7.anyM
        have sh7 := sh6.grow (by simp) g7
        have c7 := c6.grow (by simp) g7
        have hst : stepS st (.side i2 w2 a) = (st, tellC h (.side i2 w2 a)) := by unfold stepS; show (match Vaflxb.find st a with | none => _ | some h => _) = _; rw [hf]
        rw [hst] at k
        refine ⟨_, rfl, rfl, _, rfl, iteF ⟨_, rfl, rfl, _, rfl, iteF ⟨_, rfl, _, rfl, _, rfl, _, rfl, D7, .ref a7, h, vN, .ref q2, .side i2 w2 a, rw, rfl, g7.s, hh, hwf, aN.mono ((g3.d.trans d36).trans g7.d), a6.mono g7.d, hri, trivial, fun D8 H8 r8 g8 a8 => ?_⟩⟩⟩
        exact k _ _ _ (G7.trans g8.anyM) (sh7.grow (by simp) g8) (c7.grow (by simp) g8) a8
    | gives a r =>
      refine ⟨_, rfl, rfl, _, rfl, iteF ⟨_, rfl, rfl, _, rfl, iteF ?_⟩⟩
      have gN : Grow [ca] D H (upd D q (.lst [])) (upd H q (.lst [])) := g1.anyM
      have cN : CallsD CC (upd D q (.lst [])) (upd H q (.lst [])) ca l (i + 0) := c1
      have aN : AL (upd D q (.lst [])) (.ref q) [] := ⟨q, rfl, upd_same⟩
      have hr1 := hrow.1
      rw [numbers_len] at hr1
      have hr2 := hrow.2
      rw [numbers_len] at hr2
      refine ⟨_, rfl, _, ca, l, i + 0, a.length, rfl, gN.s, cN, hr1, fun D3 H3 v3 g3 c3 a3 => ?_⟩
      have b3 : BL D3 v3 a := AL.bl (by
        have hr2 : (l.drop (i + 0 + 1)).take a.length = Vaflxb.numbers a := hr2
        rw [← hr2]; exact a3)
      refine ⟨sz0, fun q2 hq2 => ?_⟩
      have g4 := Grow.fresh (M := [ca]) (u := .lst []) g3.s hq2
      refine ⟨_, rfl, sz3, fun q3 hq3 => ⟨q3, _, rfl, .inr (SqT.of upd_same), rfl, rfl, _, rfl, ?_⟩⟩
      have g5 := Grow.fresh (M := [ca]) (u := .tup [.int 6, .int 8, .int 11]) g4.s hq3
      have G5 := ((gN.trans g3).trans g4).trans g5
      have c5 : CallsD CC _ _ ca l (i + 0 + 1 + a.length) := (c3.grow (M := []) (by simp) (Grow.fresh (u := .lst []) g3.s hq2)).grow (M := []) (by simp) (Grow.fresh (u := .tup [.int 6, .int 8, .int 11]) g4.s hq3)
      obtain ⟨hy1, hy2⟩ := hy rfl
      refine iteT ⟨_, rfl, _, ca, l, i + 0 + 1 + a.length, rw.length, rfl, G5.s, c5, hy1.1, fun D6 H6 v6 g6 c6 a6 => ?_⟩
      have G6 := G5.trans g6
      have a6 : AL D6 v6 rw := by
        have e : (l.drop (i + 0 + 1 + a.length + 1)).take rw.length = rw := hy1.2
        rw [e] at a6; exact a6
      have c6 : CallsD CC D6 H6 ca l j := by
        have e : j = i + 0 + 1 + a.length + 1 + rw.length := hy2
        rw [e]; exact c6
      have d36 := (g4.d.trans g5.d).trans g6.d
      have S6 := g6.s
      have sh6 := hsh.grow (by simp [hne]) G6
      refine ⟨_, rfl, _, rfl, _, sh, dh, st, v3, a, rfl, S6, sh6, b3.mono d36, fun hn D7 H7 g7 => ?_, fun h hf hwf D7 H7 v7 g7 hh => ?_⟩
      · refine ⟨_, rfl, rfl, _, rfl, iteT ⟨sz1, fun p hp => ?_⟩⟩
        have g8 := Grow.fresh (M := []) (u := .lst [V.int (-2)]) g7.s hp
        have g78 := g7.trans g8
        have hst : stepS st (.gives a r) = (st, [-2]) := by unfold stepS; show (match Vaflxb.find st a with | none => _ | some h => _) = _; rw [hn]
        rw [hst] at k
        exact k _ _ _ ((G6.wide wca).trans g78.anyM) (sh6.grow (by simp) g78) (c6.grow (by simp) g78) ⟨p, rfl, upd_same⟩
      · obtain ⟨a7, rfl⟩ := held_ref hh
        have G7 := (G6.wide wca).trans g7.anyM
        have sh7 := sh6.grow (by simp) g7
        have c7 := c6.grow (by simp) g7
        have hst : stepS st (.gives a r) = (st, tellC h (.gives a r)) := by unfold stepS; show (match Vaflxb.find st a with | none => _ | some h => _) = _; rw [hf]
        rw [hst] at k
        refine ⟨_, rfl, rfl, _, rfl, iteF ⟨_, rfl, rfl, _, rfl, iteF ⟨_, rfl, _, rfl, _, rfl, _, rfl, D7, .ref a7, h, .ref q, v6, .gives a r, rw, rfl, g7.s, hh, hwf, aN.mono ((g3.d.trans d36).trans g7.d), a6.mono g7.d, hri, trivial, fun D8 H8 r8 g8 a8 => ?_⟩⟩⟩
        exact k _ _ _ (G7.trans g8.anyM) (sh7.grow (by simp) g8) (c7.grow (by simp) g8) a8
    | drop a =>
      refine ⟨_, rfl, rfl, _, rfl, iteF ⟨_, rfl, rfl, _, rfl, iteF ?_⟩⟩
      have gN : Grow [ca] D H (upd D q (.lst [])) (upd H q (.lst [])) := g1.anyM
      have cN : CallsD CC (upd D q (.lst [])) (upd H q (.lst [])) ca l (i + 0) := c1
      have aN : AL (upd D q (.lst [])) (.ref q) [] := ⟨q, rfl, upd_same⟩
      have hr1 := hrow.1
      rw [numbers_len] at hr1
      have hr2 := hrow.2
      rw [numbers_len] at hr2
      refine ⟨_, rfl, _, ca, l, i + 0, a.length, rfl, gN.s, cN, hr1, fun D3 H3 v3 g3 c3 a3 => ?_⟩
      have b3 : BL D3 v3 a := AL.bl (by
        have hr2 : (l.drop (i + 0 + 1)).take a.length = Vaflxb.numbers a := hr2
        rw [← hr2]; exact a3)
      refine ⟨sz0, fun q2 hq2 => ?_⟩
      have g4 := Grow.fresh (M := [ca]) (u := .lst []) g3.s hq2
      refine ⟨_, rfl, sz3, fun q3 hq3 => ⟨q3, _, rfl, .inr (SqT.of upd_same), rfl, rfl, _, rfl, ?_⟩⟩
      have g5 := Grow.fresh (M := [ca]) (u := .tup [.int 6, .int 8, .int 11]) g4.s hq3
      have G5 := ((gN.trans g3).trans g4).trans g5
      have c5 : CallsD CC _ _ ca l (i + 0 + 1 + a.length) := (c3.grow (M := []) (by simp) (Grow.fresh (u := .lst []) g3.s hq2)).grow (M := []) (by simp) (Grow.fresh (u := .tup [.int 6, .int 8, .int 11]) g4.s hq3)
      refine iteF ?_
      have G6 := G5
      have hri : rw = [] := hri
      have a6 : AL (upd (upd D3 q2 (.lst [])) q3 (.tup [.int 6, .int 8, .int 11])) (.ref q2) rw := ⟨q2, rfl, by rw [hri]; exact g5.d _ _ upd_same⟩
      have e6 : j = i + 0 + 1 + a.length := hno rfl
      have c6 := c5
      rw [← e6] at c6
      have d36 := g4.d.trans g5.d
      have S6 := g5.s
      have sh6 := hsh.grow (by simp [hne]) G6
      refine ⟨_, rfl, _, rfl, _, sh, dh, st, v3, a, rfl, S6, sh6, b3.mono d36, fun hn D7 H7 g7 => ?_, fun h hf hwf D7 H7 v7 g7 hh => ?_⟩
      · refine ⟨_, rfl, rfl, _, rfl, iteT ⟨sz1, fun p hp => ?_⟩⟩
        have g8 := Grow.fresh (M := []) (u := .lst [V.int (-2)]) g7.s hp
        have g78 := g7.trans g8
        have hst : stepS st (.drop a) = (st, [-2]) := by unfold stepS; show (match Vaflxb.find st a with | none => _ | some h => _) = _; rw [hn]
        rw [hst] at k
        exact k _ _ _ ((G6.wide wca).trans g78.anyM) (sh6.grow (by simp) g78) (c6.grow (by simp) g78) ⟨p, rfl, upd_same⟩
      · obtain ⟨a7, rfl⟩ := held_ref hh
        have G7 := (G6.wide wca).trans g7.anyM
        have sh7 := sh6.grow (by simp) g7
        have c7 := c6.grow (by simp) g7
        have hst : stepS st (.drop a) = ({ held := st.held.filter fun p => p.1 != a }, [0]) := by unfold stepS; show (match Vaflxb.find st a with | none => _ | some h => _) = _; rw [hf]
        rw [hst] at k
        obtain ⟨⟨dxs, hsD⟩, hnd, ⟨xs, ep, hat, z⟩, hok⟩ := id sh7
        obtain ⟨an, rfl, han⟩ := b3.mono (d36.trans g7.d)
        refine ⟨_, rfl, rfl, _, rfl, iteF ⟨_, rfl, rfl, _, rfl, iteT ⟨_, rfl, sh, CS, dxs, _, .ref dh, rfl, g7.s _ _ hsD, T.clS, T.nS, rfl, ⟨dh, xs, ep, rfl, hat⟩, _, rfl, an, _, rfl, .inl ⟨SqL.of (g7.s _ _ han), fun q8 hq8 => ?_⟩⟩⟩⟩
        have g8 := Grow.fresh (M := []) (u := .tup (tv a)) g7.s hq8
        have z8 : All2 (HEnt K w CP CB CPs (upd D7 q8 (.tup (tv a)))) xs st.held := z.mono fun _ _ q => q.mono g8.d
        obtain ⟨v', p', e1, e2, _⟩ : ∃ v p, getE xs (kT a) = some v ∧ (st.held.find? fun p => p.1 == a) = some p ∧ HeldAt K w CP CB CPs (upd D7 q8 (.tup (tv a))) v p.2 := by
          rcases held_get a z8 with ⟨h1, h2⟩ | h
          · unfold Vaflxb.find at hf
            have hf : (st.held.find? fun p => p.1 == a).map (fun p => p.2) = some h := hf
            rw [h2] at hf; cases hf
          · exact h
        have hat8 := g8.h dh _ (by simp) hat
        refine ⟨_, dh, xs, ep, kT a, v', rfl, ⟨rfl, hat8, GKeys.up g8.s (hent_keys z8), KeyOf.up g8.s (BT.key ⟨q8, rfl, SqT.of upd_same⟩)⟩, e1, fun ep' => ⟨sz1, fun p hp => ?_⟩⟩
        have hnd8 := g8.keep (ne_none hat) hnd
        have g9 : Grow [dh] _ _ (upd D7 q8 (.tup (tv a))) (upd _ dh (GD w dh (dropE xs (kT a)) ep')) := (Grow.refl g8.s).write (.inr (List.mem_singleton.mpr rfl)) hnd8
        have g10 := Grow.fresh (M := []) (u := .lst [V.int 0]) g9.s hp
        have c10 := ((c7.grow (by simp) g8).grow (by simp [Ne.symm hne]) g9).grow (by simp) g10
        have hdp : dh ≠ p := ne_of_none upd_same hp
        have G := (G7.trans (g8.trans (Grow.refl g8.s)).anyM).trans (g9.wide (fun p hp => by simp at hp; simp [hp]))
        refine k _ _ _ (G.trans g10.anyM) ⟨⟨dxs, g10.d _ _ (g8.d _ _ hsD)⟩, g10.keep (by rw [upd_same]; exact Option.some_ne_none _) hnd8, ⟨dropE xs (kT a), ep', by rw [upd_ne hdp]; exact upd_same, hent_drop a (z8.mono fun _ _ q => q.mono g10.d)⟩, stOk_drop hok a⟩ c10 ⟨p, rfl, upd_same⟩
    | at_ _ _ _ => exact hset.elim
    | parts _ _ _ => exact hset.elim
    | meet _ _ _ => exact hset.elim
    | names  => exact hset.elim
end
end Ps
set_option Elab.async false
set_option linter.all false
set_option maxRecDepth 100000
set_option maxHeartbeats 2000000
namespace Ps
open PySem PySem.Spec PyProof.Rows L2 Gd
def CallAt (l : List Int) (i : Nat) (c : Cl) (j : Nat) : Prop := match c with
  | .at_ p x t => l[i]? = some p ∧ RowAt l (i + 1) (Vaflxb.numbers x) ∧ RowAt l (i + 1 + 1 + x.length) (Vaflxb.numbers t) ∧ j = i + 1 + 1 + x.length + 1 + t.length ∧ x.length ≤ 100000 ∧ t.length ≤ 100000
  | .parts x u r => RowAt l i (Vaflxb.numbers x) ∧ RowAt l (i + 1 + x.length) (Vaflxb.numbers u) ∧ x.length ≤ 100000 ∧ u.length ≤ 100000 ∧ ∃ rw n, VaflxbNeutral.texts? n rw = some r ∧ RowAt l (i + 1 + x.length + 1 + u.length) rw ∧ j = i + 1 + x.length + 1 + u.length + 1 + rw.length ∧ rw.length ≤ 100000 ∧ (∀ t ∈ r, t.length ≤ 100000) ∧ r.length ≤ 100000
  | .meet x a b => RowAt l i (Vaflxb.numbers x) ∧ RowAt l (i + 1 + x.length) (Vaflxb.numbers a) ∧ RowAt l (i + 1 + x.length + 1 + a.length) (Vaflxb.numbers b) ∧ j = i + 1 + x.length + 1 + a.length + 1 + b.length ∧ x.length ≤ 100000
  | .names => j = i
  | c => Lay l i c j
def stepC (st : Vaflxb.State) (c : Cl) : SA := match c with
  | .at_ p x t => Vaflxb.doAt st p x t
  | .parts x u r => Vaflxb.doParts st x u r
  | .meet x a b => Vaflxb.doMeet st x a b
  | .names => (st, Vaflxb.textAnswer (told (st.held.map fun p => p.1)))
  | c => stepS st c
section
variable {P : Program} {w : World} {K : PySem.W.Frag} {mg : Str → Option Value} {base : Heap} {CP CB CPs CPc CS CC : Addr} {f : Addr} {fd : FuncData}
theorem rowT {l : List Int} {i : Nat} {t : Tx} (h : RowAt l i (Vaflxb.numbers t)) : l[i]? = some ((t.length : Nat) : Int) ∧ (l.drop (i + 1)).take t.length = Vaflxb.numbers t := by
  have := h
  unfold RowAt at this
  rwa [numbers_len] at this
def sp_one_call (w : World) (K : PySem.W.Frag) (CP CB CPs CPc CS CC : Addr) : Sp := fun vs H Q _ => ∃ D sh dh st ca l i c j, vs = [.ref sh, .int (wordOf c), .ref ca] ∧ Sub D H ∧ ShelfD K w CP CB CPs CS D H sh dh st ∧ CallsD CC D H ca l i ∧ CallAt l i c j ∧ ∀ D' H' r, Grow [dh, ca] D H D' H' → ShelfD K w CP CB CPs CS D' H' sh dh (stepC st c).1 → CallsD CC D' H' ca l j → AL D' r (stepC st c).2 → Q r H'
abbrev s_one_call : Stmt := topS 104
theorem sc_one_call : FnScope ["shelf", "word", "calls", "place", "name", "output", "one"] ["shelf", "word", "calls"] (defScope s_one_call) := ⟨rfl, rfl, rfl, by decide +kernel, rfl, by decide +kernel, by decide +kernel⟩
theorem ok_one_call (F : Fun K "one_call" "one_call" s_one_call f fd) (T : Txt K mg CP CB CPs CPc CS CC) (C_at : Def P w K mg base 8 "at" ["shelf", "place", "name", "field"] (sp_at w K CP CB CPs CPc CS CC)) (C_call_of_set : Def P w K mg base 12 "call_of_set" ["shelf", "word", "calls"] (sp_call_of_set w K CP CB CPs CPc CS CC)) (C_fields_of : Def P w K mg base 1 "fields_of" ["row"] (sp_fields_of w K CP CB CPs CPc CS CC)) (C_meet : Def P w K mg base 5 "meet" ["shelf", "name", "one", "other"] (sp_meet w K CP CB CPs CPc CS CC)) (C_names : Def P w K mg base 2 "names" ["shelf"] (sp_names w K CP CB CPs CPc CS CC)) (C_next_numbers : Def P w K mg base 1 "next_numbers" ["calls", "many"] (sp_next_numbers w K CP CB CPs CPc CS CC)) (C_next_row : Def P w K mg base 2 "next_row" ["calls"] (sp_next_row w K CP CB CPs CPc CS CC)) (C_parts : Def P w K mg base 10 "parts" ["shelf", "name", "output", "fields"] (sp_parts w K CP CB CPs CPc CS CC)) : FnOk P w K mg base CX0 13 f fd ["shelf", "word", "calls"] (sp_one_call w K CP CB CPs CPc CS CC) := by
  refine F.ok sc_one_call (fun vs H Q E h => ?_) (fun cdv A outer s H vs Q E hr h => ?_)
  · obtain ⟨_, _, _, _, _, _, _, _, _, rfl, _⟩ := h; rfl
  · obtain ⟨D, sh, dh, st, ca, l, i, c, j, rfl, hs, hsh, hca, hcl, k⟩ := h
    refine ⟨_, (pss_cons (ps_if (pt_cmpR op_eq (pv 1) pe_int (nomark _)) (pss_cons (ps_set (i := 3) sc_one_call.nd rfl (by first | exact Or.inl rfl | exact Or.inr rfl) (pe_ix ix_list (pe_callD C_next_numbers (hr.mono (by decide)) (by rfl) (pa_cons (pv 2) (pa_cons pe_int pa_nil))) pe_int (fun _ _ => rfl)))
      (pss_cons (ps_set (i := 4) sc_one_call.nd rfl (by first | exact Or.inl rfl | exact Or.inr rfl) (pe_callD C_next_row (hr.mono (by decide)) (by rfl) (pa_cons (pv 2) pa_nil)))
      (pss_one (ps_ret (pe_callD C_at (hr.mono (by decide)) (by rfl) (pa_cons (pv 0) (pa_cons (pv 3) (pa_cons (pv 4) (pa_cons (pe_callD C_next_row (hr.mono (by decide)) (by rfl) (pa_cons (pv 2) pa_nil)) pa_nil))))))))) pss_nil)
      (pss_cons (ps_if (pt_cmpR op_eq (pv 1) pe_int (nomark _)) (pss_cons (ps_set (i := 4) sc_one_call.nd rfl (by first | exact Or.inl rfl | exact Or.inr rfl) (pe_callD C_next_row (hr.mono (by decide)) (by rfl) (pa_cons (pv 2) pa_nil)))
      (pss_cons (ps_set (i := 5) sc_one_call.nd rfl (by first | exact Or.inl rfl | exact Or.inr rfl) (pe_callD C_next_row (hr.mono (by decide)) (by rfl) (pa_cons (pv 2) pa_nil)))
      (pss_one (ps_ret (pe_callD C_parts (hr.mono (by decide)) (by rfl) (pa_cons (pv 0) (pa_cons (pv 4) (pa_cons (pv 5) (pa_cons (pe_callD C_fields_of (hr.mono (by decide)) (by rfl) (pa_cons (pe_callD C_next_row (hr.mono (by decide)) (by rfl) (pa_cons (pv 2) pa_nil)) pa_nil)) pa_nil))))))))) pss_nil)
      (pss_cons (ps_if (pt_cmpR op_eq (pv 1) pe_int (nomark _)) (pss_cons (ps_set (i := 4) sc_one_call.nd rfl (by first | exact Or.inl rfl | exact Or.inr rfl) (pe_callD C_next_row (hr.mono (by decide)) (by rfl) (pa_cons (pv 2) pa_nil)))
      (pss_cons (ps_set (i := 6) sc_one_call.nd rfl (by first | exact Or.inl rfl | exact Or.inr rfl) (pe_callD C_next_row (hr.mono (by decide)) (by rfl) (pa_cons (pv 2) pa_nil)))
      (pss_one (ps_ret (pe_callD C_meet (hr.mono (by decide)) (by rfl) (pa_cons (pv 0) (pa_cons (pv 4) (pa_cons (pv 6) (pa_cons (pe_callD C_next_row (hr.mono (by decide)) (by rfl) (pa_cons (pv 2) pa_nil)) pa_nil))))))))) pss_nil)
      (pss_cons (ps_if (pt_cmpR op_eq (pv 1) pe_int (nomark _)) (pss_one (ps_ret (pe_callD C_names (hr.mono (by decide)) (by rfl) (pa_cons (pv 0) pa_nil)))) pss_nil)
      (pss_one (ps_ret (pe_callD C_call_of_set (hr.mono (by decide)) (by rfl) (pa_cons (pv 0) (pa_cons (pv 1) (pa_cons (pv 2) pa_nil)))))))))), ?_⟩
    have hne := shelf_calls hsh hca
    have wca : ∀ p ∈ [ca], p ∈ [dh, ca] := fun p hp => List.mem_cons_of_mem _ hp
    have wdh : ∀ p ∈ [dh], p ∈ [dh, ca] := fun p hp => by simp at hp; simp [hp]
    have row : ∀ {D1 : Hp} {v : V} {t : Tx} {i : Nat}, RowAt l i (Vaflxb.numbers t) → AL D1 v ((l.drop (i + 1)).take t.length) → BL D1 v t := fun h a => AL.bl (by rw [← (rowT h).2]; exact a)
    cases c with
    | at_ p x t =>
      obtain ⟨h0, h1, h2, rfl, hxl, htl⟩ := hcl
      refine ⟨_, rfl, rfl, _, rfl, iteT ⟨_, rfl, D, ca, l, i, 1, rfl, hs, hca, fun D1 H1 v1 g1 c1 a1 => ?_⟩⟩
      obtain ⟨b1, rfl, e1⟩ := a1
      have hp0 : ((l.drop i).take 1)[0]? = some p := by rw [List.getElem?_take, if_pos (by decide), List.getElem?_drop]; exact h0
      refine ⟨b1, _, 0, .int p, rfl, rfl, SqL.of (g1.s _ _ e1), (show atI _ ((0 : Nat) : Int) = _ from all_ints_at hp0), ?_⟩
      refine ⟨_, rfl, D1, ca, l, i + 1, x.length, rfl, g1.s, c1, (rowT h1).1, fun D2 H2 v2 g2 c2 a2 => ?_⟩
      have b2 := row h1 a2
      refine ⟨_, rfl, _, rfl, _, rfl, _, rfl, D2, ca, l, i + 1 + 1 + x.length, t.length, rfl, g2.s, c2, (rowT h2).1, fun D3 H3 v3 g3 c3 a3 => ?_⟩
      have b3 := row h2 a3
      have G := (g1.trans g2).trans g3
      refine ⟨D3, sh, dh, st, p, v2, v3, x, t, rfl, g3.s, hsh.grow (by simp [hne]) G, b2.mono g3.d, b3, hxl, htl, fun D4 H4 r g4 s4 a4 => ?_⟩
      exact k _ _ _ ((G.wide wca).trans (g4.wide wdh)) s4 (c3.grow (by simp [Ne.symm hne]) g4) a4
    | parts x u r =>
      obtain ⟨h1, h2, hxl, hul, rw_, n, htx, h3, rfl, hrl, hr1, hr2⟩ := hcl
      refine ⟨_, rfl, rfl, _, rfl, iteF ⟨_, rfl, rfl, _, rfl, iteT ⟨_, rfl, D, ca, l, i, x.length, rfl, hs, hca, (rowT h1).1, fun D1 H1 v1 g1 c1 a1 => ?_⟩⟩⟩
      have b1 := row h1 a1
      refine ⟨_, rfl, D1, ca, l, i + 1 + x.length, u.length, rfl, g1.s, c1, (rowT h2).1, fun D2 H2 v2 g2 c2 a2 => ?_⟩
      have b2 := row h2 a2
      refine ⟨_, rfl, _, rfl, _, rfl, _, rfl, D2, ca, l, i + 1 + x.length + 1 + u.length, rw_.length, rfl, g2.s, c2, h3.1, fun D3 H3 v3 g3 c3 a3 => ?_⟩
      rw [h3.2] at a3
      refine ⟨D3, rw_, r, n, v3, rfl, g3.s, a3, htx, hrl, fun D4 H4 v4 g4 b4 => ?_⟩
      have G := ((g1.trans g2).trans g3).trans g4.anyM
      refine ⟨D4, sh, dh, st, v1, v2, v4, x, u, r, rfl, g4.s, hsh.grow (by simp [hne]) G, b1.mono ((g2.d.trans g3.d).trans g4.d), b2.mono (g3.d.trans g4.d), b4, hxl, hul, hr1, hr2, fun D5 H5 rr g5 s5 a5 => ?_⟩
      exact k _ _ _ ((G.wide wca).trans (g5.wide wdh)) s5 ((c3.grow (by simp) g4).grow (by simp [Ne.symm hne]) g5) a5
    | meet x a b =>
      obtain ⟨h1, h2, h3, rfl, hxl⟩ := hcl
      refine ⟨_, rfl, rfl, _, rfl, iteF ⟨_, rfl, rfl, _, rfl, iteF ⟨_, rfl, rfl, _, rfl, iteT ⟨_, rfl, D, ca, l, i, x.length, rfl, hs, hca, (rowT h1).1, fun D1 H1 v1 g1 c1 a1 => ?_⟩⟩⟩⟩
      have b1 := row h1 a1
      refine ⟨_, rfl, D1, ca, l, i + 1 + x.length, a.length, rfl, g1.s, c1, (rowT h2).1, fun D2 H2 v2 g2 c2 a2 => ?_⟩
      have b2 := row h2 a2
      refine ⟨_, rfl, _, rfl, _, rfl, _, rfl, D2, ca, l, i + 1 + x.length + 1 + a.length, b.length, rfl, g2.s, c2, (rowT h3).1, fun D3 H3 v3 g3 c3 a3 => ?_⟩
      have b3 := row h3 a3
      have G := (g1.trans g2).trans g3
      refine ⟨D3, sh, dh, st, v1, v2, v3, x, a, b, rfl, g3.s, hsh.grow (by simp [hne]) G, b1.mono (g2.d.trans g3.d), b2.mono g3.d, b3, hxl, fun D4 H4 r g4 s4 a4 => ?_⟩
      exact k _ _ _ ((G.wide wca).trans (g4.wide wdh)) s4 (c3.grow (by simp [Ne.symm hne]) g4) a4
    | names =>
      have hcl : j = i := hcl
      subst hcl
      refine ⟨_, rfl, rfl, _, rfl, iteF ⟨_, rfl, rfl, _, rfl, iteF ⟨_, rfl, rfl, _, rfl, iteF ⟨_, rfl, rfl, _, rfl, iteT ⟨_, rfl, D, sh, dh, st, rfl, hs, hsh, fun D1 H1 r g1 a1 => ?_⟩⟩⟩⟩⟩
      exact k _ _ _ g1.anyM (hsh.grow (by simp) g1) (hca.grow (by simp) g1) a1
    | _ =>
      exact ⟨_, rfl, rfl, _, rfl, iteF ⟨_, rfl, rfl, _, rfl, iteF ⟨_, rfl, rfl, _, rfl, iteF ⟨_, rfl, rfl, _, rfl, iteF ⟨_, rfl, _, rfl, _, rfl, D, sh, dh, st, ca, l, i, _, j, rfl, hs, hsh, hca, trivial, hcl, k⟩⟩⟩⟩⟩
end
end Ps
set_option Elab.async false
set_option linter.all false
set_option maxRecDepth 100000
set_option maxHeartbeats 2000000
namespace Ps
open PySem PySem.Spec PyProof.Rows L2 Gd
def spShelf (w : World) (C : Addr) : Sp := fun vs H Q _ => ∃ x dx, vs = [.ref x] ∧ H x = some (.ins C dx []) ∧ ∀ d, H d = none → Q .non (upd (upd H d (GD w d [] 0)) x (.ins C dx [("held", .ref d)]))
def spCalls (C : Addr) : Sp := fun vs H Q _ => ∃ x dx an, vs = [.ref x, .ref an] ∧ H x = some (.ins C dx []) ∧ Q .non (upd H x (.ins C dx (callFs an 0)))
/-- the calls of a list, played from a place -/
inductive Plays (l : List Int) : Nat → Nat → Vaflxb.State → List Int → Prop
  | done {n : Nat} {st : Vaflxb.State} : Plays l n l.length st []
  | turn {n i j : Nat} {st : Vaflxb.State} {c : Cl} {out : List Int} : l[i]? = some (wordOf c) → CallAt l (i + 1) c j → i < j → j ≤ l.length → (stepC st c).2.length ≤ 81922 → Plays l n j (stepC st c).1 out → Plays l (n + 1) i st (((stepC st c).2.length : Int) :: ((stepC st c).2 ++ out))
theorem Plays.le {l : List Int} {n i : Nat} {st : Vaflxb.State} {out : List Int} (p : Plays l n i st out) : i ≤ l.length := by
  cases p with
  | done => exact Nat.le_refl _
  | turn _ _ h1 h2 _ _ => omega
def atOf (ca : Addr) (H : Hp) : Nat := match H ca with
  | some (.ins _ _ [(_, _), (_, .int z)]) => z.toNat
  | _ => 0
theorem atOf_calls {CC : Addr} {D H : Hp} {ca : Addr} {l : List Int} {i : Nat} (c : CallsD CC D H ca l i) : atOf ca H = i := by
  obtain ⟨_, dx, an, h, _⟩ := c
  unfold atOf
  rw [h]; rfl
section
variable {P : Program} {w : World} {K : PySem.W.Frag} {mg : Str → Option Value} {base : Heap} {CP CB CPs CPc CS CC : Addr} {f : Addr} {fd : FuncData}
abbrev s_Shelf : Stmt := inClass (topS 78) 0
theorem sc_Shelf : FnScope ["self"] ["self"] (defScope s_Shelf) := ⟨rfl, rfl, rfl, by decide +kernel, rfl, by decide +kernel, by decide +kernel⟩
theorem ok_Shelf (F : Fun K "__init__" "Shelf.__init__" s_Shelf f fd) (T : Txt K mg CP CB CPs CPc CS CC) : FnOk P w K mg base CX0 1 f fd ["self"] (spShelf w CS) := by
  refine F.ok sc_Shelf (fun vs H Q E h => ?_) (fun cdv A outer s H vs Q E hr h => ?_)
  · obtain ⟨_, _, rfl, _⟩ := h; rfl
  · obtain ⟨x, dx, rfl, hx, k⟩ := h
    refine ⟨_, (pss_one (ps_fld (pv 0) pe_newG rfl)), ?_⟩
    intro d hd
    exact ⟨_, rfl, x, CS, dx, [], rfl, by rw [upd_ne (ne_of_none hx hd)]; exact hx, T.clS, T.nS, (show 0 < 1000 by decide), k d hd⟩
abbrev s_Calls : Stmt := inClass (topS 79) 0
theorem sc_Calls : FnScope ["self", "numbers"] ["self", "numbers"] (defScope s_Calls) := ⟨rfl, rfl, rfl, by decide +kernel, rfl, by decide +kernel, by decide +kernel⟩
theorem ok_Calls (F : Fun K "__init__" "Calls.__init__" s_Calls f fd) (T : Txt K mg CP CB CPs CPc CS CC) : FnOk P w K mg base CX0 1 f fd ["self", "numbers"] (spCalls CC) := by
  refine F.ok sc_Calls (fun vs H Q E h => ?_) (fun cdv A outer s H vs Q E hr h => ?_)
  · obtain ⟨_, _, _, rfl, _⟩ := h; rfl
  · obtain ⟨x, dx, an, rfl, hx, k⟩ := h
    refine ⟨_, (pss_cons (ps_fld (pv 0) (pv 1) rfl)
      (pss_one (ps_fld (pv 0) pe_int rfl))), ?_⟩
    refine ⟨_, rfl, _, rfl, x, _, dx, _, rfl, hx, T.clC, T.nC _ (by simp), (show 0 < 1000 by decide), ?_⟩
    refine ⟨_, rfl, x, _, dx, _, rfl, upd_same, T.clC, T.nC _ (by simp), (show 1 < 1000 by decide), ?_⟩
    simp only [upd_upd]
    exact k
def sp_answers (w : World) (K : PySem.W.Frag) (CP CB CPs CPc CS CC : Addr) : Sp := fun vs H Q _ => ∃ a l out, vs = [.ref a] ∧ SqL K H a (l.map V.int) ∧ Plays l 200 0 Vaflxb.start out ∧ ∀ H' p, H' p = some (.lst (out.map V.int)) → Q (.ref p) H'
abbrev s_answers : Stmt := topS 105
theorem sc_answers : FnScope ["calls", "told", "shelf", "found", "word", "row"] ["calls"] (defScope s_answers) := ⟨rfl, rfl, rfl, by decide +kernel, rfl, by decide +kernel, by decide +kernel⟩
theorem ok_answers (F : Fun K "answers" "answers" s_answers f fd) (T : Txt K mg CP CB CPs CPc CS CC) (N_Calls : NewD P w K mg base 1 "Calls" CC ["self", "numbers"] (spCalls CC)) (N_Shelf : NewD P w K mg base 1 "Shelf" CS ["self"] (spShelf w CS)) (C_next_numbers : Def P w K mg base 1 "next_numbers" ["calls", "many"] (sp_next_numbers w K CP CB CPs CPc CS CC)) (C_one_call : Def P w K mg base 13 "one_call" ["shelf", "word", "calls"] (sp_one_call w K CP CB CPs CPc CS CC)) : FnOk P w K mg base CX0 14 f fd ["calls"] (sp_answers w K CP CB CPs CPc CS CC) := by
  refine F.ok sc_answers (fun vs H Q E h => ?_) (fun cdv A outer s H vs Q E hr h => ?_)
  · obtain ⟨_, _, _, rfl, _⟩ := h; rfl
  · obtain ⟨a, l, out, rfl, ha, hpl, k⟩ := h
    refine ⟨_, (pss_cons (ps_set (i := 1) sc_answers.nd rfl (by first | exact Or.inl rfl | exact Or.inr rfl) (pe_newD N_Calls (hr.mono (by decide)) (by rfl) (pa_cons (pe_callTy call_list_of (by rfl) T.m_list b_list (pa_cons (pv 0) pa_nil)) pa_nil)))
      (pss_cons (ps_set (i := 2) sc_answers.nd rfl (by first | exact Or.inl rfl | exact Or.inr rfl) (pe_new0D N_Shelf (hr.mono (by decide)) (by rfl)))
      (pss_cons (ps_set (i := 3) sc_answers.nd rfl (by first | exact Or.inl rfl | exact Or.inr rfl) (pe_lst pa_nil))
      (pss_cons (ps_while PassesOwn.never (pt_cmpR op_lt (pe_fld (pv 1) rfl) (pe_callB call_len (by rfl) T.m_len b_len (pa_cons (pe_fld (pv 1) rfl) pa_nil)) (nomark _)) (pss_cons (ps_set (i := 4) sc_answers.nd rfl (by first | exact Or.inl rfl | exact Or.inr rfl) (pe_ix ix_list (pe_callD C_next_numbers (hr.mono (by decide)) (by rfl) (pa_cons (pv 1) (pa_cons pe_int pa_nil))) pe_int (fun _ _ => rfl)))
      (pss_cons (ps_set (i := 5) sc_answers.nd rfl (by first | exact Or.inl rfl | exact Or.inr rfl) (pe_callD C_one_call (hr.mono (by decide)) (by rfl) (pa_cons (pv 2) (pa_cons (pv 4) (pa_cons (pv 1) pa_nil)))))
      (pss_cons (ps_expr (pe_bm PySem.F.plainAttrs_list PySem.F.slot_list_append PySem.F.type_list_append mt_append (pv 3) (pa_cons (pe_callB call_len (by rfl) T.m_len b_len (pa_cons (pv 5) pa_nil)) pa_nil)))
      (pss_one (ps_expr (pe_bm PySem.F.plainAttrs_list PySem.F.slot_list_extend PySem.F.type_list_extend mt_extend (pv 3) (pa_cons (pv 5) pa_nil))))))))
      (pss_one (ps_ret (pv 3))))))), ?_⟩
    have hs : Sub (fun _ => none) H := fun b o e => nomatch e
    refine ⟨_, rfl, a, _, rfl, .inl ha, fun L hL => ?_⟩
    have g1 := Grow.fresh (M := []) (u := .lst (l.map V.int)) hs hL
    intro ca dx hca hdx ne
    refine ⟨ca, dx, L, rfl, upd_same, rfl, ?_⟩
    rw [upd_upd]
    have g2 : Grow [] _ _ (upd (fun _ => none) L (.lst (l.map V.int))) (upd (upd H L (.lst (l.map V.int))) dx (.own ca)) := (Grow.refl g1.s).tmp hdx
    have hca2 : (upd (upd H L (.lst (l.map V.int))) dx (.own ca)) ca = none := by rw [upd_ne (Ne.symm ne)]; exact hca
    have g3 : Grow [] _ _ (upd (fun _ => none) L (.lst (l.map V.int))) (upd (upd (upd H L (.lst (l.map V.int))) dx (.own ca)) ca (.ins CC dx (callFs L 0))) := (Grow.refl g2.s).tmp hca2
    have c3 : CallsD CC (upd (fun _ => none) L (.lst (l.map V.int))) (upd (upd (upd H L (.lst (l.map V.int))) dx (.own ca)) ca (.ins CC dx (callFs L 0))) ca l 0 := ⟨g2.s.none hca2, dx, L, upd_same, upd_same⟩
    generalize hD3 : upd (fun _ => none) L (HO.lst (l.map V.int)) = D3 at *
    generalize hH3 : upd (upd (upd H L (.lst (l.map V.int))) dx (.own ca)) ca (.ins CC dx (callFs L 0)) = H3 at *
    intro sh dx2 hsh hdx2 ne2
    refine ⟨sh, dx2, rfl, upd_same, fun dh hdh => ⟨rfl, ?_⟩⟩
    have hne1 : sh ≠ dh := ne_of_none upd_same hdh
    have e4 : upd (upd (upd (upd H3 dx2 (.own sh)) sh (.ins CS dx2 [])) dh (GD w dh [] 0)) sh (.ins CS dx2 [("held", .ref dh)]) = upd (upd (upd H3 dx2 (.own sh)) dh (GD w dh [] 0)) sh (.ins CS dx2 [("held", .ref dh)]) := by
      funext b
      unfold upd
      split
      · rfl
      · split <;> rfl
    have g4 : Grow [] D3 H3 D3 (upd H3 dx2 (.own sh)) := (Grow.refl g3.s).tmp hdx2
    have hdh4 : (upd H3 dx2 (.own sh)) dh = none := by rw [upd_ne (Ne.symm hne1)] at hdh; exact hdh
    have g5 : Grow [] D3 H3 D3 (upd (upd H3 dx2 (.own sh)) dh (GD w dh [] 0)) := g4.tmp hdh4
    have hsh5 : (upd (upd H3 dx2 (.own sh)) dh (GD w dh [] 0)) sh = none := by rw [upd_ne hne1, upd_ne (Ne.symm ne2)]; exact hsh
    have g6 : Grow [] D3 H3 (upd D3 sh (.ins CS dx2 [("held", .ref dh)])) (upd (upd (upd H3 dx2 (.own sh)) dh (GD w dh [] 0)) sh (.ins CS dx2 [("held", .ref dh)])) := g5.new hsh5
    have s6 : ShelfD K w CP CB CPs CS (upd D3 sh (.ins CS dx2 [("held", .ref dh)])) (upd (upd (upd H3 dx2 (.own sh)) dh (GD w dh [] 0)) sh (.ins CS dx2 [("held", .ref dh)])) sh dh Vaflxb.start :=
      ⟨⟨dx2, upd_same⟩, by rw [upd_ne (Ne.symm hne1)]; exact g4.s.none hdh4, ⟨[], 0, by rw [upd_ne (Ne.symm hne1)]; exact upd_same, trivial⟩, ⟨List.nodup_nil, Nat.zero_le _, fun _ h => nomatch h⟩⟩
    have c6 := c3.grow (by simp) g6
    rw [e4]
    have m6 : sh ≠ ca := fun e => by
      obtain ⟨_, dxc, anc, hh, _⟩ := c6
      rw [← e, upd_same] at hh; cases hh
    generalize hD6 : upd D3 sh (HO.ins CS dx2 [("held", .ref dh)]) = D6 at *
    have gs6 := g6.s
    clear hD3 hH3 e4
    generalize hH6 : upd (upd (upd H3 dx2 (.own sh)) dh (GD w dh [] 0)) sh (.ins CS dx2 [("held", .ref dh)]) = H6 at *
    refine ⟨sz0, fun p hp => ?_⟩
    have g7 : Grow [] D6 H6 D6 (upd H6 p (.lst [])) := (Grow.refl gs6).tmp hp
    have s7 := s6.grow (by simp) g7
    have c7 := c6.grow (by simp) g7
    have hpD : D6 p = none := gs6.none hp
    refine while_by (fun σ H' => ∃ D' st i n acc x4 x5 out', σ = [some (.ref a), some (.ref ca), some (.ref sh), some (.ref p), x4, x5] ∧ Sub D' H' ∧ ShelfD K w CP CB CPs CS D' H' sh dh st ∧ CallsD CC D' H' ca l i ∧ H' p = some (.lst (acc.map V.int)) ∧ D' p = none ∧ Plays l n i st out' ∧ acc ++ out' = out ∧ acc.length + n * 81923 ≤ 200 * 81923)
      (fun _ H' => l.length - atOf ca H') ⟨D6, Vaflxb.start, 0, 200, [], _, _, out, rfl, g7.s, s7, c7, upd_same, hpD, hpl, rfl, by simp⟩ ?_ ?_
    · rintro σ H' ⟨D', st, i, n, acc, x4, x5, out', rfl, hs', sd, cd, hp', hpd, pl, hout, hlen⟩
      have hat := atOf_calls cd
      obtain ⟨hcn, dxc, anc, hcc, hanc⟩ := id cd
      refine ⟨_, rfl, ca, CC, dxc, _, nv i, rfl, hcc, T.clC, T.nC _ (by simp), rfl, _, rfl, ca, CC, dxc, _, .ref anc, rfl, hcc, T.clC, T.nC _ (by simp), rfl, _, l.length, rfl, .inl ⟨_, SqL.of (hs' _ _ hanc), by simp⟩, _, _, rfl, rfl, _, rfl, ?_⟩
      cases pl with
      | done =>
        rw [decide_eq_false (by omega)]
        refine iteF ⟨_, rfl, k _ p ?_⟩
        rw [List.append_nil] at hout
        rw [← hout]; exact hp'
      | @turn n i j st c out2 hw hcall hij hjl hal hpl2 =>
        rw [decide_eq_true (by omega)]
        refine iteT ⟨_, rfl, D', ca, l, i, 1, rfl, hs', cd, fun D1 H1 v1 g1 c1 a1 => ?_⟩
        obtain ⟨b1, rfl, e1⟩ := a1
        have hp0 : ((l.drop i).take 1)[0]? = some (wordOf c) := by rw [List.getElem?_take, if_pos (by decide), List.getElem?_drop]; exact hw
        refine ⟨b1, _, 0, .int (wordOf c), rfl, rfl, SqL.of (g1.s _ _ e1), (show atI _ ((0 : Nat) : Int) = _ from all_ints_at hp0), ?_⟩
        have hne := shelf_calls sd cd
        have sd1 := sd.grow (by simp [hne]) g1
        refine ⟨_, rfl, _, rfl, _, rfl, D1, sh, dh, st, ca, l, i + 1, c, j, rfl, g1.s, sd1, c1, hcall, fun D2 H2 r g2 sd2 cd2 a2 => ?_⟩
        have hpca : p ≠ ca := fun e => by rw [e, hcc] at hp'; cases hp'
        have hpdh : p ≠ dh := fun e => by
          obtain ⟨_, _, ⟨xs, ep, hd, _⟩, _⟩ := sd
          rw [e, hd] at hp'; cases hp'
        have hp1 := g1.h p _ (by simp [hpca]) hp'
        have hp2 := g2.h p _ (by simp [hpca, hpdh]) hp1
        have hpd2 : D2 p = none := (g2.n p (ne_none hp1)).trans ((g1.n p (ne_none hp')).trans hpd)
        obtain ⟨ar, rfl, har⟩ := a2
        have hl3 : acc.length + (n + 1) * 81923 ≤ 16384600 := hlen
        refine ⟨_, rfl, .inl ⟨rfl, _, SqL.of hp2⟩, _, rfl, _, (stepC st c).2.length, rfl, .inl ⟨_, SqL.of (g2.s _ _ har), by simp⟩, p, _, _, rfl, rfl, hp2, Nat.lt_of_lt_of_le (show (acc.map V.int).length < 16384600 by rw [List.length_map]; omega) (by decide), ?_⟩
        have g3 : Grow [p] D2 H2 D2 (upd H2 p (.lst (acc.map V.int ++ [.int (((stepC st c).2.length : Nat) : Int)]))) := (Grow.refl g2.s).write (.inr (List.mem_singleton.mpr rfl)) hpd2
        have hra : ar ≠ p := fun e => by rw [e, hpd2] at har; cases har
        refine ⟨_, rfl, .inl ⟨rfl, _, SqL.of upd_same⟩, _, rfl, p, ar, _, _, rfl, rfl, upd_same, g3.s _ _ har, ?_, ?_⟩
        · rw [List.length_append, List.length_map, List.length_map]
          refine Nat.le_trans (?_ : _ ≤ 16384600) (by decide)
          show acc.length + 1 + (stepC st c).2.length ≤ _
          omega
        · have g4 : Grow [p] D2 H2 D2 (upd (upd H2 p (.lst (acc.map V.int ++ [.int (((stepC st c).2.length : Nat) : Int)]))) p (.lst (acc.map V.int ++ [.int (((stepC st c).2.length : Nat) : Int)] ++ (stepC st c).2.map V.int))) := g3.write (.inr (List.mem_singleton.mpr rfl)) hpd2
          have cd4 := cd2.grow (by simp [Ne.symm hpca]) g4
          refine ⟨⟨D2, (stepC st c).1, j, n, acc ++ ((((stepC st c).2.length : Nat) : Int) :: (stepC st c).2), _, _, out2, rfl, g4.s, sd2.grow (by simp [Ne.symm hpdh]) g4, cd4, ?_, hpd2, hpl2, ?_, ?_⟩, ?_⟩
          · rw [upd_same]
            simp
          · rw [← hout]; simp
          · rw [List.length_append, List.length_cons]; omega
          · rw [atOf_calls cd4, hat]
            have := hpl2.le
            omega
    · intro σ H Q Q' hq h
      obtain ⟨v1, h1, a1, C1, d1, f1, w1, h2, h3, h4, h5, h6, v2, h7, a2, C2, d2, f2, w2, h8, h9, h10, h11, h12, x, n, h13, h14, i, j, h15, h16, z, h17, h18⟩ := h
      exact ⟨v1, h1, a1, C1, d1, f1, w1, h2, h3, h4, h5, h6, v2, h7, a2, C2, d2, f2, w2, h8, h9, h10, h11, h12, x, n, h13, h14, i, j, h15, h16, z, h17, hq _ _ h18⟩
end
end Ps
set_option Elab.async false
set_option linter.all false
set_option maxRecDepth 100000
set_option maxHeartbeats 2000000
/-! Plain laws: a piece read is the piece written. -/
namespace Ps
open PySem PySem.Spec PyProof.Rows L2 Gd
theorem tw_split {α : Type} (p : α → Bool) : ∀ l : List α, l = l.takeWhile p ++ l.drop (l.takeWhile p).length ∧ ∀ c ∈ l.takeWhile p, p c = true
  | [] => ⟨rfl, fun _ h => nomatch h⟩
  | c :: l => by
    obtain ⟨h1, h2⟩ := tw_split p l
    by_cases hc : p c = true
    · rw [List.takeWhile_cons, if_pos hc]
      refine ⟨by rw [List.length_cons, List.drop_succ_cons, List.cons_append, ← h1], fun d hd => ?_⟩
      rcases List.mem_cons.mp hd with rfl | hd
      · exact hc
      · exact h2 d hd
    · rw [List.takeWhile_cons, if_neg hc]
      exact ⟨rfl, fun _ h => nomatch h⟩
theorem tw_app {α : Type} (p : α → Bool) {rest : List α} (hr : ∀ c r, rest = c :: r → p c = false) : ∀ {d : List α}, (∀ c ∈ d, p c = true) → (d ++ rest).takeWhile p = d
  | [], _ => by
    cases rest with
    | nil => rfl
    | cons c r => rw [List.nil_append, List.takeWhile_cons, if_neg (by rw [hr c r rfl]; decide)]
  | c :: d, h => by
    rw [List.cons_append, List.takeWhile_cons, if_pos (h c List.mem_cons_self), tw_app p hr fun x hx => h x (List.mem_cons_of_mem _ hx)]
theorem digit_of {c : UInt8} (h : Vaflxa.isDigit c = true) : ∃ i : Fin 10, c = UInt8.ofNat (48 + i.val) := by
  have key : ∀ n : Fin 256, Vaflxa.isDigit (UInt8.ofNat n) = true → ∃ i : Fin 10, UInt8.ofNat n.val = UInt8.ofNat (48 + i.val) := by decide +kernel
  have e : UInt8.ofNat c.toNat = c := UInt8.ofNat_toNat
  have := key ⟨c.toNat, c.toNat_lt⟩
  rw [e] at this
  exact this h
theorem dig1 : ∀ i : Fin 10, Vaflxa.decimal ([UInt8.ofNat (48 + i.val)].foldl (fun (m : Nat) c => 10 * m + (c.toNat - 48)) 0) = [UInt8.ofNat (48 + i.val)] := by decide +kernel
theorem dig2 : ∀ i j : Fin 10, UInt8.ofNat (48 + i.val) ≠ 48 → Vaflxa.decimal ([UInt8.ofNat (48 + i.val), UInt8.ofNat (48 + j.val)].foldl (fun (m : Nat) c => 10 * m + (c.toNat - 48)) 0) = [UInt8.ofNat (48 + i.val), UInt8.ofNat (48 + j.val)] := by decide +kernel
theorem number_sound {low high n : Nat} {a b : Vaflxa.At} (h : Vaflxa.numberAt low high a = .ok (n, b)) : a.2 = Vaflxa.decimal n ++ b.2 := by
  unfold Vaflxa.numberAt at h
  simp only [] at h
  obtain ⟨h1, h2⟩ := tw_split Vaflxa.isDigit a.2
  generalize a.2.takeWhile Vaflxa.isDigit = d at *
  split at h
  · cases h
  · rename_i hne
    split at h
    · cases h
    · rename_i hc
      cases h
      show a.2 = _ ++ a.2.drop d.length
      have : Vaflxa.decimal (d.foldl (fun (m : Nat) c => 10 * m + (c.toNat - 48)) 0) = d := by
        match d, hne, hc, h2 with
        | [], hne, _, _ => exact absurd rfl hne
        | [c], _, _, h2 =>
          obtain ⟨i, rfl⟩ := digit_of (h2 c (by simp))
          exact dig1 i
        | [c, e], _, hc, h2 =>
          obtain ⟨i, rfl⟩ := digit_of (h2 c (by simp))
          obtain ⟨j, rfl⟩ := digit_of (h2 e (by simp))
          exact dig2 i j fun z => hc (.inr (.inl ⟨rfl, z⟩))
        | c :: e :: f :: r, _, hc, _ => exact absurd (.inl (by simp)) hc
      rw [this]; exact h1
theorem number_ok {low high n k : Nat} {rest : Tx} (h1 : low ≤ n) (h2 : n ≤ high) (h3 : n ≤ 40) (hr : ∀ c r, rest = c :: r → Vaflxa.isDigit c = false) : ∃ k', Vaflxa.numberAt low high (k, Vaflxa.decimal n ++ rest) = .ok (n, (k', rest)) := by
  have key : ∀ n : Fin 41, (Vaflxa.decimal n.val).all Vaflxa.isDigit = true ∧ (Vaflxa.decimal n.val).isEmpty = false ∧ (Vaflxa.decimal n.val).length ≤ 2 ∧ ¬ ((Vaflxa.decimal n.val).length = 2 ∧ (Vaflxa.decimal n.val).headD 0 = 48) ∧ (Vaflxa.decimal n.val).foldl (fun (m : Nat) c => 10 * m + (c.toNat - 48)) 0 = n.val := by decide +kernel
  obtain ⟨k1, k2, k3, k4, k5⟩ := key ⟨n, by omega⟩
  refine ⟨k + (Vaflxa.decimal n).length, ?_⟩
  unfold Vaflxa.numberAt
  simp only []
  rw [tw_app Vaflxa.isDigit hr (List.all_eq_true.mp k1)]
  have k2 : (Vaflxa.decimal n).isEmpty = false := k2
  have k5 : (Vaflxa.decimal n).foldl (fun (m : Nat) c => 10 * m + (c.toNat - 48)) 0 = n := k5
  have k3 : (Vaflxa.decimal n).length ≤ 2 := k3
  have k4 : ¬ ((Vaflxa.decimal n).length = 2 ∧ (Vaflxa.decimal n).headD 0 = 48) := k4
  rw [k2, k5, if_neg (by decide), if_neg, List.drop_left]
  rintro (z | z | z | z)
  · omega
  · exact k4 z
  · omega
  · omega
theorem expect_sound {c : UInt8} {a b : Vaflxa.At} (h : Vaflxa.expect c a = .ok b) : a.2 = c :: b.2 := by
  unfold Vaflxa.expect at h
  split at h
  · rename_i d r e
    split at h
    · rename_i hd; cases h; rw [e, hd]
    · cases h
  · cases h
theorem expect_ok {c : UInt8} {k : Nat} {r : Tx} : Vaflxa.expect c (k, c :: r) = .ok (k + 1, r) := by
  unfold Vaflxa.expect
  simp
theorem cls_sound {l : Kl} {a b : Vaflxa.At} (h : Vaflxa.clsAt a = .ok (l, b)) : a.2 = Vaflxa.clsText l ++ b.2 := by
  unfold Vaflxa.clsAt at h
  split at h
  · cases h
  · rename_i c r e
    simp only [] at h
    rw [e]
    split at h
    · rename_i hc; cases h; rw [hc]; rfl
    split at h
    · rename_i hc; cases h; rw [hc]; rfl
    split at h
    · rename_i hc; cases h; rw [hc]; rfl
    split at h
    · rename_i hc; cases h; rw [hc]; rfl
    split at h
    · rename_i hc; cases h; rw [hc]; rfl
    split at h
    · rename_i hc; cases h; rw [hc]; rfl
    split at h
    · rename_i hc; cases h; rw [hc]; rfl
    split at h
    · rename_i hc
      split at h
      · split at h
        · cases h; rw [hc]; rfl
        · cases h
      · cases h
    · cases h
theorem cls_ok {l : Kl} (hw : wfC l) {k : Nat} {r : Tx} : ∃ k', Vaflxa.clsAt (k, Vaflxa.clsText l ++ r) = .ok (l, (k', r)) := by
  cases l with
  | sign c =>
    refine ⟨k + 2, ?_⟩
    show Vaflxa.clsAt (k, 39 :: c :: r) = _
    unfold Vaflxa.clsAt
    have hw : Vaflxa.isSign c = true := hw
    simp [hw]
  | _ => exact ⟨k + 1, rfl⟩
theorem counted_sound {l r : Kl} {p : Pos} {a b : Vaflxa.At} (h : Vaflxa.countedAt l r a = .ok (p, b)) : Vaflxa.clsText l ++ (124 :: (Vaflxa.clsText r ++ a.2)) = Vaflxa.posText p ++ b.2 := by
  unfold Vaflxa.countedAt at h
  split at h
  · rename_i s e
    split at h
    · cases h
    · rename_i n b' hn
      cases h
      have := number_sound hn
      have this : s = _ := this
      rw [e, this]; simp [Vaflxa.posText]
  · rename_i s e
    split at h
    · cases h
    · rename_i n b' hn
      cases h
      have := number_sound hn
      have this : s = _ := this
      rw [e, this]; simp [Vaflxa.posText]
  · cases h
theorem pos_sound {p : Pos} {a b : Vaflxa.At} (h : Vaflxa.posAt a = .ok (p, b)) : a.2 = Vaflxa.posText p ++ b.2 := by
  unfold Vaflxa.posAt at h
  split at h
  · rename_i s e
    split at h
    · cases h
    · rename_i n b' hn
      cases h
      have := number_sound hn
      have this : s = _ := this
      rw [e, this]; rfl
  · rename_i s e
    split at h
    · cases h
    · rename_i n b' hn
      cases h
      have := number_sound hn
      have this : s = _ := this
      rw [e, this]; rfl
  · unfold Vaflxa.borderAt at h
    split at h
    · cases h
    · rename_i l b1 h1
      split at h
      · cases h
      · rename_i c1 h2
        split at h
        · cases h
        · rename_i r d1 h3
          split at h
          · cases h
          · have e1 := cls_sound h1
            have e2 := expect_sound h2
            have e3 := cls_sound h3
            have e4 := counted_sound h
            rw [e1, e2, e3, ← e4]
theorem stop58 (r : Tx) : ∀ c s, (58 :: r : Tx) = c :: s → Vaflxa.isDigit c = false := fun c s e => by cases e; decide
theorem stop93 (r : Tx) : ∀ c s, (93 :: r : Tx) = c :: s → Vaflxa.isDigit c = false := fun c s e => by cases e; decide
theorem cls_heads (l : Kl) : ∃ c s, Vaflxa.clsText l = c :: s ∧ c ≠ 43 ∧ c ≠ 45 := cls_head l
theorem pos_ok {p : Pos} (hw : wfP p) {k : Nat} {rest : Tx} (hr : ∀ c r, rest = c :: r → Vaflxa.isDigit c = false) : ∃ k', Vaflxa.posAt (k, Vaflxa.posText p ++ rest) = .ok (p, (k', rest)) := by
  cases p with
  | start m =>
    obtain ⟨k', h⟩ := number_ok (low := 0) (high := 60) (k := k + 1) (rest := rest) (Nat.zero_le m) (Nat.le_trans hw (by decide)) hw hr
    refine ⟨k', ?_⟩
    show Vaflxa.posAt (k, 43 :: (Vaflxa.decimal m ++ rest)) = _
    unfold Vaflxa.posAt
    show (match Vaflxa.numberAt 0 60 (k + 1, Vaflxa.decimal m ++ rest) with | Except.error e => (Except.error e : Vaflxa.Res (Pos × Vaflxa.At)) | Except.ok (n, b) => Except.ok (Vaflxa.Pos.start n, b)) = _
    rw [h]
  | finish m =>
    obtain ⟨k', h⟩ := number_ok (low := 0) (high := 60) (k := k + 1) (rest := rest) (Nat.zero_le m) (Nat.le_trans hw (by decide)) hw hr
    refine ⟨k', ?_⟩
    show Vaflxa.posAt (k, 45 :: (Vaflxa.decimal m ++ rest)) = _
    unfold Vaflxa.posAt
    show (match Vaflxa.numberAt 0 60 (k + 1, Vaflxa.decimal m ++ rest) with | Except.error e => (Except.error e : Vaflxa.Res (Pos × Vaflxa.At)) | Except.ok (n, b) => Except.ok (Vaflxa.Pos.finish n, b)) = _
    rw [h]
  | left l r c =>
    obtain ⟨w1, w2, w3, w4, w5⟩ := hw
    obtain ⟨k1, h1⟩ := cls_ok w1 (k := k) (r := 124 :: (Vaflxa.clsText r ++ (43 :: (Vaflxa.decimal c ++ rest))))
    obtain ⟨k2, h2⟩ := cls_ok w2 (k := k1 + 1) (r := 43 :: (Vaflxa.decimal c ++ rest))
    obtain ⟨k3, h3⟩ := number_ok (low := 1) (high := 40) (k := k2 + 1) (rest := rest) w4 w5 w5 hr
    refine ⟨k3, ?_⟩
    have e : Vaflxa.posText (.left l r c) ++ rest = Vaflxa.clsText l ++ (124 :: (Vaflxa.clsText r ++ (43 :: (Vaflxa.decimal c ++ rest)))) := by simp [Vaflxa.posText]
    rw [e]
    obtain ⟨hc, hs, e1, n1, n2⟩ := cls_heads l
    have hb : Vaflxa.posAt (k, Vaflxa.clsText l ++ (124 :: (Vaflxa.clsText r ++ (43 :: (Vaflxa.decimal c ++ rest))))) = Vaflxa.borderAt (k, Vaflxa.clsText l ++ (124 :: (Vaflxa.clsText r ++ (43 :: (Vaflxa.decimal c ++ rest))))) := by
      unfold Vaflxa.posAt
      rw [e1]
      split
      · rename_i s z; exact absurd (List.cons.inj z).1 n1
      · rename_i s z; exact absurd (List.cons.inj z).1 n2
      · rfl
    rw [hb]
    unfold Vaflxa.borderAt
    rw [h1]
    simp only []
    rw [expect_ok]
    simp only []
    rw [h2]
    simp only []
    rw [w3, if_neg (by decide)]
    show (match Vaflxa.numberAt 1 40 (k2 + 1, Vaflxa.decimal c ++ rest) with | Except.error e => (Except.error e : Vaflxa.Res (Pos × Vaflxa.At)) | Except.ok (n, b) => Except.ok (Vaflxa.Pos.left l r n, b)) = _
    rw [h3]
  | right l r c =>
    obtain ⟨w1, w2, w3, w4, w5⟩ := hw
    obtain ⟨k1, h1⟩ := cls_ok w1 (k := k) (r := 124 :: (Vaflxa.clsText r ++ (45 :: (Vaflxa.decimal c ++ rest))))
    obtain ⟨k2, h2⟩ := cls_ok w2 (k := k1 + 1) (r := 45 :: (Vaflxa.decimal c ++ rest))
    obtain ⟨k3, h3⟩ := number_ok (low := 1) (high := 40) (k := k2 + 1) (rest := rest) w4 w5 w5 hr
    refine ⟨k3, ?_⟩
    have e : Vaflxa.posText (.right l r c) ++ rest = Vaflxa.clsText l ++ (124 :: (Vaflxa.clsText r ++ (45 :: (Vaflxa.decimal c ++ rest)))) := by simp [Vaflxa.posText]
    rw [e]
    obtain ⟨hc, hs, e1, n1, n2⟩ := cls_heads l
    have hb : Vaflxa.posAt (k, Vaflxa.clsText l ++ (124 :: (Vaflxa.clsText r ++ (45 :: (Vaflxa.decimal c ++ rest))))) = Vaflxa.borderAt (k, Vaflxa.clsText l ++ (124 :: (Vaflxa.clsText r ++ (45 :: (Vaflxa.decimal c ++ rest))))) := by
      unfold Vaflxa.posAt
      rw [e1]
      split
      · rename_i s z; exact absurd (List.cons.inj z).1 n1
      · rename_i s z; exact absurd (List.cons.inj z).1 n2
      · rfl
    rw [hb]
    unfold Vaflxa.borderAt
    rw [h1]
    simp only []
    rw [expect_ok]
    simp only []
    rw [h2]
    simp only []
    rw [w3, if_neg (by decide)]
    show (match Vaflxa.numberAt 1 40 (k2 + 1, Vaflxa.decimal c ++ rest) with | Except.error e => (Except.error e : Vaflxa.Res (Pos × Vaflxa.At)) | Except.ok (n, b) => Except.ok (Vaflxa.Pos.right l r n, b)) = _
    rw [h3]
end Ps
set_option Elab.async false
set_option linter.all false
set_option maxRecDepth 100000
set_option maxHeartbeats 2000000
namespace Ps
open PySem PySem.Spec PyProof.Rows L2 Gd
theorem case_sound (h : Vaflxa.At) : h.2 = Vaflxa.caseText (Vaflxa.caseAt h).1 ++ (Vaflxa.caseAt h).2.2 := by
  unfold Vaflxa.caseAt
  split
  · rename_i r e; rw [e]; rfl
  · rename_i r e; rw [e]; rfl
  · rename_i r e; rw [e]; rfl
  · rfl
theorem case_ok' (k : Vaflxa.Case) (n : Nat) : ∃ n', Vaflxa.caseAt (n, Vaflxa.caseText k) = (k, (n', [])) := by
  cases k <;> exact ⟨_, rfl⟩
theorem places_sound {f : Nat} {a b : Vaflxa.At} {x : Pc} (h : Vaflxa.placesAt f a = .ok (x, b)) : ∃ p q k, x = .sub f p q k ∧ a.2 = 91 :: (Vaflxa.posText p ++ (58 :: (Vaflxa.posText q ++ (93 :: Vaflxa.caseText k)))) ++ b.2 := by
  unfold Vaflxa.placesAt at h
  split at h
  · cases h
  rename_i b1 h1
  split at h
  · cases h
  rename_i p c1 h2
  split at h
  · cases h
  rename_i d1 h3
  split at h
  · cases h
  rename_i q g1 h4
  split at h
  · cases h
  rename_i e1 h5
  simp only [] at h
  have e := Except.ok.inj h
  have ex : Vaflxa.Piece.sub f p q (Vaflxa.caseAt e1).1 = x := (Prod.mk.inj e).1
  have eb : (Vaflxa.caseAt e1).2 = b := (Prod.mk.inj e).2
  have cs := case_sound e1
  refine ⟨p, q, (Vaflxa.caseAt e1).1, ex.symm, ?_⟩
  rw [expect_sound h1, pos_sound h2, expect_sound h3, pos_sound h4, expect_sound h5, cs, eb]
  simp
theorem places_ok {f n : Nat} {p q : Pos} (hp : wfP p) (hq : wfP q) (k : Vaflxa.Case) : ∃ n', Vaflxa.placesAt f (n, 91 :: (Vaflxa.posText p ++ (58 :: (Vaflxa.posText q ++ (93 :: Vaflxa.caseText k))))) = .ok (.sub f p q k, (n', [])) := by
  obtain ⟨k1, h1⟩ := pos_ok hp (k := n + 1) (stop58 (Vaflxa.posText q ++ (93 :: Vaflxa.caseText k)))
  obtain ⟨k2, h2⟩ := pos_ok hq (k := k1 + 1) (stop93 (Vaflxa.caseText k))
  obtain ⟨k3, h3⟩ := case_ok' k (k2 + 1)
  refine ⟨k3, ?_⟩
  unfold Vaflxa.placesAt
  rw [expect_ok]
  simp only []
  rw [h1]
  simp only []
  rw [expect_ok]
  simp only []
  rw [h2]
  simp only []
  rw [expect_ok]
  simp only []
  rw [h3]
def qd (c : UInt8) : Tx := if c = 34 then [34, 34] else [c]
theorem constFrom_sound : ∀ (n : Nat) (got : Tx) (a b : Vaflxa.At) (t : Tx), Vaflxa.constFrom n got a = .ok (t, b) → ∃ c, t = got.reverse ++ c ∧ a.2 = c.flatMap qd ++ 34 :: b.2
  | 0, _, _, _, _, h => by unfold Vaflxa.constFrom at h; cases h
  | n + 1, got, a, b, t, h => by
    unfold Vaflxa.constFrom at h
    split at h
    · cases h
    · rename_i r e
      split at h
      · rename_i s
        obtain ⟨c, h1, h2⟩ := constFrom_sound n _ _ _ _ h
        refine ⟨34 :: c, by rw [h1]; simp, ?_⟩
        have h2 : s = _ := h2
        rw [e, h2]; simp [qd]
      · cases h
        exact ⟨[], by simp, by rw [e]; rfl⟩
    · rename_i c r hne e
      split at h
      · obtain ⟨d, h1, h2⟩ := constFrom_sound n _ _ _ _ h
        have h2 : r = _ := h2
        have hc : c ≠ 34 := fun z => hne z
        refine ⟨c :: d, by rw [h1]; simp, ?_⟩
        rw [e, h2]; simp [qd, hc]
      · cases h
theorem constFrom_ok : ∀ (t : Tx) (n : Nat) (got : Tx) (k : Nat), t.length < n → (∀ c ∈ t, isByte c = true) → ∃ k', Vaflxa.constFrom n got (k, t.flatMap qd ++ [34]) = .ok (got.reverse ++ t, (k', []))
  | [], n, got, k, hn, _ => by
    cases n with
    | zero => simp at hn
    | succ n =>
      refine ⟨k + 1, ?_⟩
      show Vaflxa.constFrom (n + 1) got (k, [34]) = _
      unfold Vaflxa.constFrom
      simp
  | c :: t, n, got, k, hn, hb => by
    cases n with
    | zero => simp at hn
    | succ n =>
      have hn' : t.length < n := by rw [List.length_cons] at hn; omega
      by_cases hc : c = 34
      · subst hc
        obtain ⟨k', h⟩ := constFrom_ok t n (34 :: got) (k + 2) hn' fun d hd => hb d (List.mem_cons_of_mem _ hd)
        refine ⟨k', ?_⟩
        have e : (34 :: t : Tx).flatMap qd ++ [34] = 34 :: 34 :: (t.flatMap qd ++ [34]) := by simp [qd]
        rw [e]
        unfold Vaflxa.constFrom
        simp only []
        rw [h]; simp
      · obtain ⟨k', h⟩ := constFrom_ok t n (c :: got) (k + 1) hn' fun d hd => hb d (List.mem_cons_of_mem _ hd)
        refine ⟨k', ?_⟩
        have e : (c :: t : Tx).flatMap qd ++ [34] = c :: (t.flatMap qd ++ [34]) := by simp [qd, hc]
        rw [e]
        unfold Vaflxa.constFrom
        have hbc : Vaflxa.isByte c = true := hb c List.mem_cons_self
        split
        · rename_i z; cases z
        · rename_i r z
          exact absurd (List.cons.inj z).1 hc
        · rename_i d r hne z
          obtain ⟨rfl, rfl⟩ := List.cons.inj z
          rw [if_pos hbc, h]; simp
theorem quoted_qd (t : Tx) : Vaflxa.quoted t = 34 :: (t.flatMap qd ++ [34]) := rfl
theorem flat_len (t : Tx) : t.length ≤ (t.flatMap qd).length := by
  induction t with
  | nil => simp
  | cons c t ih =>
    rw [List.flatMap_cons, List.length_append, List.length_cons]
    have : 1 ≤ (qd c).length := by unfold qd; split <;> simp
    omega
theorem piece_sound {a b : Vaflxa.At} {x : Pc} (h : Vaflxa.pieceAt a = .ok (x, b)) : a.2 = Vaflxa.pieceText x ++ b.2 := by
  unfold Vaflxa.pieceAt at h
  split at h
  · cases h
  rename_i c r e
  split at h
  · rename_i hc
    unfold Vaflxa.constAt at h
    split at h
    · cases h
    rename_i t b1 h1
    split at h
    · cases h
    · obtain ⟨d, e1, e2⟩ := constFrom_sound _ _ _ _ _ h1
      have hx : Vaflxa.Piece.const t = x := (Prod.mk.inj (Except.ok.inj h)).1
      have hb : b1 = b := (Prod.mk.inj (Except.ok.inj h)).2
      subst hx hb
      have e2 : a.2.drop 1 = d.flatMap qd ++ 34 :: b1.2 := e2
      rw [e] at e2
      have e2 : r = d.flatMap qd ++ 34 :: b1.2 := e2
      have e1 : t = d := e1
      subst e1
      rw [e, hc, e2]
      show _ = Vaflxa.quoted t ++ b1.2
      rw [quoted_qd]; simp
  · split at h
    · rename_i hd
      obtain ⟨p, q, k, rfl, e2⟩ := places_sound h
      have e2 : r = _ := e2
      have key : ∀ n : Fin 256, (49 ≤ UInt8.ofNat n ∧ UInt8.ofNat n ≤ 52) → Vaflxa.decimal ((UInt8.ofNat n).toNat - 48) = [UInt8.ofNat n] := by decide +kernel
      have ec : UInt8.ofNat c.toNat = c := UInt8.ofNat_toNat
      have := key ⟨c.toNat, c.toNat_lt⟩
      rw [ec] at this
      rw [e, e2]
      show _ = (Vaflxa.decimal (c.toNat - 48) ++ _) ++ b.2
      rw [this hd]; simp
    · cases h
theorem pieceOf_sound {t : Tx} {x : Pc} (h : Vaflxb.pieceOf t = some x) : Vaflxa.pieceText x = t := by
  unfold Vaflxb.pieceOf at h
  split at h
  · rename_i y k hk
    cases h
    have := piece_sound hk
    have this : t = Vaflxa.pieceText x ++ [] := this
    rw [this]; simp
  · cases h
theorem pieceOf_const {t : Tx} (h1 : 1 ≤ t.length) (h2 : t.length ≤ 12) (hb : ∀ c ∈ t, isByte c = true) : Vaflxb.pieceOf (Vaflxa.pieceText (.const t)) = some (.const t) := by
  obtain ⟨k', h⟩ := constFrom_ok t ((Vaflxa.quoted t).length + 1) [] 1 (by
    rw [quoted_qd]
    have := flat_len t
    simp only [List.length_cons, List.length_append, List.length_nil]; omega) hb
  have hp : Vaflxa.pieceAt (0, Vaflxa.quoted t) = .ok (.const t, (k', [])) := by
    rw [quoted_qd] at h ⊢
    unfold Vaflxa.pieceAt
    simp only []
    rw [if_pos trivial]
    unfold Vaflxa.constAt
    have e : (34 :: (t.flatMap qd ++ [34]) : Tx).drop 1 = t.flatMap qd ++ [34] := rfl
    have h : Vaflxa.constFrom ((34 :: (t.flatMap qd ++ [34]) : Tx).length + 1) [] (1, t.flatMap qd ++ [34]) = .ok (t, (k', [])) := h
    simp only [] at *
    rw [e, Nat.zero_add, h]
    simp only []
    rw [if_neg]
    intro z
    rw [Bool.or_eq_true, decide_eq_true_eq] at z
    rcases z with z | z
    · rw [List.isEmpty_iff] at z; rw [z] at h1; cases h1
    · have : 12 < t.length := z
      omega
  unfold Vaflxb.pieceOf
  show (match Vaflxa.pieceAt (0, Vaflxa.quoted t) with | Except.ok (x, (_, [])) => some x | _ => none) = _
  rw [hp]
theorem pieceOf_sub {f : Nat} {p q : Pos} {k : Vaflxa.Case} (h1 : 1 ≤ f) (h2 : f ≤ 4) (hp : wfP p) (hq : wfP q) : Vaflxb.pieceOf (Vaflxa.pieceText (.sub f p q k)) = some (.sub f p q k) := by
  have key : ∀ n : Fin 5, 1 ≤ n.val → Vaflxa.decimal n.val = [UInt8.ofNat (48 + n.val)] ∧ UInt8.ofNat (48 + n.val) ≠ 34 ∧ (49 ≤ UInt8.ofNat (48 + n.val) ∧ UInt8.ofNat (48 + n.val) ≤ 52) ∧ (UInt8.ofNat (48 + n.val)).toNat - 48 = n.val := by decide +kernel
  obtain ⟨d1, d2, d3, d4⟩ := key ⟨f, by omega⟩ h1
  have d1 : Vaflxa.decimal f = [UInt8.ofNat (48 + f)] := d1
  have d4 : (UInt8.ofNat (48 + f)).toNat - 48 = f := d4
  obtain ⟨n', h⟩ := places_ok (f := f) (n := 1) hp hq k
  have hpa : Vaflxa.pieceAt (0, Vaflxa.pieceText (.sub f p q k)) = .ok (.sub f p q k, (n', [])) := by
    show Vaflxa.pieceAt (0, Vaflxa.decimal f ++ (91 :: (Vaflxa.posText p ++ (58 :: (Vaflxa.posText q ++ (93 :: Vaflxa.caseText k)))))) = _
    rw [d1]
    unfold Vaflxa.pieceAt
    simp only [List.cons_append, List.nil_append]
    rw [if_neg d2, if_pos d3, d4]
    exact h
  unfold Vaflxb.pieceOf
  rw [hpa]
theorem quoted_inj {s t : Tx} (hs1 : 1 ≤ s.length) (hs2 : s.length ≤ 12) (hs : ∀ c ∈ s, isByte c = true) (ht1 : 1 ≤ t.length) (ht2 : t.length ≤ 12) (ht : ∀ c ∈ t, isByte c = true) (h : Vaflxa.quoted s = Vaflxa.quoted t) : s = t := by
  have e1 := pieceOf_const hs1 hs2 hs
  have e2 := pieceOf_const ht1 ht2 ht
  have h : Vaflxa.pieceText (.const s) = Vaflxa.pieceText (.const t) := h
  rw [h, e2] at e1
  cases e1; rfl
/-- whether a set has what is written so -/
theorem has_law {s : Pcs} (hw : wfS s) (t : Tx) : (Vaflxb.pieceOf t).any (Vaflxb.pieceIn s) = hasS s t := by
  rw [Bool.eq_iff_iff]
  constructor
  · intro h
    cases e : Vaflxb.pieceOf t with
    | none => rw [e] at h; cases h
    | some x =>
      rw [e] at h
      have h : Vaflxb.pieceIn s x = true := h
      have ht := pieceOf_sound e
      unfold hasS
      cases x with
      | const c =>
        have h : (s.const == some c) = true := h
        have h : s.const = some c := by simpa using h
        rw [h]
        have : decide (Vaflxa.quoted c = t) = true := decide_eq_true ht
        show (decide (Vaflxa.quoted c = t) || _) = true
        rw [this]; rfl
      | sub f p q k =>
        have h : (s.boxes.any fun b => Vaflxb.boxHas b (.sub f p q k)) = true := h
        rw [List.any_eq_true] at h
        obtain ⟨b, hb, h⟩ := h
        have h : (f == b.field && (Vaflxb.sameCase k b.case_ && (b.left.any (Vaflxb.samePos p) && b.right.any (Vaflxb.samePos q)))) = true := h
        rw [Bool.and_eq_true, Bool.and_eq_true, Bool.and_eq_true, List.any_eq_true, List.any_eq_true] at h
        obtain ⟨h1, h2, ⟨p', hp, h3⟩, ⟨q', hq, h4⟩⟩ := h
        have h1 : f = b.field := by simpa using h1
        have h2 : k = b.case_ := by
          have := (sameCase_iff _ _).mp h2
          cases k <;> cases hbk : b.case_ <;> rw [hbk] at this <;> first | rfl | (simp [Vaflxb.caseNumber] at this)
        have h3 := (samePos_iff _ _).mp h3
        have h4 := (samePos_iff _ _).mp h4
        subst h1 h2 h3 h4
        rw [Bool.or_eq_true]
        right
        rw [List.any_eq_true]
        refine ⟨b, hb, ?_⟩
        unfold hasT
        rw [List.any_eq_true]
        refine ⟨p, hp, ?_⟩
        rw [List.any_eq_true]
        exact ⟨q, hq, decide_eq_true ht⟩
  · intro h
    unfold hasS at h
    rw [Bool.or_eq_true] at h
    rcases h with h | h
    · cases hc : s.const with
      | none => rw [hc] at h; cases h
      | some c =>
        rw [hc] at h
        have h : Vaflxa.quoted c = t := of_decide_eq_true h
        obtain ⟨c1, c2, c3⟩ := hw.c c hc
        have e := pieceOf_const c1 c2 c3
        have h' : Vaflxa.pieceText (.const c) = t := h
        rw [h'] at e
        rw [e]
        show (s.const == some c) = true
        rw [hc]; simp
    · rw [List.any_eq_true] at h
      obtain ⟨b, hb, h⟩ := h
      unfold hasT at h
      rw [List.any_eq_true] at h
      obtain ⟨p, hp, h⟩ := h
      rw [List.any_eq_true] at h
      obtain ⟨q, hq, h⟩ := h
      have h := of_decide_eq_true h
      have hwb := hw.b b hb
      have e := pieceOf_sub (k := b.case_) hwb.f1 hwb.f2 (hwb.l.wf p hp) (hwb.r.wf q hq)
      rw [h] at e
      rw [e]
      show (s.boxes.any fun b' => Vaflxb.boxHas b' (.sub b.field p q b.case_)) = true
      rw [List.any_eq_true]
      refine ⟨b, hb, ?_⟩
      show (b.field == b.field && (Vaflxb.sameCase b.case_ b.case_ && (b.left.any (Vaflxb.samePos p) && b.right.any (Vaflxb.samePos q)))) = true
      rw [Bool.and_eq_true, Bool.and_eq_true, Bool.and_eq_true, List.any_eq_true, List.any_eq_true]
      exact ⟨by simp, (sameCase_iff _ _).mpr rfl, ⟨p, hp, (samePos_iff _ _).mpr rfl⟩, ⟨q, hq, (samePos_iff _ _).mpr rfl⟩⟩
end Ps
set_option Elab.async false
set_option linter.all false
set_option maxRecDepth 100000
set_option maxHeartbeats 2000000
/-! Plain laws: a step; the calls laid out. -/
namespace Ps
open PySem PySem.Spec PyProof.Rows L2 Gd
theorem any_pos (l : List Pos) (t : Tx) : Vaflxb.hasPos l t = l.any fun p => decide (Vaflxa.posText p = t) := by
  unfold Vaflxb.hasPos
  congr 1
  funext p
  rw [Bool.eq_iff_iff, beq_iff_eq, decide_eq_true_eq]
theorem stOk_find {st : Vaflxb.State} (hok : stOk st) {x : Tx} {h : Hd} (e : Vaflxb.find st x = some h) : wfH h := by
  unfold Vaflxb.find at e
  rw [Option.map_eq_some_iff] at e
  obtain ⟨p, hp, rfl⟩ := e
  exact (hok.wf p (List.mem_of_find?_eq_some hp)).2
theorem stepS_some {st : Vaflxb.State} {c : Cl} {h : Hd} (hf : Vaflxb.find st (nameOf c) = some h) (hn : ∀ a, c ≠ .drop a) : stepS st c = (st, tellC h c) := by
  unfold stepS
  rw [hf]
  cases c <;> first | rfl | exact absurd rfl (hn _)
theorem stepS_none {st : Vaflxb.State} {c : Cl} (hf : Vaflxb.find st (nameOf c) = none) : stepS st c = (st, [-2]) := by
  unfold stepS
  rw [hf]
theorem stepS_drop {st : Vaflxb.State} {a : Tx} {h : Hd} (hf : Vaflxb.find st a = some h) : stepS st (.drop a) = ({ held := st.held.filter fun p => p.1 != a }, [0]) := by
  unfold stepS
  have hf : Vaflxb.find st (nameOf (.drop a)) = some h := hf
  rw [hf]
theorem stepS_ans {st : Vaflxb.State} (c : Cl) (f : List Pos → Vaflxb.Answer) (g : Pcs → Vaflxb.Answer) (hn : ∀ a, c ≠ .drop a) (e : Vaflxb.answerOf st c = Vaflxb.withSet st (nameOf c) f g) (hs : Vaflxb.step st c = (st, Vaflxb.answerOf st c))
    (h1 : ∀ l, tellC (.positions l) c = f l) (h2 : ∀ s, Vaflxb.find st (nameOf c) = some (.pieces s) → tellC (.pieces s) c = g s) : stepS st c = Vaflxb.step st c := by
  rw [hs, e]
  cases hf : Vaflxb.find st (nameOf c) with
  | none =>
    rw [stepS_none hf]
    unfold Vaflxb.withSet
    rw [hf]
  | some h =>
    rw [stepS_some hf hn]
    unfold Vaflxb.withSet
    rw [hf]
    cases h with
    | positions l => rw [h1]
    | pieces s => rw [h2 s hf]
theorem step_eq {st : Vaflxb.State} (hok : stOk st) (c : Cl) : stepC st c = Vaflxb.step st c := by
  cases c with
  | at_ p x t => rfl
  | parts x u r => rfl
  | meet x a b => rfl
  | names => rfl
  | drop a =>
    show stepS st (.drop a) = _
    show _ = (match Vaflxb.find st a with | none => (st, [-2]) | some _ => ({ held := st.held.filter fun p => p.1 != a }, [0]))
    cases hf : Vaflxb.find st a with
    | none => exact stepS_none hf
    | some h => exact stepS_drop hf
  | size a => exact stepS_ans (.size a) (fun l => [0, Vaflxb.nat l.length]) (fun s => [0, Vaflxb.nat (Vaflxb.countOf s)]) (fun _ z => nomatch z) rfl rfl (fun _ => rfl) (fun _ _ => rfl)
  | least a =>
    refine stepS_ans (.least a) (fun l => Vaflxb.atIndex 0 (l.map Vaflxa.posText)) (fun s => match Vaflxb.leastPiece s with | none => [-6] | some x => Vaflxb.textAnswer (Vaflxa.pieceText x)) (fun _ z => nomatch z) rfl rfl (fun l => ?_) (fun s _ => ?_)
    · show ansLeast _ = _
      unfold ansLeast leastTx Vaflxb.atIndex
      rw [if_neg (by decide)]
      show (match (l.map Vaflxa.posText)[0]? with | none => _ | some t => _) = match (l.map Vaflxa.posText)[0]? with | none => _ | some t => _
      cases (l.map Vaflxa.posText)[0]? <;> rfl
    · show ansLeast _ = _
      unfold ansLeast
      show (match (Vaflxb.leastPiece s).map Vaflxa.pieceText with | none => _ | some t => _) = _
      cases Vaflxb.leastPiece s <;> rfl
  | item n a => exact stepS_ans (.item n a) (fun l => Vaflxb.atIndex n (l.map Vaflxa.posText)) (Vaflxb.itemAnswer n) (fun _ z => nomatch z) rfl rfl (fun _ => rfl) (fun _ _ => rfl)
  | has a t =>
    refine stepS_ans (.has a t) (fun l => [0, if Vaflxb.hasPos l t = true then 1 else 0]) (fun s => [0, if (Vaflxb.pieceOf t).any (Vaflxb.pieceIn s) = true then 1 else 0]) (fun _ z => nomatch z) rfl rfl (fun l => ?_) (fun s hf => ?_)
    · show [0, if hasH t (.positions l) = true then 1 else 0] = _
      rw [any_pos]; rfl
    · have hw : wfS s := stOk_find hok hf
      show [0, if hasS s t = true then 1 else 0] = _
      rw [has_law hw]
  | list a => exact stepS_ans (.list a) (fun l => Vaflxb.textAnswer (Vaflxb.listText l)) (fun _ => [-4]) (fun _ z => nomatch z) rfl rfl (fun _ => rfl) (fun _ _ => rfl)
  | stands a t => exact stepS_ans (.stands a t) (fun l => Vaflxb.standsAnswer l t) (fun _ => [-4]) (fun _ z => nomatch z) rfl rfl (fun _ => rfl) (fun _ _ => rfl)
  | boxes a => exact stepS_ans (.boxes a) (fun _ => [-4]) (fun s => 0 :: (if s.const.isSome = true then 1 else 0) :: s.boxes.flatMap fun b => [Vaflxb.nat b.field, Vaflxb.nat (Vaflxb.caseNumber b.case_), Vaflxb.nat b.left.length, Vaflxb.nat b.right.length]) (fun _ z => nomatch z) rfl rfl (fun _ => rfl) (fun _ _ => rfl)
  | side i w2 a => exact stepS_ans (.side i w2 a) (fun _ => [-4]) (Vaflxb.sideAnswer i w2) (fun _ z => nomatch z) rfl rfl (fun _ => rfl) (fun _ _ => rfl)
  | gives a r => exact stepS_ans (.gives a r) (fun _ => [-4]) (fun s => Vaflxb.givesAnswer s r) (fun _ z => nomatch z) rfl rfl (fun _ => rfl) (fun _ _ => rfl)
theorem stOk_hold {st : Vaflxb.State} (hok : stOk st) {x : Tx} {h : Hd} (hn : Vaflxb.isName x = true) (hw : wfH h) : stOk (Vaflxb.hold st x h).1 := by
  unfold Vaflxb.hold
  split
  · exact hok
  · rename_i hc
    have kp := keys_put (x := x) (h := h) hok.nd
    refine ⟨kp.1, ?_, fun p hp => ?_⟩
    · show (Vaflxb.put x h st.held).length ≤ 20
      cases e : st.held.find? fun p => p.1 == x with
      | none =>
        rw [kp.2.2.1 e]
        have : ¬ 20 ≤ st.held.length := fun z => hc ⟨z, by unfold Vaflxb.find; rw [e]; rfl⟩
        omega
      | some q => rw [kp.2.2.2 (by rw [e]; exact fun z => nomatch z)]; exact hok.len
    · rcases kp.2.1 p hp with rfl | hp
      · exact ⟨hn, hw⟩
      · exact hok.wf p hp
theorem stOk_step {st : Vaflxb.State} (hok : stOk st) (c : Cl) : stOk (stepC st c).1 := by
  have bn : ∀ {x : Tx}, ¬ Vaflxb.isName x = false → Vaflxb.isName x = true := fun h => by
    rename_i x
    cases e : Vaflxb.isName x with
    | true => rfl
    | false => exact absurd e h
  have set_ : ∀ c, stOk (stepS st c).1 := fun c => by
    cases hf : Vaflxb.find st (nameOf c) with
    | none => rw [stepS_none hf]; exact hok
    | some h =>
      cases c with
      | drop a => rw [stepS_drop (a := a) hf]; exact stOk_drop hok a
      | _ => rw [stepS_some hf (fun _ z => nomatch z)]; exact hok
  cases c with
  | at_ p x t =>
    show stOk (Vaflxb.doAt st p x t).1
    unfold Vaflxb.doAt
    split
    · exact hok
    · rename_i h1
      split
      · exact hok
      · rename_i h2
        refine stOk_hold hok (bn h1) ?_
        have hg : Vaflxb.goodField t = true := by
          cases e : Vaflxb.goodField t with
          | true => rfl
          | false => exact absurd (.inl e) h2
        exact wf_at (good_iff.mp hg) (by
          have : ¬ (t.length : Int) < p := fun z => h2 (.inr (.inr z))
          omega)
  | parts x u r =>
    show stOk (Vaflxb.doParts st x u r).1
    unfold Vaflxb.doParts
    split
    · exact hok
    · rename_i h1
      split
      · exact hok
      · rename_i h2
        have hg : Vaflxa.goodRecord r = true := by
          cases e : Vaflxa.goodRecord r with
          | true => rfl
          | false => exact absurd (.inl e) h2
        have hu : Vaflxb.goodField u = true := by
          cases e : Vaflxb.goodField u with
          | true => rfl
          | false => exact absurd (.inr (.inl e)) h2
        exact stOk_hold hok (bn h1) (wfS_for hg hu fun z => h2 (.inr (.inr (by rw [z]; rfl))))
  | meet x a b =>
    show stOk (Vaflxb.doMeet st x a b).1
    unfold Vaflxb.doMeet
    split
    · exact hok
    · rename_i h1
      cases ha : Vaflxb.find st a with
      | none => exact hok
      | some p =>
        cases hb : Vaflxb.find st b with
        | none => cases p <;> exact hok
        | some q =>
          have w1 := stOk_find hok ha
          have w2 := stOk_find hok hb
          cases p with
          | positions l => cases q with
            | positions m => exact stOk_hold hok (bn h1) (wf_meet w1)
            | pieces u => exact hok
          | pieces s => cases q with
            | positions m => exact hok
            | pieces u => exact stOk_hold hok (bn h1) (wfS_meet w1 w2)
  | names => exact hok
  | _ => exact set_ _
/-! ### how long answers are -/
theorem textAns_len (t : Tx) : (Vaflxb.textAnswer t).length = 1 + t.length := by
  unfold Vaflxb.textAnswer
  rw [List.length_cons, numbers_len]; omega
theorem tell_len {h : Hd} (hw : wfH h) (c : Cl) : (tellC h c).length ≤ 81922 := by
  have hl34 : ∀ {l : List Pos}, wfL l → (told (l.map Vaflxa.posText)).length ≤ 34 * 11 := fun {l} hw => by
    obtain ⟨_, t2, t3⟩ := pos_texts hw
    have := told_le2 t2 t3 (List.map Vaflxa.posText l).length
    rwa [List.take_length] at this
  cases c with
  | size a => show 2 ≤ _; decide
  | least a =>
    show (ansLeast h).length ≤ _
    unfold ansLeast
    cases e : leastTx h with
    | none => show 1 ≤ _; decide
    | some t =>
      have := text_len hw e
      show (Vaflxb.textAnswer t).length ≤ _
      rw [textAns_len]; omega
  | item n a =>
    have key : ∀ (ts : List Tx), (∀ t ∈ ts, t.length ≤ 1000) → (Vaflxb.atIndex n ts).length ≤ 81922 := fun ts ht => by
      unfold Vaflxb.atIndex
      split
      · show 1 ≤ _; decide
      · cases e : ts[n.toNat]? with
        | none => show 1 ≤ _; decide
        | some t =>
          have := ht t (List.mem_of_getElem? e)
          show (Vaflxb.textAnswer t).length ≤ _
          rw [textAns_len]; omega
    cases h with
    | positions l => exact key _ fun t ht => Nat.le_trans ((pos_texts hw).2.1 t ht) (by decide)
    | pieces s =>
      show (Vaflxb.itemAnswer n s).length ≤ _
      unfold Vaflxb.itemAnswer
      split
      · show 1 ≤ _; decide
      split
      · show 1 ≤ _; decide
      · refine key _ fun t ht => ?_
        rw [List.mem_map] at ht
        obtain ⟨x, hx, rfl⟩ := ht
        rw [sortBy_eq (le := PySem.W.dataLe false pieceKey) (total_dataLe _) (fun a b => by rw [dataLe_lt, ahead_eq]; simp)] at hx
        exact all_len hw x (by rw [← all_eq]; exact (List.mergeSort_perm _ _).mem_iff.mp hx)
  | has a t => show 2 ≤ _; decide
  | list a =>
    cases h with
    | positions l =>
      show (Vaflxb.textAnswer (told (l.map Vaflxa.posText))).length ≤ _
      rw [textAns_len]
      have := hl34 hw
      omega
    | pieces s => show 1 ≤ _; decide
  | stands a t =>
    cases h with
    | positions l =>
      show (Vaflxb.standsAnswer l t).length ≤ _
      unfold Vaflxb.standsAnswer
      split
      · show 1 ≤ _; decide
      · rw [List.length_cons, List.length_cons]
        have h1 : (Vaflxb.standing l t).length ≤ 34 := by
          rw [← (somes_perm t l).length_eq]
          exact Nat.le_trans (List.length_filterMap_le _ _) (Nat.le_trans (cntP_le t l) (show l.length ≤ 34 from wfL.len hw))
        have h2 := flat_le (fun x : Nat × Nat => ([Vaflxb.nat x.1, Vaflxb.nat x.2] : List Int)) 2 (xs := Vaflxb.standing l t) fun _ _ => Nat.le_refl _
        omega
    | pieces s => show 1 ≤ _; decide
  | boxes a =>
    cases h with
    | positions l => show 1 ≤ _; decide
    | pieces s =>
      show ((0 : Int) :: (if s.const.isSome = true then 1 else 0) :: s.boxes.flatMap boxRow).length ≤ _
      rw [List.length_cons, List.length_cons, boxRow_len]
      have := wfS.len hw
      omega
  | side i w2 a =>
    cases h with
    | positions l => show 1 ≤ _; decide
    | pieces s =>
      show (Vaflxb.sideAnswer i w2 s).length ≤ _
      unfold Vaflxb.sideAnswer
      split
      · show 1 ≤ _; decide
      · cases e : s.boxes[i.toNat]? with
        | none => show 1 ≤ _; decide
        | some b =>
          have hb := wfS.b hw b (List.mem_of_getElem? e)
          show (Vaflxb.textAnswer (told ((if w2 = 0 then b.left else b.right).map Vaflxa.posText))).length ≤ _
          rw [textAns_len]
          have : (told ((if w2 = 0 then b.left else b.right).map Vaflxa.posText)).length ≤ 34 * 11 := by
            split
            · exact hl34 hb.l
            · exact hl34 hb.r
          omega
  | gives a r =>
    cases h with
    | positions l => show 1 ≤ _; decide
    | pieces s =>
      show (Vaflxb.givesAnswer s r).length ≤ _
      cases hg : Vaflxa.goodRecord r with
      | false =>
        unfold Vaflxb.givesAnswer
        rw [hg]; show 1 ≤ _; decide
      | true =>
        rw [← gives_law hg]
        split
        · show 1 ≤ _; decide
        · rename_i hc
          rw [List.length_cons, List.length_cons]
          have h1 := flat_le (fun t : Tx => (Vaflxb.nat ((cget (giveC s r) (some t)).getD 0) :: Vaflxb.nat t.length :: Vaflxb.numbers t : List Int)) 42 (xs := (textsC (giveC s r)).mergeSort tLe) fun t ht => by
            have ht := (List.mergeSort_perm _ _).mem_iff.mp ht
            unfold textsC at ht
            rw [List.mem_map] at ht
            obtain ⟨⟨t', n⟩, hm, rfl⟩ := ht
            have hn := (mem_spart (nodup_give s r)).mp hm
            have := give_len (goodR hg).1 (fun t ht => (wfS.c hw t ht).2.1) hn
            rw [List.length_cons, List.length_cons, numbers_len]
            show t'.length + 1 + 1 ≤ 42
            omega
          rw [List.length_mergeSort] at h1
          have h2 : (textsC (giveC s r)).length = (spart (giveC s r)).length := by unfold textsC; rw [List.length_map]
          rw [h2] at h1
          omega
  | _ => show 0 ≤ _; exact Nat.zero_le _
theorem hold_len (st : Vaflxb.State) (x : Tx) (h : Hd) : (Vaflxb.hold st x h).2.length ≤ 81922 := by
  unfold Vaflxb.hold
  split <;> (show 1 ≤ _; decide)
theorem step_len {st : Vaflxb.State} (hok : stOk st) (c : Cl) : (stepC st c).2.length ≤ 81922 := by
  have one : ∀ z : Int, ([z] : List Int).length ≤ 81922 := fun z => by show 1 ≤ _; decide
  have set_ : ∀ c, (stepS st c).2.length ≤ 81922 := fun c => by
    cases hf : Vaflxb.find st (nameOf c) with
    | none => rw [stepS_none hf]; exact one _
    | some h =>
      have hw := stOk_find hok hf
      by_cases hd : ∃ a, c = .drop a
      · obtain ⟨a, rfl⟩ := hd
        rw [stepS_drop (a := a) hf]; exact one _
      · rw [stepS_some hf (fun a z => hd ⟨a, z⟩)]
        exact tell_len hw c
  cases c with
  | at_ p x t =>
    show (Vaflxb.doAt st p x t).2.length ≤ _
    unfold Vaflxb.doAt
    split
    · exact one _
    split
    · exact one _
    · exact hold_len _ _ _
  | parts x u r =>
    show (Vaflxb.doParts st x u r).2.length ≤ _
    unfold Vaflxb.doParts
    split
    · exact one _
    split
    · exact one _
    · exact hold_len _ _ _
  | meet x a b =>
    show (Vaflxb.doMeet st x a b).2.length ≤ _
    unfold Vaflxb.doMeet
    split
    · exact one _
    · cases Vaflxb.find st a with
      | none => exact one _
      | some p =>
        cases Vaflxb.find st b with
        | none => cases p <;> exact one _
        | some q =>
          cases p <;> cases q <;> first | exact one _ | exact hold_len _ _ _
  | names =>
    show (Vaflxb.textAnswer (told (st.held.map fun p => p.1))).length ≤ _
    rw [textAns_len]
    have h1 : ∀ t ∈ st.held.map (fun p => p.1), t.length ≤ 12 := fun t ht => by
      rw [List.mem_map] at ht
      obtain ⟨p, hp, rfl⟩ := ht
      have := (hok.wf p hp).1
      rw [name_eq, Bool.and_eq_true, Bool.and_eq_true, decide_eq_true_eq, decide_eq_true_eq] at this
      exact this.2.1
    have h2 := told_le2 (n := 20) h1 (by rw [List.length_map]; exact hok.len) (st.held.map fun p => p.1).length
    rw [List.take_length] at h2
    omega
  | _ => exact set_ _
end Ps
set_option Elab.async false
set_option linter.all false
set_option maxRecDepth 100000
set_option maxHeartbeats 2000000
/-! Plain law: the list of calls, as it is laid out. -/
namespace Ps
open PySem PySem.Spec PyProof.Rows L2 Gd
theorem row_at {l : List Int} {i : Nat} {x s : List Int} (h : PyFlat.row (l.drop i) = some (x, s)) : RowAt l i x ∧ s = l.drop (i + 1 + x.length) ∧ i + 1 + x.length ≤ l.length := by
  cases e : l.drop i with
  | nil => rw [e] at h; cases h
  | cons n r =>
    rw [e] at h
    have hlt : i < l.length := by
      by_cases z : i < l.length
      · exact z
      · rw [List.drop_eq_nil_of_le (by omega)] at e; cases e
    rw [List.drop_eq_getElem_cons hlt] at e
    obtain ⟨e1, e2⟩ := List.cons.inj e
    have h : (if 0 ≤ n ∧ n.toNat ≤ r.length then some (r.take n.toNat, r.drop n.toNat) else none) = some (x, s) := h
    split at h
    · rename_i hc
      cases h
      have hl : (r.take n.toNat).length = n.toNat := by rw [List.length_take]; omega
      refine ⟨⟨?_, ?_⟩, ?_, ?_⟩
      · rw [hl, List.getElem?_eq_getElem hlt, e1]
        congr 1
        omega
      · rw [hl, e2]
      · rw [hl, ← e2, List.drop_drop]
      · rw [hl]
        have : r.length = l.length - (i + 1) := by rw [← e2, List.length_drop]
        omega
    · cases h
theorem rows_succ {k : Nat} {s : List Int} {xs : List (List Int)} {t : List Int} (h : PyFlat.rows (k + 1) s = some (xs, t)) : ∃ x s' xs', PyFlat.row s = some (x, s') ∧ PyFlat.rows k s' = some (xs', t) ∧ xs = x :: xs' := by
  unfold PyFlat.rows at h
  cases e : PyFlat.row s with
  | none => rw [e] at h; cases h
  | some p =>
    obtain ⟨x, s'⟩ := p
    rw [e] at h
    have h : (match PyFlat.rows k s' with | none => none | some (xs, t) => some (x :: xs, t)) = some (xs, t) := h
    cases e2 : PyFlat.rows k s' with
    | none => rw [e2] at h; cases h
    | some q =>
      obtain ⟨xs', t'⟩ := q
      rw [e2] at h
      cases h
      exact ⟨x, s', xs', rfl, e2, rfl⟩
theorem rows_zero {s : List Int} {xs : List (List Int)} {t : List Int} (h : PyFlat.rows 0 s = some (xs, t)) : xs = [] ∧ t = s := by
  unfold PyFlat.rows at h
  cases h; exact ⟨rfl, rfl⟩
theorem text_of {r : List Int} {a : Tx} (h : VaflxbNeutral.text? r = some a) : Vaflxb.numbers a = r ∧ a.length = r.length := by
  have := numbers_text h
  exact ⟨this, by rw [← this, numbers_len]⟩
theorem texts_len : ∀ (n : Nat) (r : List Int) (ts : List Tx), VaflxbNeutral.texts? n r = some ts → ts.length ≤ r.length ∧ ∀ t ∈ ts, t.length ≤ r.length
  | n, [], ts, h => by
    cases n <;> (simp [VaflxbNeutral.texts?] at h; subst h; exact ⟨Nat.le_refl _, fun _ z => nomatch z⟩)
  | 0, k :: r, ts, h => by simp [VaflxbNeutral.texts?] at h
  | n + 1, k :: r, ts, h => by
    obtain ⟨m, t, ts', e, h0, hk, e1, e2, rfl⟩ := texts_cons h
    have hm : m = n := by omega
    subst hm
    obtain ⟨g1, g2⟩ := texts_len m _ _ e2
    have hd : (r.drop k.toNat).length ≤ r.length := by rw [List.length_drop]; omega
    refine ⟨?_, fun x hx => ?_⟩
    · rw [List.length_cons, List.length_cons]; omega
    · rw [List.length_cons]
      rcases List.mem_cons.mp hx with rfl | hx
      · have := (text_of e1).2
        rw [List.length_take] at this
        omega
      · have := g2 x hx
        omega
theorem le10 {r : List Int} {b : Bool} (h : (b && decide (r.length ≤ 10000)) = true) : r.length ≤ 10000 := by
  rw [Bool.and_eq_true, decide_eq_true_eq] at h; exact h.2
theorem laid {l : List Int} {i : Nat} {p : Int} {r : List Int} {c : List (List Int)} {t : List Int} {k : Cl} (e : l.drop i = p :: r) (h : PyFlat.call PyVaflxb.shape (p :: r) = some (c, t)) (ha : VaflxbNeutral.asked1 (PyVaflxb.whole c) = true) (hk : VaflxbNeutral.callOf (PyVaflxb.whole c) = some k) :
    l[i]? = some p ∧ wordOf k = p ∧ ∃ j, CallAt l (i + 1) k j ∧ t = l.drop j ∧ i < j ∧ j ≤ l.length := by
  have hlt : i < l.length := by
    by_cases z : i < l.length
    · exact z
    · rw [List.drop_eq_nil_of_le (by omega)] at e; cases e
  have e' := e
  rw [List.drop_eq_getElem_cons hlt] at e'
  obtain ⟨e1, e2⟩ := List.cons.inj e'
  have hp : l[i]? = some p := by rw [List.getElem?_eq_getElem hlt, e1]
  have hr : r = l.drop (i + 1) := e2.symm
  refine ⟨hp, ?_⟩
  have h : (match PyVaflxb.shape p with | none => none | some (n, k) => if r.length < n then none else match PyFlat.rows k (r.drop n) with | none => none | some (xs, t) => some ((p :: r.take n) :: xs, t)) = some (c, t) := h
  have hs : ∃ n m, PyVaflxb.shape p = some (n, m) := by
    cases z : PyVaflxb.shape p with
    | none => rw [z] at h; cases h
    | some q => exact ⟨q.1, q.2, rfl⟩
  obtain ⟨n, m, hs⟩ := hs
  rw [hs] at h
  have h : (if r.length < n then none else match PyFlat.rows m (r.drop n) with | none => none | some (xs, t) => some ((p :: r.take n) :: xs, t)) = some (c, t) := h
  split at h
  · cases h
  rename_i hn
  cases hrw : PyFlat.rows m (r.drop n) with
  | none => rw [hrw] at h; cases h
  | some q =>
  obtain ⟨xs, t'⟩ := q
  rw [hrw] at h
  have hc : (p :: r.take n) :: xs = c := (Prod.mk.inj (Option.some.inj h)).1
  have ht : t' = t := (Prod.mk.inj (Option.some.inj h)).2
  subst ht
  rw [hr, List.drop_drop] at hrw
  by_cases h0 : p = 0
  · subst h0
    have hs : some ((1, 2) : Nat × Nat) = some (n, m) := hs
    cases hs
    obtain ⟨z1, r1, hz⟩ : ∃ z1 r1, r = z1 :: r1 := by
      cases r with
      | nil => exact (hn (by simp)).elim
      | cons a b => exact ⟨a, b, rfl⟩
    rw [hz] at hc
    have hz1 : l[i + 1]? = some z1 := by
      have : (l.drop (i + 1))[0]? = some z1 := by rw [← hr, hz]; rfl
      rw [List.getElem?_drop] at this; exact this
    obtain ⟨x0, s0, xs0, hx0, hrw0, hxs0⟩ := rows_succ hrw
    subst hxs0
    obtain ⟨ra0, rs0, rl0⟩ := row_at hx0
    rw [rs0] at hrw0
    obtain ⟨x1, s1, xs1, hx1, hrw1, hxs1⟩ := rows_succ hrw0
    subst hxs1
    obtain ⟨ra1, rs1, rl1⟩ := row_at hx1
    rw [rs1] at hrw1
    obtain ⟨hxn, htn⟩ := rows_zero hrw1
    subst hxn
    have hc : c = [[0, z1], x0, x1] := hc.symm
    subst hc
    cases d0 : VaflxbNeutral.text? x0 with
    | none =>
      exfalso
      revert hk
      show ((VaflxbNeutral.text? x0).bind fun a0 => (VaflxbNeutral.text? x1).map fun a1 => (.at_ z1 a0 a1 : Cl)) = some k → False
      rw [d0]
      intro z; cases z
    | some a0 =>
    cases d1 : VaflxbNeutral.text? x1 with
    | none =>
      exfalso
      revert hk
      show ((VaflxbNeutral.text? x0).bind fun a0 => (VaflxbNeutral.text? x1).map fun a1 => (.at_ z1 a0 a1 : Cl)) = some k → False
      rw [d0, Option.bind_some]
      rw [d1]
      intro z; cases z
    | some a1 =>
    have hk : ((VaflxbNeutral.text? x0).bind fun a0 => (VaflxbNeutral.text? x1).map fun a1 => (.at_ z1 a0 a1 : Cl)) = some k := hk
    rw [d0, Option.bind_some] at hk
    rw [d1] at hk
    have hk : some (.at_ z1 a0 a1 : Cl) = some k := hk
    cases hk
    have ha : (VaflxbNeutral.whole60 z1 && (((x0.all fun z => VaflxbNeutral.natural z 8) && decide (x0.length ≤ 10000)) && ((x1.all fun z => VaflxbNeutral.natural z 8) && decide (x1.length ≤ 10000)))) = true := ha
    rw [Bool.and_eq_true] at ha
    have q0 := ha.1
    have ha := ha.2
    rw [Bool.and_eq_true] at ha
    have q1 := ha.1
    have ha := ha.2
    have q2 := ha
    have lx0 : x0.length ≤ 10000 := by
      exact le10 q1
    obtain ⟨t0, n0⟩ := text_of d0
    subst t0
    rw [numbers_len] at *
    have lx1 : x1.length ≤ 10000 := by
      exact le10 q2
    obtain ⟨t1, n1⟩ := text_of d1
    subst t1
    rw [numbers_len] at *
    refine ⟨rfl, _, ?_, htn, ?_, ?_⟩
    · exact ⟨hz1, ra0, ra1, rfl, by omega, by omega⟩
    · omega
    · omega
  by_cases h1 : p = 1
  · subst h1
    have hs : some ((0, 3) : Nat × Nat) = some (n, m) := hs
    cases hs
    obtain ⟨x0, s0, xs0, hx0, hrw0, hxs0⟩ := rows_succ hrw
    subst hxs0
    obtain ⟨ra0, rs0, rl0⟩ := row_at hx0
    rw [rs0] at hrw0
    obtain ⟨x1, s1, xs1, hx1, hrw1, hxs1⟩ := rows_succ hrw0
    subst hxs1
    obtain ⟨ra1, rs1, rl1⟩ := row_at hx1
    rw [rs1] at hrw1
    obtain ⟨x2, s2, xs2, hx2, hrw2, hxs2⟩ := rows_succ hrw1
    subst hxs2
    obtain ⟨ra2, rs2, rl2⟩ := row_at hx2
    rw [rs2] at hrw2
    obtain ⟨hxn, htn⟩ := rows_zero hrw2
    subst hxn
    have hc : c = [[1], x0, x1, x2] := hc.symm
    subst hc
    cases d0 : VaflxbNeutral.text? x0 with
    | none =>
      exfalso
      revert hk
      show ((VaflxbNeutral.text? x0).bind fun a0 => (VaflxbNeutral.text? x1).bind fun a1 => (VaflxbNeutral.texts? x2.length x2).map fun a2 => (.parts a0 a1 a2 : Cl)) = some k → False
      rw [d0]
      intro z; cases z
    | some a0 =>
    cases d1 : VaflxbNeutral.text? x1 with
    | none =>
      exfalso
      revert hk
      show ((VaflxbNeutral.text? x0).bind fun a0 => (VaflxbNeutral.text? x1).bind fun a1 => (VaflxbNeutral.texts? x2.length x2).map fun a2 => (.parts a0 a1 a2 : Cl)) = some k → False
      rw [d0, Option.bind_some]
      rw [d1]
      intro z; cases z
    | some a1 =>
    cases d2 : VaflxbNeutral.texts? x2.length x2 with
    | none =>
      exfalso
      revert hk
      show ((VaflxbNeutral.text? x0).bind fun a0 => (VaflxbNeutral.text? x1).bind fun a1 => (VaflxbNeutral.texts? x2.length x2).map fun a2 => (.parts a0 a1 a2 : Cl)) = some k → False
      rw [d0, Option.bind_some]
      rw [d1, Option.bind_some]
      rw [d2]
      intro z; cases z
    | some a2 =>
    have hk : ((VaflxbNeutral.text? x0).bind fun a0 => (VaflxbNeutral.text? x1).bind fun a1 => (VaflxbNeutral.texts? x2.length x2).map fun a2 => (.parts a0 a1 a2 : Cl)) = some k := hk
    rw [d0, Option.bind_some] at hk
    rw [d1, Option.bind_some] at hk
    rw [d2] at hk
    have hk : some (.parts a0 a1 a2 : Cl) = some k := hk
    cases hk
    have ha : (((x0.all fun z => VaflxbNeutral.natural z 8) && decide (x0.length ≤ 10000)) && (((x1.all fun z => VaflxbNeutral.natural z 8) && decide (x1.length ≤ 10000)) && ((x2.all fun z => VaflxbNeutral.natural z 14) && (decide (x2.length ≤ 10000) && (VaflxbNeutral.texts? x2.length x2).isSome)))) = true := ha
    rw [Bool.and_eq_true] at ha
    have q0 := ha.1
    have ha := ha.2
    rw [Bool.and_eq_true] at ha
    have q1 := ha.1
    have ha := ha.2
    have q2 := ha
    have lx0 : x0.length ≤ 10000 := by
      exact le10 q0
    obtain ⟨t0, n0⟩ := text_of d0
    subst t0
    rw [numbers_len] at *
    have lx1 : x1.length ≤ 10000 := by
      exact le10 q1
    obtain ⟨t1, n1⟩ := text_of d1
    subst t1
    rw [numbers_len] at *
    have lx2 : x2.length ≤ 10000 := by
      rw [Bool.and_eq_true, Bool.and_eq_true, decide_eq_true_eq] at q2
      exact q2.2.1
    obtain ⟨n2, n2'⟩ := texts_len _ _ _ d2
    refine ⟨rfl, _, ?_, htn, ?_, ?_⟩
    · exact ⟨ra0, ra1, by omega, by omega, x2, x2.length, d2, ra2, rfl, by omega, fun t ht => Nat.le_trans (n2' t ht) (by omega), by omega⟩
    · omega
    · omega
  by_cases h2 : p = 2
  · subst h2
    have hs : some ((0, 3) : Nat × Nat) = some (n, m) := hs
    cases hs
    obtain ⟨x0, s0, xs0, hx0, hrw0, hxs0⟩ := rows_succ hrw
    subst hxs0
    obtain ⟨ra0, rs0, rl0⟩ := row_at hx0
    rw [rs0] at hrw0
    obtain ⟨x1, s1, xs1, hx1, hrw1, hxs1⟩ := rows_succ hrw0
    subst hxs1
    obtain ⟨ra1, rs1, rl1⟩ := row_at hx1
    rw [rs1] at hrw1
    obtain ⟨x2, s2, xs2, hx2, hrw2, hxs2⟩ := rows_succ hrw1
    subst hxs2
    obtain ⟨ra2, rs2, rl2⟩ := row_at hx2
    rw [rs2] at hrw2
    obtain ⟨hxn, htn⟩ := rows_zero hrw2
    subst hxn
    have hc : c = [[2], x0, x1, x2] := hc.symm
    subst hc
    cases d0 : VaflxbNeutral.text? x0 with
    | none =>
      exfalso
      revert hk
      show ((VaflxbNeutral.text? x0).bind fun a0 => (VaflxbNeutral.text? x1).bind fun a1 => (VaflxbNeutral.text? x2).map fun a2 => (.meet a0 a1 a2 : Cl)) = some k → False
      rw [d0]
      intro z; cases z
    | some a0 =>
    cases d1 : VaflxbNeutral.text? x1 with
    | none =>
      exfalso
      revert hk
      show ((VaflxbNeutral.text? x0).bind fun a0 => (VaflxbNeutral.text? x1).bind fun a1 => (VaflxbNeutral.text? x2).map fun a2 => (.meet a0 a1 a2 : Cl)) = some k → False
      rw [d0, Option.bind_some]
      rw [d1]
      intro z; cases z
    | some a1 =>
    cases d2 : VaflxbNeutral.text? x2 with
    | none =>
      exfalso
      revert hk
      show ((VaflxbNeutral.text? x0).bind fun a0 => (VaflxbNeutral.text? x1).bind fun a1 => (VaflxbNeutral.text? x2).map fun a2 => (.meet a0 a1 a2 : Cl)) = some k → False
      rw [d0, Option.bind_some]
      rw [d1, Option.bind_some]
      rw [d2]
      intro z; cases z
    | some a2 =>
    have hk : ((VaflxbNeutral.text? x0).bind fun a0 => (VaflxbNeutral.text? x1).bind fun a1 => (VaflxbNeutral.text? x2).map fun a2 => (.meet a0 a1 a2 : Cl)) = some k := hk
    rw [d0, Option.bind_some] at hk
    rw [d1, Option.bind_some] at hk
    rw [d2] at hk
    have hk : some (.meet a0 a1 a2 : Cl) = some k := hk
    cases hk
    have ha : (((x0.all fun z => VaflxbNeutral.natural z 8) && decide (x0.length ≤ 10000)) && (((x1.all fun z => VaflxbNeutral.natural z 8) && decide (x1.length ≤ 10000)) && ((x2.all fun z => VaflxbNeutral.natural z 8) && decide (x2.length ≤ 10000)))) = true := ha
    rw [Bool.and_eq_true] at ha
    have q0 := ha.1
    have ha := ha.2
    rw [Bool.and_eq_true] at ha
    have q1 := ha.1
    have ha := ha.2
    have q2 := ha
    have lx0 : x0.length ≤ 10000 := by
      exact le10 q0
    obtain ⟨t0, n0⟩ := text_of d0
    subst t0
    rw [numbers_len] at *
    have lx1 : x1.length ≤ 10000 := by
      exact le10 q1
    obtain ⟨t1, n1⟩ := text_of d1
    subst t1
    rw [numbers_len] at *
    have lx2 : x2.length ≤ 10000 := by
      exact le10 q2
    obtain ⟨t2, n2⟩ := text_of d2
    subst t2
    rw [numbers_len] at *
    refine ⟨rfl, _, ?_, htn, ?_, ?_⟩
    · exact ⟨ra0, ra1, ra2, rfl, by omega⟩
    · omega
    · omega
  by_cases h3 : p = 3
  · subst h3
    have hs : some ((0, 1) : Nat × Nat) = some (n, m) := hs
    cases hs
    obtain ⟨x0, s0, xs0, hx0, hrw0, hxs0⟩ := rows_succ hrw
    subst hxs0
    obtain ⟨ra0, rs0, rl0⟩ := row_at hx0
    rw [rs0] at hrw0
    obtain ⟨hxn, htn⟩ := rows_zero hrw0
    subst hxn
    have hc : c = [[3], x0] := hc.symm
    subst hc
    cases d0 : VaflxbNeutral.text? x0 with
    | none =>
      exfalso
      revert hk
      show ((VaflxbNeutral.text? x0).map fun a0 => (.size a0 : Cl)) = some k → False
      rw [d0]
      intro z; cases z
    | some a0 =>
    have hk : ((VaflxbNeutral.text? x0).map fun a0 => (.size a0 : Cl)) = some k := hk
    rw [d0] at hk
    have hk : some (.size a0 : Cl) = some k := hk
    cases hk
    have ha : ((x0.all fun z => VaflxbNeutral.natural z 8) && decide (x0.length ≤ 10000)) = true := ha
    have q0 := ha
    have lx0 : x0.length ≤ 10000 := by
      exact le10 q0
    obtain ⟨t0, n0⟩ := text_of d0
    subst t0
    rw [numbers_len] at *
    refine ⟨rfl, _, ?_, htn, ?_, ?_⟩
    · exact ⟨[], rfl, ra0, rfl, fun z => (nomatch z), fun _ => rfl⟩
    · omega
    · omega
  by_cases h4 : p = 4
  · subst h4
    have hs : some ((0, 1) : Nat × Nat) = some (n, m) := hs
    cases hs
    obtain ⟨x0, s0, xs0, hx0, hrw0, hxs0⟩ := rows_succ hrw
    subst hxs0
    obtain ⟨ra0, rs0, rl0⟩ := row_at hx0
    rw [rs0] at hrw0
    obtain ⟨hxn, htn⟩ := rows_zero hrw0
    subst hxn
    have hc : c = [[4], x0] := hc.symm
    subst hc
    cases d0 : VaflxbNeutral.text? x0 with
    | none =>
      exfalso
      revert hk
      show ((VaflxbNeutral.text? x0).map fun a0 => (.least a0 : Cl)) = some k → False
      rw [d0]
      intro z; cases z
    | some a0 =>
    have hk : ((VaflxbNeutral.text? x0).map fun a0 => (.least a0 : Cl)) = some k := hk
    rw [d0] at hk
    have hk : some (.least a0 : Cl) = some k := hk
    cases hk
    have ha : ((x0.all fun z => VaflxbNeutral.natural z 8) && decide (x0.length ≤ 10000)) = true := ha
    have q0 := ha
    have lx0 : x0.length ≤ 10000 := by
      exact le10 q0
    obtain ⟨t0, n0⟩ := text_of d0
    subst t0
    rw [numbers_len] at *
    refine ⟨rfl, _, ?_, htn, ?_, ?_⟩
    · exact ⟨[], rfl, ra0, rfl, fun z => (nomatch z), fun _ => rfl⟩
    · omega
    · omega
  by_cases h5 : p = 5
  · subst h5
    have hs : some ((1, 1) : Nat × Nat) = some (n, m) := hs
    cases hs
    obtain ⟨z1, r1, hz⟩ : ∃ z1 r1, r = z1 :: r1 := by
      cases r with
      | nil => exact (hn (by simp)).elim
      | cons a b => exact ⟨a, b, rfl⟩
    rw [hz] at hc
    have hz1 : l[i + 1]? = some z1 := by
      have : (l.drop (i + 1))[0]? = some z1 := by rw [← hr, hz]; rfl
      rw [List.getElem?_drop] at this; exact this
    obtain ⟨x0, s0, xs0, hx0, hrw0, hxs0⟩ := rows_succ hrw
    subst hxs0
    obtain ⟨ra0, rs0, rl0⟩ := row_at hx0
    rw [rs0] at hrw0
    obtain ⟨hxn, htn⟩ := rows_zero hrw0
    subst hxn
    have hc : c = [[5, z1], x0] := hc.symm
    subst hc
    cases d0 : VaflxbNeutral.text? x0 with
    | none =>
      exfalso
      revert hk
      show ((VaflxbNeutral.text? x0).map fun a0 => (.item z1 a0 : Cl)) = some k → False
      rw [d0]
      intro z; cases z
    | some a0 =>
    have hk : ((VaflxbNeutral.text? x0).map fun a0 => (.item z1 a0 : Cl)) = some k := hk
    rw [d0] at hk
    have hk : some (.item z1 a0 : Cl) = some k := hk
    cases hk
    have ha : (VaflxbNeutral.whole60 z1 && ((x0.all fun z => VaflxbNeutral.natural z 8) && decide (x0.length ≤ 10000))) = true := ha
    rw [Bool.and_eq_true] at ha
    have q0 := ha.1
    have ha := ha.2
    have q1 := ha
    have lx0 : x0.length ≤ 10000 := by
      exact le10 q1
    obtain ⟨t0, n0⟩ := text_of d0
    subst t0
    rw [numbers_len] at *
    refine ⟨rfl, _, ?_, htn, ?_, ?_⟩
    · refine ⟨[], ?_, ra0, rfl, fun z => (nomatch z), fun _ => rfl⟩
      show (l.drop (i + 1)).take 1 = [z1]
      rw [← hr, hz]; rfl
    · omega
    · omega
  by_cases h6 : p = 6
  · subst h6
    have hs : some ((0, 2) : Nat × Nat) = some (n, m) := hs
    cases hs
    obtain ⟨x0, s0, xs0, hx0, hrw0, hxs0⟩ := rows_succ hrw
    subst hxs0
    obtain ⟨ra0, rs0, rl0⟩ := row_at hx0
    rw [rs0] at hrw0
    obtain ⟨x1, s1, xs1, hx1, hrw1, hxs1⟩ := rows_succ hrw0
    subst hxs1
    obtain ⟨ra1, rs1, rl1⟩ := row_at hx1
    rw [rs1] at hrw1
    obtain ⟨hxn, htn⟩ := rows_zero hrw1
    subst hxn
    have hc : c = [[6], x0, x1] := hc.symm
    subst hc
    cases d0 : VaflxbNeutral.text? x0 with
    | none =>
      exfalso
      revert hk
      show ((VaflxbNeutral.text? x0).bind fun a0 => (VaflxbNeutral.text? x1).map fun a1 => (.has a0 a1 : Cl)) = some k → False
      rw [d0]
      intro z; cases z
    | some a0 =>
    cases d1 : VaflxbNeutral.text? x1 with
    | none =>
      exfalso
      revert hk
      show ((VaflxbNeutral.text? x0).bind fun a0 => (VaflxbNeutral.text? x1).map fun a1 => (.has a0 a1 : Cl)) = some k → False
      rw [d0, Option.bind_some]
      rw [d1]
      intro z; cases z
    | some a1 =>
    have hk : ((VaflxbNeutral.text? x0).bind fun a0 => (VaflxbNeutral.text? x1).map fun a1 => (.has a0 a1 : Cl)) = some k := hk
    rw [d0, Option.bind_some] at hk
    rw [d1] at hk
    have hk : some (.has a0 a1 : Cl) = some k := hk
    cases hk
    have ha : (((x0.all fun z => VaflxbNeutral.natural z 8) && decide (x0.length ≤ 10000)) && ((x1.all fun z => VaflxbNeutral.natural z 8) && decide (x1.length ≤ 10000))) = true := ha
    rw [Bool.and_eq_true] at ha
    have q0 := ha.1
    have ha := ha.2
    have q1 := ha
    have lx0 : x0.length ≤ 10000 := by
      exact le10 q0
    obtain ⟨t0, n0⟩ := text_of d0
    subst t0
    rw [numbers_len] at *
    have lx1 : x1.length ≤ 10000 := by
      exact le10 q1
    obtain ⟨t1, n1⟩ := text_of d1
    subst t1
    rw [numbers_len] at *
    refine ⟨rfl, _, ?_, htn, ?_, ?_⟩
    · exact ⟨Vaflxb.numbers a1, rfl, ra0, ⟨rfl, by omega⟩, fun _ => ⟨ra1, by rw [numbers_len]; rfl⟩, fun z => nomatch z⟩
    · omega
    · omega
  by_cases h7 : p = 7
  · subst h7
    have hs : some ((0, 1) : Nat × Nat) = some (n, m) := hs
    cases hs
    obtain ⟨x0, s0, xs0, hx0, hrw0, hxs0⟩ := rows_succ hrw
    subst hxs0
    obtain ⟨ra0, rs0, rl0⟩ := row_at hx0
    rw [rs0] at hrw0
    obtain ⟨hxn, htn⟩ := rows_zero hrw0
    subst hxn
    have hc : c = [[7], x0] := hc.symm
    subst hc
    cases d0 : VaflxbNeutral.text? x0 with
    | none =>
      exfalso
      revert hk
      show ((VaflxbNeutral.text? x0).map fun a0 => (.list a0 : Cl)) = some k → False
      rw [d0]
      intro z; cases z
    | some a0 =>
    have hk : ((VaflxbNeutral.text? x0).map fun a0 => (.list a0 : Cl)) = some k := hk
    rw [d0] at hk
    have hk : some (.list a0 : Cl) = some k := hk
    cases hk
    have ha : ((x0.all fun z => VaflxbNeutral.natural z 8) && decide (x0.length ≤ 10000)) = true := ha
    have q0 := ha
    have lx0 : x0.length ≤ 10000 := by
      exact le10 q0
    obtain ⟨t0, n0⟩ := text_of d0
    subst t0
    rw [numbers_len] at *
    refine ⟨rfl, _, ?_, htn, ?_, ?_⟩
    · exact ⟨[], rfl, ra0, rfl, fun z => (nomatch z), fun _ => rfl⟩
    · omega
    · omega
  by_cases h8 : p = 8
  · subst h8
    have hs : some ((0, 2) : Nat × Nat) = some (n, m) := hs
    cases hs
    obtain ⟨x0, s0, xs0, hx0, hrw0, hxs0⟩ := rows_succ hrw
    subst hxs0
    obtain ⟨ra0, rs0, rl0⟩ := row_at hx0
    rw [rs0] at hrw0
    obtain ⟨x1, s1, xs1, hx1, hrw1, hxs1⟩ := rows_succ hrw0
    subst hxs1
    obtain ⟨ra1, rs1, rl1⟩ := row_at hx1
    rw [rs1] at hrw1
    obtain ⟨hxn, htn⟩ := rows_zero hrw1
    subst hxn
    have hc : c = [[8], x0, x1] := hc.symm
    subst hc
    cases d0 : VaflxbNeutral.text? x0 with
    | none =>
      exfalso
      revert hk
      show ((VaflxbNeutral.text? x0).bind fun a0 => (VaflxbNeutral.text? x1).map fun a1 => (.stands a0 a1 : Cl)) = some k → False
      rw [d0]
      intro z; cases z
    | some a0 =>
    cases d1 : VaflxbNeutral.text? x1 with
    | none =>
      exfalso
      revert hk
      show ((VaflxbNeutral.text? x0).bind fun a0 => (VaflxbNeutral.text? x1).map fun a1 => (.stands a0 a1 : Cl)) = some k → False
      rw [d0, Option.bind_some]
      rw [d1]
      intro z; cases z
    | some a1 =>
    have hk : ((VaflxbNeutral.text? x0).bind fun a0 => (VaflxbNeutral.text? x1).map fun a1 => (.stands a0 a1 : Cl)) = some k := hk
    rw [d0, Option.bind_some] at hk
    rw [d1] at hk
    have hk : some (.stands a0 a1 : Cl) = some k := hk
    cases hk
    have ha : (((x0.all fun z => VaflxbNeutral.natural z 8) && decide (x0.length ≤ 10000)) && ((x1.all fun z => VaflxbNeutral.natural z 8) && decide (x1.length ≤ 10000))) = true := ha
    rw [Bool.and_eq_true] at ha
    have q0 := ha.1
    have ha := ha.2
    have q1 := ha
    have lx0 : x0.length ≤ 10000 := by
      exact le10 q0
    obtain ⟨t0, n0⟩ := text_of d0
    subst t0
    rw [numbers_len] at *
    have lx1 : x1.length ≤ 10000 := by
      exact le10 q1
    obtain ⟨t1, n1⟩ := text_of d1
    subst t1
    rw [numbers_len] at *
    refine ⟨rfl, _, ?_, htn, ?_, ?_⟩
    · exact ⟨Vaflxb.numbers a1, rfl, ra0, ⟨rfl, by omega⟩, fun _ => ⟨ra1, by rw [numbers_len]; rfl⟩, fun z => nomatch z⟩
    · omega
    · omega
  by_cases h9 : p = 9
  · subst h9
    have hs : some ((0, 1) : Nat × Nat) = some (n, m) := hs
    cases hs
    obtain ⟨x0, s0, xs0, hx0, hrw0, hxs0⟩ := rows_succ hrw
    subst hxs0
    obtain ⟨ra0, rs0, rl0⟩ := row_at hx0
    rw [rs0] at hrw0
    obtain ⟨hxn, htn⟩ := rows_zero hrw0
    subst hxn
    have hc : c = [[9], x0] := hc.symm
    subst hc
    cases d0 : VaflxbNeutral.text? x0 with
    | none =>
      exfalso
      revert hk
      show ((VaflxbNeutral.text? x0).map fun a0 => (.boxes a0 : Cl)) = some k → False
      rw [d0]
      intro z; cases z
    | some a0 =>
    have hk : ((VaflxbNeutral.text? x0).map fun a0 => (.boxes a0 : Cl)) = some k := hk
    rw [d0] at hk
    have hk : some (.boxes a0 : Cl) = some k := hk
    cases hk
    have ha : ((x0.all fun z => VaflxbNeutral.natural z 8) && decide (x0.length ≤ 10000)) = true := ha
    have q0 := ha
    have lx0 : x0.length ≤ 10000 := by
      exact le10 q0
    obtain ⟨t0, n0⟩ := text_of d0
    subst t0
    rw [numbers_len] at *
    refine ⟨rfl, _, ?_, htn, ?_, ?_⟩
    · exact ⟨[], rfl, ra0, rfl, fun z => (nomatch z), fun _ => rfl⟩
    · omega
    · omega
  by_cases h10 : p = 10
  · subst h10
    have hs : some ((2, 1) : Nat × Nat) = some (n, m) := hs
    cases hs
    obtain ⟨z1, z2, r1, hz⟩ : ∃ z1 z2 r1, r = z1 :: z2 :: r1 := by
      cases r with
      | nil => exact (hn (by simp)).elim
      | cons a b => cases b with
        | nil => exact (hn (by simp)).elim
        | cons c d => exact ⟨a, c, d, rfl⟩
    rw [hz] at hc
    obtain ⟨x0, s0, xs0, hx0, hrw0, hxs0⟩ := rows_succ hrw
    subst hxs0
    obtain ⟨ra0, rs0, rl0⟩ := row_at hx0
    rw [rs0] at hrw0
    obtain ⟨hxn, htn⟩ := rows_zero hrw0
    subst hxn
    have hc : c = [[10, z1, z2], x0] := hc.symm
    subst hc
    cases d0 : VaflxbNeutral.text? x0 with
    | none =>
      exfalso
      revert hk
      show ((VaflxbNeutral.text? x0).map fun a0 => (.side z1 z2 a0 : Cl)) = some k → False
      rw [d0]
      intro z; cases z
    | some a0 =>
    have hk : ((VaflxbNeutral.text? x0).map fun a0 => (.side z1 z2 a0 : Cl)) = some k := hk
    rw [d0] at hk
    have hk : some (.side z1 z2 a0 : Cl) = some k := hk
    cases hk
    have ha : (VaflxbNeutral.whole60 z1 && (VaflxbNeutral.whole60 z2 && ((x0.all fun z => VaflxbNeutral.natural z 8) && decide (x0.length ≤ 10000)))) = true := ha
    rw [Bool.and_eq_true] at ha
    have q0 := ha.1
    have ha := ha.2
    rw [Bool.and_eq_true] at ha
    have q1 := ha.1
    have ha := ha.2
    have q2 := ha
    have lx0 : x0.length ≤ 10000 := by
      exact le10 q2
    obtain ⟨t0, n0⟩ := text_of d0
    subst t0
    rw [numbers_len] at *
    refine ⟨rfl, _, ?_, htn, ?_, ?_⟩
    · refine ⟨[], ?_, ra0, rfl, fun z => (nomatch z), fun _ => rfl⟩
      show (l.drop (i + 1)).take 2 = [z1, z2]
      rw [← hr, hz]; rfl
    · omega
    · omega
  by_cases h11 : p = 11
  · subst h11
    have hs : some ((0, 2) : Nat × Nat) = some (n, m) := hs
    cases hs
    obtain ⟨x0, s0, xs0, hx0, hrw0, hxs0⟩ := rows_succ hrw
    subst hxs0
    obtain ⟨ra0, rs0, rl0⟩ := row_at hx0
    rw [rs0] at hrw0
    obtain ⟨x1, s1, xs1, hx1, hrw1, hxs1⟩ := rows_succ hrw0
    subst hxs1
    obtain ⟨ra1, rs1, rl1⟩ := row_at hx1
    rw [rs1] at hrw1
    obtain ⟨hxn, htn⟩ := rows_zero hrw1
    subst hxn
    have hc : c = [[11], x0, x1] := hc.symm
    subst hc
    cases d0 : VaflxbNeutral.text? x0 with
    | none =>
      exfalso
      revert hk
      show ((VaflxbNeutral.text? x0).bind fun a0 => (VaflxbNeutral.texts? x1.length x1).map fun a1 => (.gives a0 a1 : Cl)) = some k → False
      rw [d0]
      intro z; cases z
    | some a0 =>
    cases d1 : VaflxbNeutral.texts? x1.length x1 with
    | none =>
      exfalso
      revert hk
      show ((VaflxbNeutral.text? x0).bind fun a0 => (VaflxbNeutral.texts? x1.length x1).map fun a1 => (.gives a0 a1 : Cl)) = some k → False
      rw [d0, Option.bind_some]
      rw [d1]
      intro z; cases z
    | some a1 =>
    have hk : ((VaflxbNeutral.text? x0).bind fun a0 => (VaflxbNeutral.texts? x1.length x1).map fun a1 => (.gives a0 a1 : Cl)) = some k := hk
    rw [d0, Option.bind_some] at hk
    rw [d1] at hk
    have hk : some (.gives a0 a1 : Cl) = some k := hk
    cases hk
    have ha : (((x0.all fun z => VaflxbNeutral.natural z 8) && decide (x0.length ≤ 10000)) && ((x1.all fun z => VaflxbNeutral.natural z 14) && (decide (x1.length ≤ 10000) && (VaflxbNeutral.texts? x1.length x1).isSome))) = true := ha
    rw [Bool.and_eq_true] at ha
    have q0 := ha.1
    have ha := ha.2
    have q1 := ha
    have lx0 : x0.length ≤ 10000 := by
      exact le10 q0
    obtain ⟨t0, n0⟩ := text_of d0
    subst t0
    rw [numbers_len] at *
    have lx1 : x1.length ≤ 10000 := by
      rw [Bool.and_eq_true, Bool.and_eq_true, decide_eq_true_eq] at q1
      exact q1.2.1
    obtain ⟨n1, n1'⟩ := texts_len _ _ _ d1
    refine ⟨rfl, _, ?_, htn, ?_, ?_⟩
    · exact ⟨x1, rfl, ra0, ⟨⟨_, d1⟩, by omega, fun t ht => Nat.le_trans (n1' t ht) (by omega), by omega⟩, fun _ => ⟨ra1, rfl⟩, fun z => nomatch z⟩
    · omega
    · omega
  by_cases h12 : p = 12
  · subst h12
    have hs : some ((0, 1) : Nat × Nat) = some (n, m) := hs
    cases hs
    obtain ⟨x0, s0, xs0, hx0, hrw0, hxs0⟩ := rows_succ hrw
    subst hxs0
    obtain ⟨ra0, rs0, rl0⟩ := row_at hx0
    rw [rs0] at hrw0
    obtain ⟨hxn, htn⟩ := rows_zero hrw0
    subst hxn
    have hc : c = [[12], x0] := hc.symm
    subst hc
    cases d0 : VaflxbNeutral.text? x0 with
    | none =>
      exfalso
      revert hk
      show ((VaflxbNeutral.text? x0).map fun a0 => (.drop a0 : Cl)) = some k → False
      rw [d0]
      intro z; cases z
    | some a0 =>
    have hk : ((VaflxbNeutral.text? x0).map fun a0 => (.drop a0 : Cl)) = some k := hk
    rw [d0] at hk
    have hk : some (.drop a0 : Cl) = some k := hk
    cases hk
    have ha : ((x0.all fun z => VaflxbNeutral.natural z 8) && decide (x0.length ≤ 10000)) = true := ha
    have q0 := ha
    have lx0 : x0.length ≤ 10000 := by
      exact le10 q0
    obtain ⟨t0, n0⟩ := text_of d0
    subst t0
    rw [numbers_len] at *
    refine ⟨rfl, _, ?_, htn, ?_, ?_⟩
    · exact ⟨[], rfl, ra0, rfl, fun z => (nomatch z), fun _ => rfl⟩
    · omega
    · omega
  by_cases h13 : p = 13
  · subst h13
    have hs : some ((0, 0) : Nat × Nat) = some (n, m) := hs
    cases hs
    obtain ⟨hxn, htn⟩ := rows_zero hrw
    subst hxn
    have hc : c = [[13]] := hc.symm
    subst hc
    have hk : some Vaflxb.Call.names = some k := hk
    cases hk
    exact ⟨rfl, i + 1, rfl, htn, by omega, by omega⟩
  unfold PyVaflxb.shape at hs
  rw [if_neg h0, if_neg h1, if_neg h2, if_neg h3, if_neg h4, if_neg h5, if_neg h6, if_neg h7, if_neg h8, if_neg h9, if_neg h10, if_neg h11, if_neg h12, if_neg h13] at hs
  cases hs
theorem calls_play {l : List Int} : ∀ (f : Nat) (i n : Nat) (st : Vaflxb.State) (cs : List (List (List Int))), i ≤ l.length → PyFlat.calls PyVaflxb.shape f (l.drop i) = some cs → cs.length ≤ n → (∀ c ∈ cs, VaflxbNeutral.asked1 (PyVaflxb.whole c) = true ∧ (VaflxbNeutral.callOf (PyVaflxb.whole c)).isSome = true) → stOk st →
    Plays l n i st (PyFlat.told (PyFlat.played VaflxbNeutral.step st (cs.map PyVaflxb.whole))) := by
  intro f
  induction f with
  | zero =>
    intro i n st cs hi h hn _ _
    cases e : l.drop i with
    | nil =>
      rw [e] at h
      have : i = l.length := by
        have := congrArg List.length e
        rw [List.length_drop] at this
        simp at this; omega
      subst this
      cases h
      exact .done
    | cons p r => rw [e] at h; cases h
  | succ f ih =>
    intro i n st cs hi h hn ha hok
    cases e : l.drop i with
    | nil =>
      rw [e] at h
      have : i = l.length := by
        have := congrArg List.length e
        rw [List.length_drop] at this
        simp at this; omega
      subst this
      cases h
      exact .done
    | cons p r =>
      rw [e] at h
      unfold PyFlat.calls at h
      cases hcl : PyFlat.call PyVaflxb.shape (p :: r) with
      | none => rw [hcl] at h; cases h
      | some q =>
        obtain ⟨c, t⟩ := q
        rw [hcl] at h
        have h : (match PyFlat.calls PyVaflxb.shape f t with | none => none | some cs => some (c :: cs)) = some cs := h
        cases hcs : PyFlat.calls PyVaflxb.shape f t with
        | none => rw [hcs] at h; cases h
        | some cs' =>
          rw [hcs] at h
          cases h
          obtain ⟨a1, a2⟩ := ha c List.mem_cons_self
          obtain ⟨k, hk⟩ := Option.isSome_iff_exists.mp a2
          obtain ⟨g0, g1, j, g2, g3, g4, g5⟩ := laid e hcl a1 hk
          rw [List.length_cons] at hn
          obtain ⟨n', rfl⟩ : ∃ n', n = n' + 1 := ⟨n - 1, by omega⟩
          rw [g3] at hcs
          have hst : VaflxbNeutral.step st (PyVaflxb.whole c) = stepC st k := by
            unfold VaflxbNeutral.step
            rw [hk, step_eq hok k]; rfl
          have hrest := ih j n' (stepC st k).1 cs' g5 hcs (by omega) (fun d hd => ha d (List.mem_cons_of_mem _ hd)) (stOk_step hok k)
          have hfin : PyFlat.told (PyFlat.played VaflxbNeutral.step st ((c :: cs').map PyVaflxb.whole)) = ((stepC st k).2.length : Int) :: ((stepC st k).2 ++ PyFlat.told (PyFlat.played VaflxbNeutral.step (stepC st k).1 (cs'.map PyVaflxb.whole))) := by
            rw [List.map_cons]
            show PyFlat.told ((VaflxbNeutral.step st (PyVaflxb.whole c)).2 :: PyFlat.played VaflxbNeutral.step (VaflxbNeutral.step st (PyVaflxb.whole c)).1 (cs'.map PyVaflxb.whole)) = _
            rw [hst]
            unfold PyFlat.told
            rw [List.flatMap_cons]; rfl
          rw [hfin]
          exact .turn (by rw [g1]; exact g0) g2 g4 g5 (step_len hok k) hrest
/-- what is asked plays to what is due -/
theorem play_all {l : List Int} (h : PyVaflxb.answers_asked l = true) : Plays l 200 0 Vaflxb.start (PyVaflxb.answers l) := by
  unfold PyVaflxb.answers_asked at h
  unfold PyVaflxb.answers
  unfold PyVaflxb.calls at h ⊢
  cases e : PyFlat.calls PyVaflxb.shape l.length l with
  | none => rw [e] at h; cases h
  | some cs =>
    rw [e] at h
    have h : (PyFlat.atMost 200 (cs.map PyVaflxb.whole) && VaflxbNeutral.asked (cs.map PyVaflxb.whole)) = true := h
    rw [Bool.and_eq_true] at h
    have h1 : (cs.map PyVaflxb.whole).length ≤ 200 := of_decide_eq_true h.1
    rw [List.length_map] at h1
    have h2 := h.2
    unfold VaflxbNeutral.asked at h2
    rw [Bool.and_eq_true, Bool.and_eq_true, List.all_eq_true, List.all_eq_true] at h2
    exact calls_play l.length 0 200 Vaflxb.start cs (Nat.zero_le _) e h1 (fun c hc => ⟨h2.1.1 _ (List.mem_map.mpr ⟨c, hc, rfl⟩), h2.1.2 _ (List.mem_map.mpr ⟨c, hc, rfl⟩)⟩) ⟨List.nodup_nil, Nat.zero_le _, fun _ h => nomatch h⟩
end Ps
set_option Elab.async false
set_option maxRecDepth 100000
set_option maxHeartbeats 4000000
/-! The end: what the top has written, put together. -/
namespace Ps
open PySem PySem.Spec PyProof.Rows L2 Gd
/-- what answers is asked here -/
def sp_top (K : PySem.W.Frag) : Sp := fun vs H Q _ => ∃ a l, vs = [.ref a] ∧ SqL K H a (l.map V.int) ∧ PyVaflxb.answers_asked l = true ∧ ∀ H' p, H' p = some (.lst ((PyVaflxb.answers l).map V.int)) → Q (.ref p) H'
/-- a def stands under its name -/
def DefAt (K : PySem.W.Frag) (x : Str) (st : Stmt) : Prop := ∃ f fd, PySem.W.nsIn K mainGlobals x = some (some (.ref f)) ∧ Fun K x x st f fd
theorem DefAt.of {K : PySem.W.Frag} {x : Str} {st : Stmt} {f : Addr} {oc : Value} {od an : Option Addr} {osl : Array (Option Value)} {kV doc pm cdv ct : Value} (a : PySem.W.nsIn K mainGlobals x = some (some (.ref f)))
    (l : K.lookup f = some ⟨oc, od, .func (PySem.W.fnOf x x (defArgs st) (defBody st) (defScope st) .none kV doc pm an cdv ct), osl⟩) (c : PySem.W.codeIn K cdv x = true) (k : PySem.W.keepIn K (.ref f) = true) : DefAt K x st := ⟨f, _, a, fun_mk l c k⟩
/-- a class stands under its name, made by its fields -/
def ClsAt (K : PySem.W.Frag) (x q : Str) (st : Stmt) (C : Addr) : Prop := ∃ f fd, PySem.W.nsIn K mainGlobals x = some (some (.ref C)) ∧ Cls K C ∧ Mk K C f ∧ Fun K "__init__" q st f fd
theorem ClsAt.of {K : PySem.W.Frag} {x q : Str} {st : Stmt} {C f : Addr} {oc : Value} {od an : Option Addr} {osl : Array (Option Value)} {kV doc pm cdv ct : Value} (a : PySem.W.nsIn K mainGlobals x = some (some (.ref C)))
    (n : PySem.W.findIn K (.ref C) "__init__" = some (some (.ref f))) (i : PySem.W.isFn K (.ref f) = true)
    (l : K.lookup f = some ⟨oc, od, .func (PySem.W.fnOf "__init__" q (defArgs st) (defBody st) (defScope st) .none kV doc pm an cdv ct), osl⟩) (c : PySem.W.codeIn K cdv q = true) (k : PySem.W.keepIn K (.ref f) = true)
    (pg : PySem.W.plainGet K C Str.empty = true) (hd : PySem.W.hasDictIn K C = true) (po : PySem.W.plainOver K C = true) (sa : PySem.W.findIn K (.ref C) "__setattr__" = some (some (.builtin "object.__setattr__"))) (mk : PySem.W.makesIn K C = true) (kc : PySem.W.keepIn K (.ref C) = true) : ClsAt K x q st C :=
  ⟨f, _, a, ⟨pg, hd, po, sa⟩, ⟨mk, n, i, kc⟩, fun_mk l c k⟩
theorem na_nil {K : PySem.W.Frag} {C : Addr} : ∀ f ∈ ([] : List Str), NoAttr K C f := fun _ h => nomatch h
theorem na_cons {K : PySem.W.Frag} {C : Addr} {g : Str} {r : List Str} (h : PySem.W.findIn K (.ref C) g = some none) (t : ∀ f ∈ r, NoAttr K C f) : ∀ f ∈ g :: r, NoAttr K C f := by
  intro f hf
  cases hf with
  | head => exact h
  | tail _ hf => exact t f hf
/-- a constant stands under its name -/
def ConAt (K : PySem.W.Frag) (x : Str) (v : V) : Prop := ∃ u, PySem.W.nsIn K mainGlobals x = some (some u) ∧ RelV v u
/-- a constant tuple stands under its name -/
def TupAt (K : PySem.W.Frag) (x : Str) (xs : List V) : Prop := ∃ a o its n, PySem.W.nsIn K mainGlobals x = some (some (.ref a)) ∧ K.lookup a = some o ∧ o.cls = .type "tuple" ∧ o.data = .seq its n ∧ its.size ≤ sizeLine ∧ Vals xs its.toList
theorem ConAt.of {K : PySem.W.Frag} {x : Str} {v : V} {u : Value} (a : PySem.W.nsIn K mainGlobals x = some (some u)) (r : RelV v u) : ConAt K x v := ⟨u, a, r⟩
theorem TupAt.of {K : PySem.W.Frag} {x : Str} {xs : List V} {a : Addr} {od : Option Addr} {its : Array Value} {n : Nat} {sl : Array (Option Value)} (e : PySem.W.nsIn K mainGlobals x = some (some (.ref a)))
    (l : K.lookup a = some ⟨.type "tuple", od, .seq its n, sl⟩) (s : its.size ≤ sizeLine) (v : Vals xs its.toList) : TupAt K x xs := ⟨a, _, its, n, e, l, rfl, rfl, s, v⟩
theorem ConAt.gc {K : PySem.W.Frag} {h : Heap} {mg : Str → Option Value} {x : Str} {v : V} (X : K.In h) (G : h.Ns mainGlobals mg) (c : ConAt K x v) : GC mg x v := by
  obtain ⟨u, e, r⟩ := c
  exact ⟨u, PySem.W.mg_of X G e, r⟩
theorem TupAt.gc {K : PySem.W.Frag} {h : Heap} {mg : Str → Option Value} {x : Str} {xs : List V} (X : K.In h) (G : h.Ns mainGlobals mg) (c : TupAt K x xs) : ∃ a, GC mg x (.ref a) ∧ ∀ H, SqT K H a xs := by
  obtain ⟨a, o, its, n, e, l, h1, h2, h3, h4⟩ := c
  exact ⟨a, ⟨_, PySem.W.mg_of X G e, rfl⟩, fun H => .inr ⟨o, its, n, l, h1, h2, h3, h4⟩⟩
theorem all_mk {P : Program} {w : World} {K : PySem.W.Frag} {h : Heap} {mg : Str → Option Value} {fa CP CB CPs CPc CS CC : Addr} (X : K.In h) (G : h.Ns mainGlobals mg) (hfa : mg "answers" = some (.ref fa))
    (d_bytes_of : DefAt K "bytes_of" s_bytes_of)
    (d_is_between : DefAt K "is_between" s_is_between)
    (d_classes_of : DefAt K "classes_of" s_classes_of)
    (d_classes_at : DefAt K "classes_at" s_classes_at)
    (d_ending_at : DefAt K "ending_at" s_ending_at)
    (d_beginning_at : DefAt K "beginning_at" s_beginning_at)
    (d_class_pairs : DefAt K "class_pairs" s_class_pairs)
    (d_borders_of : DefAt K "borders_of" s_borders_of)
    (d_counted_place : DefAt K "counted_place" s_counted_place)
    (d_border_position : DefAt K "border_position" s_border_position)
    (d_border_positions : DefAt K "border_positions" s_border_positions)
    (d_positions_at : DefAt K "positions_at" s_positions_at)
    (d_ahead_key : DefAt K "ahead_key" s_ahead_key)
    (d_position_sets : DefAt K "position_sets" s_position_sets)
    (d_in_order : DefAt K "in_order" s_in_order)
    (d_common : DefAt K "common" s_common)
    (d_place_of : DefAt K "place_of" s_place_of)
    (d_counts_by_place : DefAt K "counts_by_place" s_counts_by_place)
    (d_is_field : DefAt K "is_field" s_is_field)
    (d_texts_told : DefAt K "texts_told" s_texts_told)
    (d_to_capital : DefAt K "to_capital" s_to_capital)
    (d_to_small : DefAt K "to_small" s_to_small)
    (d_turned : DefAt K "turned" s_turned)
    (d_boxes_in : DefAt K "boxes_in" s_boxes_in)
    (d_pieces_for : DefAt K "pieces_for" s_pieces_for)
    (d_common_box : DefAt K "common_box" s_common_box)
    (d_common_pieces : DefAt K "common_pieces" s_common_pieces)
    (d_box_size : DefAt K "box_size" s_box_size)
    (d_size_of : DefAt K "size_of" s_size_of)
    (d_constant_piece : DefAt K "constant_piece" s_constant_piece)
    (d_part_piece : DefAt K "part_piece" s_part_piece)
    (d_cheapest : DefAt K "cheapest" s_cheapest)
    (d_parts_of : DefAt K "parts_of" s_parts_of)
    (d_least_piece : DefAt K "least_piece" s_least_piece)
    (d_all_pieces : DefAt K "all_pieces" s_all_pieces)
    (d_box_has : DefAt K "box_has" s_box_has)
    (d_has_piece : DefAt K "has_piece" s_has_piece)
    (d_add_given : DefAt K "add_given" s_add_given)
    (d_box_gives : DefAt K "box_gives" s_box_gives)
    (d_given : DefAt K "given" s_given)
    (d_next_numbers : DefAt K "next_numbers" s_next_numbers)
    (d_next_row : DefAt K "next_row" s_next_row)
    (d_is_name : DefAt K "is_name" s_is_name)
    (d_is_pieces : DefAt K "is_pieces" s_is_pieces)
    (d_fields_of : DefAt K "fields_of" s_fields_of)
    (d_is_record : DefAt K "is_record" s_is_record)
    (d_hold : DefAt K "hold" s_hold)
    (d_at : DefAt K "at" s_at)
    (d_parts : DefAt K "parts" s_parts)
    (d_meet : DefAt K "meet" s_meet)
    (d_set_size : DefAt K "set_size" s_set_size)
    (d_least_text : DefAt K "least_text" s_least_text)
    (d_least : DefAt K "least" s_least)
    (d_item : DefAt K "item" s_item)
    (d_has : DefAt K "has" s_has)
    (d_list_of : DefAt K "list_of" s_list_of)
    (d_stands : DefAt K "stands" s_stands)
    (d_boxes : DefAt K "boxes" s_boxes)
    (d_side : DefAt K "side" s_side)
    (d_gives : DefAt K "gives" s_gives)
    (d_names : DefAt K "names" s_names)
    (d_asked : DefAt K "asked" s_asked)
    (d_call_of_set : DefAt K "call_of_set" s_call_of_set)
    (d_told_of : DefAt K "told_of" s_told_of)
    (d_one_call : DefAt K "one_call" s_one_call)
    (d_answers : DefAt K "answers" s_answers)
    (k_Position : ClsAt K "Position" "Position.__init__" s_Position CP)
    (n_Position : ∀ f ∈ (["text", "cost", "classes", "from_left", "number"] : List Str), NoAttr K CP f)
    (k_Box : ClsAt K "Box" "Box.__init__" s_Box CB)
    (n_Box : ∀ f ∈ (["field", "case", "left", "right"] : List Str), NoAttr K CB f)
    (k_Pieces : ClsAt K "Pieces" "Pieces.__init__" s_Pieces CPs)
    (n_Pieces : ∀ f ∈ (["constant", "boxes"] : List Str), NoAttr K CPs f)
    (k_Piece : ClsAt K "Piece" "Piece.__init__" s_Piece CPc)
    (n_Piece : ∀ f ∈ (["text", "cost"] : List Str), NoAttr K CPc f)
    (k_Shelf : ClsAt K "Shelf" "Shelf.__init__" s_Shelf CS)
    (n_Shelf : ∀ f ∈ (["held"] : List Str), NoAttr K CS f)
    (k_Calls : ClsAt K "Calls" "Calls.__init__" s_Calls CC)
    (n_Calls : ∀ f ∈ (["numbers", "at"] : List Str), NoAttr K CC f)
    (g_EMPTY : ConAt K "EMPTY" (.str "."))
    (g_BLANK : ConAt K "BLANK" (.int 32))
    (g_LAST_SIGN : ConAt K "LAST_SIGN" (.int 126))
    (g_MOST_BORDER : ConAt K "MOST_BORDER" (.int 40))
    (g_MOST_FIELD : ConAt K "MOST_FIELD" (.int 40))
    (g_END_COST : ConAt K "END_COST" (.int 1))
    (g_PLACE_COST : ConAt K "PLACE_COST" (.int 5))
    (g_CLASS_COST : ConAt K "CLASS_COST" (.int 2))
    (g_MOST_CONSTANT : ConAt K "MOST_CONSTANT" (.int 12))
    (g_QUOTE : ConAt K "QUOTE" (.int 34))
    (g_CASE_STEP : ConAt K "CASE_STEP" (.int 32))
    (g_CONSTANT_COST : ConAt K "CONSTANT_COST" (.int 3))
    (g_BYTE_COST : ConAt K "BYTE_COST" (.int 2))
    (g_PART_COST : ConAt K "PART_COST" (.int 2))
    (g_CASE_COST : ConAt K "CASE_COST" (.int 3))
    (g_NO_NAME : ConAt K "NO_NAME" (.int (-1)))
    (g_NO_SET : ConAt K "NO_SET" (.int (-2)))
    (g_FULL : ConAt K "FULL" (.int (-3)))
    (g_WRONG_SORT : ConAt K "WRONG_SORT" (.int (-4)))
    (g_NO_TEXT : ConAt K "NO_TEXT" (.int (-5)))
    (g_NOT_THERE : ConAt K "NOT_THERE" (.int (-6)))
    (g_TOO_MANY : ConAt K "TOO_MANY" (.int (-7)))
    (g_MOST_SETS : ConAt K "MOST_SETS" (.int 20))
    (g_MOST_NAME : ConAt K "MOST_NAME" (.int 12))
    (g_MOST_FIELDS : ConAt K "MOST_FIELDS" (.int 4))
    (g_MOST_LISTED : ConAt K "MOST_LISTED" (.int 1000))
    (g_MOST_GIVEN : ConAt K "MOST_GIVEN" (.int 100))
    (t_DIGITS : TupAt K "DIGITS" [.int 48, .int 57])
    (t_SMALL : TupAt K "SMALL" [.int 97, .int 122])
    (t_CAPITALS : TupAt K "CAPITALS" [.int 65, .int 90])
    (t_CASES : TupAt K "CASES" [.str "", .str "^", .str "_", .str "~"])
    (z_tuple : PySem.W.nsIn K mainGlobals "tuple" = some none)
    (z_list : PySem.W.nsIn K mainGlobals "list" = some none)
    (z_int : PySem.W.nsIn K mainGlobals "int" = some none)
    (z_str : PySem.W.nsIn K mainGlobals "str" = some none)
    (z_ord : PySem.W.nsIn K mainGlobals "ord" = some none)
    (z_len : PySem.W.nsIn K mainGlobals "len" = some none)
    (z_sum : PySem.W.nsIn K mainGlobals "sum" = some none)
    (z_min : PySem.W.nsIn K mainGlobals "min" = some none)
    (z_all : PySem.W.nsIn K mainGlobals "all" = some none)
    (z_any : PySem.W.nsIn K mainGlobals "any" = some none)
    (z_sorted : PySem.W.nsIn K mainGlobals "sorted" = some none)
    (z_isinstance : PySem.W.nsIn K mainGlobals "isinstance" = some none)
    (z_range : PySem.W.nsIn K mainGlobals "range" = some none)
    (z_enumerate : PySem.W.nsIn K mainGlobals "enumerate" = some none)
    (iP1 : PySem.W.findIn K (.ref CPs) "__class__" = some (some (.builtin "object.__class__")))
    (iP2 : PySem.W.specialIn K (.builtin "object.__class__") "__get__" = some (some (.builtin "getset_descriptor.__get__")))
    (iP3 : PySem.W.takesIn K (.builtin "object.__class__") = some true)
    (iP4 : PySem.W.mroIn K CPs (.type "object") = some true)
    (iP5 : PySem.W.kitOne K (.ref CPs) (.ref CPs) = some true)
    (iP6 : PySem.W.kitOne K (.type "dict") (.ref CPs) = some false) :
    ∃ fd : FuncData, (∀ (s : Shared) (us : List Value), us.length = (["calls"] : List Str).length → BindsTo s fd ⟨us, []⟩ ((["calls"] : List Str).zip us)) ∧ ∀ base : Heap, K.In base → base.Ns mainGlobals mg → FnOk P w K mg base CX0 14 fa fd ["calls"] (sp_top K) := by
  obtain ⟨f_bytes_of, fd_bytes_of, a_bytes_of, F_bytes_of⟩ := d_bytes_of
  obtain ⟨f_is_between, fd_is_between, a_is_between, F_is_between⟩ := d_is_between
  obtain ⟨f_classes_of, fd_classes_of, a_classes_of, F_classes_of⟩ := d_classes_of
  obtain ⟨f_classes_at, fd_classes_at, a_classes_at, F_classes_at⟩ := d_classes_at
  obtain ⟨f_ending_at, fd_ending_at, a_ending_at, F_ending_at⟩ := d_ending_at
  obtain ⟨f_beginning_at, fd_beginning_at, a_beginning_at, F_beginning_at⟩ := d_beginning_at
  obtain ⟨f_class_pairs, fd_class_pairs, a_class_pairs, F_class_pairs⟩ := d_class_pairs
  obtain ⟨f_borders_of, fd_borders_of, a_borders_of, F_borders_of⟩ := d_borders_of
  obtain ⟨f_counted_place, fd_counted_place, a_counted_place, F_counted_place⟩ := d_counted_place
  obtain ⟨f_border_position, fd_border_position, a_border_position, F_border_position⟩ := d_border_position
  obtain ⟨f_border_positions, fd_border_positions, a_border_positions, F_border_positions⟩ := d_border_positions
  obtain ⟨f_positions_at, fd_positions_at, a_positions_at, F_positions_at⟩ := d_positions_at
  obtain ⟨f_ahead_key, fd_ahead_key, a_ahead_key, F_ahead_key⟩ := d_ahead_key
  obtain ⟨f_position_sets, fd_position_sets, a_position_sets, F_position_sets⟩ := d_position_sets
  obtain ⟨f_in_order, fd_in_order, a_in_order, F_in_order⟩ := d_in_order
  obtain ⟨f_common, fd_common, a_common, F_common⟩ := d_common
  obtain ⟨f_place_of, fd_place_of, a_place_of, F_place_of⟩ := d_place_of
  obtain ⟨f_counts_by_place, fd_counts_by_place, a_counts_by_place, F_counts_by_place⟩ := d_counts_by_place
  obtain ⟨f_is_field, fd_is_field, a_is_field, F_is_field⟩ := d_is_field
  obtain ⟨f_texts_told, fd_texts_told, a_texts_told, F_texts_told⟩ := d_texts_told
  obtain ⟨f_to_capital, fd_to_capital, a_to_capital, F_to_capital⟩ := d_to_capital
  obtain ⟨f_to_small, fd_to_small, a_to_small, F_to_small⟩ := d_to_small
  obtain ⟨f_turned, fd_turned, a_turned, F_turned⟩ := d_turned
  obtain ⟨f_boxes_in, fd_boxes_in, a_boxes_in, F_boxes_in⟩ := d_boxes_in
  obtain ⟨f_pieces_for, fd_pieces_for, a_pieces_for, F_pieces_for⟩ := d_pieces_for
  obtain ⟨f_common_box, fd_common_box, a_common_box, F_common_box⟩ := d_common_box
  obtain ⟨f_common_pieces, fd_common_pieces, a_common_pieces, F_common_pieces⟩ := d_common_pieces
  obtain ⟨f_box_size, fd_box_size, a_box_size, F_box_size⟩ := d_box_size
  obtain ⟨f_size_of, fd_size_of, a_size_of, F_size_of⟩ := d_size_of
  obtain ⟨f_constant_piece, fd_constant_piece, a_constant_piece, F_constant_piece⟩ := d_constant_piece
  obtain ⟨f_part_piece, fd_part_piece, a_part_piece, F_part_piece⟩ := d_part_piece
  obtain ⟨f_cheapest, fd_cheapest, a_cheapest, F_cheapest⟩ := d_cheapest
  obtain ⟨f_parts_of, fd_parts_of, a_parts_of, F_parts_of⟩ := d_parts_of
  obtain ⟨f_least_piece, fd_least_piece, a_least_piece, F_least_piece⟩ := d_least_piece
  obtain ⟨f_all_pieces, fd_all_pieces, a_all_pieces, F_all_pieces⟩ := d_all_pieces
  obtain ⟨f_box_has, fd_box_has, a_box_has, F_box_has⟩ := d_box_has
  obtain ⟨f_has_piece, fd_has_piece, a_has_piece, F_has_piece⟩ := d_has_piece
  obtain ⟨f_add_given, fd_add_given, a_add_given, F_add_given⟩ := d_add_given
  obtain ⟨f_box_gives, fd_box_gives, a_box_gives, F_box_gives⟩ := d_box_gives
  obtain ⟨f_given, fd_given, a_given, F_given⟩ := d_given
  obtain ⟨f_next_numbers, fd_next_numbers, a_next_numbers, F_next_numbers⟩ := d_next_numbers
  obtain ⟨f_next_row, fd_next_row, a_next_row, F_next_row⟩ := d_next_row
  obtain ⟨f_is_name, fd_is_name, a_is_name, F_is_name⟩ := d_is_name
  obtain ⟨f_is_pieces, fd_is_pieces, a_is_pieces, F_is_pieces⟩ := d_is_pieces
  obtain ⟨f_fields_of, fd_fields_of, a_fields_of, F_fields_of⟩ := d_fields_of
  obtain ⟨f_is_record, fd_is_record, a_is_record, F_is_record⟩ := d_is_record
  obtain ⟨f_hold, fd_hold, a_hold, F_hold⟩ := d_hold
  obtain ⟨f_at, fd_at, a_at, F_at⟩ := d_at
  obtain ⟨f_parts, fd_parts, a_parts, F_parts⟩ := d_parts
  obtain ⟨f_meet, fd_meet, a_meet, F_meet⟩ := d_meet
  obtain ⟨f_set_size, fd_set_size, a_set_size, F_set_size⟩ := d_set_size
  obtain ⟨f_least_text, fd_least_text, a_least_text, F_least_text⟩ := d_least_text
  obtain ⟨f_least, fd_least, a_least, F_least⟩ := d_least
  obtain ⟨f_item, fd_item, a_item, F_item⟩ := d_item
  obtain ⟨f_has, fd_has, a_has, F_has⟩ := d_has
  obtain ⟨f_list_of, fd_list_of, a_list_of, F_list_of⟩ := d_list_of
  obtain ⟨f_stands, fd_stands, a_stands, F_stands⟩ := d_stands
  obtain ⟨f_boxes, fd_boxes, a_boxes, F_boxes⟩ := d_boxes
  obtain ⟨f_side, fd_side, a_side, F_side⟩ := d_side
  obtain ⟨f_gives, fd_gives, a_gives, F_gives⟩ := d_gives
  obtain ⟨f_names, fd_names, a_names, F_names⟩ := d_names
  obtain ⟨f_asked, fd_asked, a_asked, F_asked⟩ := d_asked
  obtain ⟨f_call_of_set, fd_call_of_set, a_call_of_set, F_call_of_set⟩ := d_call_of_set
  obtain ⟨f_told_of, fd_told_of, a_told_of, F_told_of⟩ := d_told_of
  obtain ⟨f_one_call, fd_one_call, a_one_call, F_one_call⟩ := d_one_call
  obtain ⟨f_answers, fd_answers, a_answers, F_answers⟩ := d_answers
  obtain ⟨f_Position, fd_Position, a_Position, c_Position, M_Position, F_Position⟩ := k_Position
  obtain ⟨f_Box, fd_Box, a_Box, c_Box, M_Box, F_Box⟩ := k_Box
  obtain ⟨f_Pieces, fd_Pieces, a_Pieces, c_Pieces, M_Pieces, F_Pieces⟩ := k_Pieces
  obtain ⟨f_Piece, fd_Piece, a_Piece, c_Piece, M_Piece, F_Piece⟩ := k_Piece
  obtain ⟨f_Shelf, fd_Shelf, a_Shelf, c_Shelf, M_Shelf, F_Shelf⟩ := k_Shelf
  obtain ⟨f_Calls, fd_Calls, a_Calls, c_Calls, M_Calls, F_Calls⟩ := k_Calls
  have T : Txt K mg CP CB CPs CPc CS CC := {
    m_tuple := PySem.W.mg_none_of X G z_tuple,
    m_list := PySem.W.mg_none_of X G z_list,
    m_int := PySem.W.mg_none_of X G z_int,
    m_str := PySem.W.mg_none_of X G z_str,
    m_ord := PySem.W.mg_none_of X G z_ord,
    m_len := PySem.W.mg_none_of X G z_len,
    m_sum := PySem.W.mg_none_of X G z_sum,
    m_min := PySem.W.mg_none_of X G z_min,
    m_all := PySem.W.mg_none_of X G z_all,
    m_any := PySem.W.mg_none_of X G z_any,
    m_sorted := PySem.W.mg_none_of X G z_sorted,
    m_isinstance := PySem.W.mg_none_of X G z_isinstance,
    m_range := PySem.W.mg_none_of X G z_range,
    m_enumerate := PySem.W.mg_none_of X G z_enumerate,
    g_EMPTY := g_EMPTY.gc X G,
    g_BLANK := g_BLANK.gc X G,
    g_LAST_SIGN := g_LAST_SIGN.gc X G,
    g_MOST_BORDER := g_MOST_BORDER.gc X G,
    g_MOST_FIELD := g_MOST_FIELD.gc X G,
    g_END_COST := g_END_COST.gc X G,
    g_PLACE_COST := g_PLACE_COST.gc X G,
    g_CLASS_COST := g_CLASS_COST.gc X G,
    g_MOST_CONSTANT := g_MOST_CONSTANT.gc X G,
    g_QUOTE := g_QUOTE.gc X G,
    g_CASE_STEP := g_CASE_STEP.gc X G,
    g_CONSTANT_COST := g_CONSTANT_COST.gc X G,
    g_BYTE_COST := g_BYTE_COST.gc X G,
    g_PART_COST := g_PART_COST.gc X G,
    g_CASE_COST := g_CASE_COST.gc X G,
    g_NO_NAME := g_NO_NAME.gc X G,
    g_NO_SET := g_NO_SET.gc X G,
    g_FULL := g_FULL.gc X G,
    g_WRONG_SORT := g_WRONG_SORT.gc X G,
    g_NO_TEXT := g_NO_TEXT.gc X G,
    g_NOT_THERE := g_NOT_THERE.gc X G,
    g_TOO_MANY := g_TOO_MANY.gc X G,
    g_MOST_SETS := g_MOST_SETS.gc X G,
    g_MOST_NAME := g_MOST_NAME.gc X G,
    g_MOST_FIELDS := g_MOST_FIELDS.gc X G,
    g_MOST_LISTED := g_MOST_LISTED.gc X G,
    g_MOST_GIVEN := g_MOST_GIVEN.gc X G,
    g_DIGITS := t_DIGITS.gc X G,
    g_SMALL := t_SMALL.gc X G,
    g_CAPITALS := t_CAPITALS.gc X G,
    g_CASES := t_CASES.gc X G,
    c_Pieces := PySem.W.mg_of X G a_Pieces,
    clP := c_Position,
    nP := n_Position,
    clB := c_Box,
    nB := n_Box,
    clPs := c_Pieces,
    nPs := n_Pieces,
    clPc := c_Piece,
    nPc := n_Piece,
    clS := c_Shelf,
    nS := n_Shelf "held" (List.mem_singleton.mpr rfl),
    clC := c_Calls,
    nC := n_Calls,
    iP1 := iP1,
    iP2 := iP2,
    iP3 := iP3,
    iP4 := iP4,
    iP5 := iP5,
    iP6 := iP6 }
  have b_Position := F_Position.binds (ps := ["self", "text", "cost", "classes", "from_left", "number"]) fun _ _ _ _ _ _ us hl => match us, hl with | [_, _, _, _, _, _], _ => rfl
  have b_Box := F_Box.binds (ps := ["self", "field", "case", "left", "right"]) fun _ _ _ _ _ _ us hl => match us, hl with | [_, _, _, _, _], _ => rfl
  have b_Pieces := F_Pieces.binds (ps := ["self", "constant", "boxes"]) fun _ _ _ _ _ _ us hl => match us, hl with | [_, _, _], _ => rfl
  have b_Piece := F_Piece.binds (ps := ["self", "text", "cost"]) fun _ _ _ _ _ _ us hl => match us, hl with | [_, _, _], _ => rfl
  have b_Shelf := F_Shelf.binds (ps := ["self"]) fun _ _ _ _ _ _ us hl => match us, hl with | [_], _ => rfl
  have b_Calls := F_Calls.binds (ps := ["self", "numbers"]) fun _ _ _ _ _ _ us hl => match us, hl with | [_, _], _ => rfl
  have b_bytes_of := F_bytes_of.binds (ps := ["text"]) fun _ _ _ _ _ _ us hl => match us, hl with | [_], _ => rfl
  have b_is_between := F_is_between.binds (ps := ["byte", "bounds"]) fun _ _ _ _ _ _ us hl => match us, hl with | [_, _], _ => rfl
  have b_classes_of := F_classes_of.binds (ps := ["byte"]) fun _ _ _ _ _ _ us hl => match us, hl with | [_], _ => rfl
  have b_classes_at := F_classes_at.binds (ps := ["field", "place"]) fun _ _ _ _ _ _ us hl => match us, hl with | [_, _], _ => rfl
  have b_ending_at := F_ending_at.binds (ps := ["field", "place"]) fun _ _ _ _ _ _ us hl => match us, hl with | [_, _], _ => rfl
  have b_beginning_at := F_beginning_at.binds (ps := ["field", "place"]) fun _ _ _ _ _ _ us hl => match us, hl with | [_, _], _ => rfl
  have b_class_pairs := F_class_pairs.binds (ps := ["field", "place"]) fun _ _ _ _ _ _ us hl => match us, hl with | [_, _], _ => rfl
  have b_borders_of := F_borders_of.binds (ps := ["field"]) fun _ _ _ _ _ _ us hl => match us, hl with | [_], _ => rfl
  have b_counted_place := F_counted_place.binds (ps := ["from_left", "number"]) fun _ _ _ _ _ _ us hl => match us, hl with | [_, _], _ => rfl
  have b_border_position := F_border_position.binds (ps := ["classes", "from_left", "number"]) fun _ _ _ _ _ _ us hl => match us, hl with | [_, _, _], _ => rfl
  have b_border_positions := F_border_positions.binds (ps := ["borders", "place", "classes"]) fun _ _ _ _ _ _ us hl => match us, hl with | [_, _, _], _ => rfl
  have b_positions_at := F_positions_at.binds (ps := ["field", "borders", "place"]) fun _ _ _ _ _ _ us hl => match us, hl with | [_, _, _], _ => rfl
  have b_ahead_key := F_ahead_key.binds (ps := ["one"]) fun _ _ _ _ _ _ us hl => match us, hl with | [_], _ => rfl
  have b_position_sets := F_position_sets.binds (ps := ["field"]) fun _ _ _ _ _ _ us hl => match us, hl with | [_], _ => rfl
  have b_in_order := F_in_order.binds (ps := ["positions"]) fun _ _ _ _ _ _ us hl => match us, hl with | [_], _ => rfl
  have b_common := F_common.binds (ps := ["one", "other"]) fun _ _ _ _ _ _ us hl => match us, hl with | [_, _], _ => rfl
  have b_place_of := F_place_of.binds (ps := ["position", "field", "borders"]) fun _ _ _ _ _ _ us hl => match us, hl with | [_, _, _], _ => rfl
  have b_counts_by_place := F_counts_by_place.binds (ps := ["positions", "field"]) fun _ _ _ _ _ _ us hl => match us, hl with | [_, _], _ => rfl
  have b_is_field := F_is_field.binds (ps := ["row"]) fun _ _ _ _ _ _ us hl => match us, hl with | [_], _ => rfl
  have b_texts_told := F_texts_told.binds (ps := ["texts"]) fun _ _ _ _ _ _ us hl => match us, hl with | [_], _ => rfl
  have b_to_capital := F_to_capital.binds (ps := ["byte"]) fun _ _ _ _ _ _ us hl => match us, hl with | [_], _ => rfl
  have b_to_small := F_to_small.binds (ps := ["byte"]) fun _ _ _ _ _ _ us hl => match us, hl with | [_], _ => rfl
  have b_turned := F_turned.binds (ps := ["row", "case"]) fun _ _ _ _ _ _ us hl => match us, hl with | [_, _], _ => rfl
  have b_boxes_in := F_boxes_in.binds (ps := ["number", "field", "output"]) fun _ _ _ _ _ _ us hl => match us, hl with | [_, _, _], _ => rfl
  have b_pieces_for := F_pieces_for.binds (ps := ["record", "output"]) fun _ _ _ _ _ _ us hl => match us, hl with | [_, _], _ => rfl
  have b_common_box := F_common_box.binds (ps := ["one", "other"]) fun _ _ _ _ _ _ us hl => match us, hl with | [_, _], _ => rfl
  have b_common_pieces := F_common_pieces.binds (ps := ["one", "other"]) fun _ _ _ _ _ _ us hl => match us, hl with | [_, _], _ => rfl
  have b_box_size := F_box_size.binds (ps := ["box"]) fun _ _ _ _ _ _ us hl => match us, hl with | [_], _ => rfl
  have b_size_of := F_size_of.binds (ps := ["pieces"]) fun _ _ _ _ _ _ us hl => match us, hl with | [_], _ => rfl
  have b_constant_piece := F_constant_piece.binds (ps := ["constant"]) fun _ _ _ _ _ _ us hl => match us, hl with | [_], _ => rfl
  have b_part_piece := F_part_piece.binds (ps := ["box", "left", "right"]) fun _ _ _ _ _ _ us hl => match us, hl with | [_, _, _], _ => rfl
  have b_cheapest := F_cheapest.binds (ps := ["positions"]) fun _ _ _ _ _ _ us hl => match us, hl with | [_], _ => rfl
  have b_parts_of := F_parts_of.binds (ps := ["box", "lefts", "rights"]) fun _ _ _ _ _ _ us hl => match us, hl with | [_, _, _], _ => rfl
  have b_least_piece := F_least_piece.binds (ps := ["pieces"]) fun _ _ _ _ _ _ us hl => match us, hl with | [_], _ => rfl
  have b_all_pieces := F_all_pieces.binds (ps := ["pieces"]) fun _ _ _ _ _ _ us hl => match us, hl with | [_], _ => rfl
  have b_box_has := F_box_has.binds (ps := ["box", "text"]) fun _ _ _ _ _ _ us hl => match us, hl with | [_, _], _ => rfl
  have b_has_piece := F_has_piece.binds (ps := ["pieces", "text"]) fun _ _ _ _ _ _ us hl => match us, hl with | [_, _], _ => rfl
  have b_add_given := F_add_given.binds (ps := ["found", "text", "many"]) fun _ _ _ _ _ _ us hl => match us, hl with | [_, _, _], _ => rfl
  have b_box_gives := F_box_gives.binds (ps := ["box", "record", "found"]) fun _ _ _ _ _ _ us hl => match us, hl with | [_, _, _], _ => rfl
  have b_given := F_given.binds (ps := ["pieces", "record"]) fun _ _ _ _ _ _ us hl => match us, hl with | [_, _], _ => rfl
  have b_next_numbers := F_next_numbers.binds (ps := ["calls", "many"]) fun _ _ _ _ _ _ us hl => match us, hl with | [_, _], _ => rfl
  have b_next_row := F_next_row.binds (ps := ["calls"]) fun _ _ _ _ _ _ us hl => match us, hl with | [_], _ => rfl
  have b_is_name := F_is_name.binds (ps := ["row"]) fun _ _ _ _ _ _ us hl => match us, hl with | [_], _ => rfl
  have b_is_pieces := F_is_pieces.binds (ps := ["some"]) fun _ _ _ _ _ _ us hl => match us, hl with | [_], _ => rfl
  have b_fields_of := F_fields_of.binds (ps := ["row"]) fun _ _ _ _ _ _ us hl => match us, hl with | [_], _ => rfl
  have b_is_record := F_is_record.binds (ps := ["fields"]) fun _ _ _ _ _ _ us hl => match us, hl with | [_], _ => rfl
  have b_hold := F_hold.binds (ps := ["shelf", "name", "some"]) fun _ _ _ _ _ _ us hl => match us, hl with | [_, _, _], _ => rfl
  have b_at := F_at.binds (ps := ["shelf", "place", "name", "field"]) fun _ _ _ _ _ _ us hl => match us, hl with | [_, _, _, _], _ => rfl
  have b_parts := F_parts.binds (ps := ["shelf", "name", "output", "fields"]) fun _ _ _ _ _ _ us hl => match us, hl with | [_, _, _, _], _ => rfl
  have b_meet := F_meet.binds (ps := ["shelf", "name", "one", "other"]) fun _ _ _ _ _ _ us hl => match us, hl with | [_, _, _, _], _ => rfl
  have b_set_size := F_set_size.binds (ps := ["some"]) fun _ _ _ _ _ _ us hl => match us, hl with | [_], _ => rfl
  have b_least_text := F_least_text.binds (ps := ["some"]) fun _ _ _ _ _ _ us hl => match us, hl with | [_], _ => rfl
  have b_least := F_least.binds (ps := ["some"]) fun _ _ _ _ _ _ us hl => match us, hl with | [_], _ => rfl
  have b_item := F_item.binds (ps := ["some", "n"]) fun _ _ _ _ _ _ us hl => match us, hl with | [_, _], _ => rfl
  have b_has := F_has.binds (ps := ["some", "text"]) fun _ _ _ _ _ _ us hl => match us, hl with | [_, _], _ => rfl
  have b_list_of := F_list_of.binds (ps := ["some"]) fun _ _ _ _ _ _ us hl => match us, hl with | [_], _ => rfl
  have b_stands := F_stands.binds (ps := ["some", "field"]) fun _ _ _ _ _ _ us hl => match us, hl with | [_, _], _ => rfl
  have b_boxes := F_boxes.binds (ps := ["some"]) fun _ _ _ _ _ _ us hl => match us, hl with | [_], _ => rfl
  have b_side := F_side.binds (ps := ["some", "i", "which"]) fun _ _ _ _ _ _ us hl => match us, hl with | [_, _, _], _ => rfl
  have b_gives := F_gives.binds (ps := ["some", "fields"]) fun _ _ _ _ _ _ us hl => match us, hl with | [_, _], _ => rfl
  have b_names := F_names.binds (ps := ["shelf"]) fun _ _ _ _ _ _ us hl => match us, hl with | [_], _ => rfl
  have b_asked := F_asked.binds (ps := ["shelf", "name"]) fun _ _ _ _ _ _ us hl => match us, hl with | [_, _], _ => rfl
  have b_call_of_set := F_call_of_set.binds (ps := ["shelf", "word", "calls"]) fun _ _ _ _ _ _ us hl => match us, hl with | [_, _, _], _ => rfl
  have b_told_of := F_told_of.binds (ps := ["some", "word", "numbers", "row"]) fun _ _ _ _ _ _ us hl => match us, hl with | [_, _, _, _], _ => rfl
  have b_one_call := F_one_call.binds (ps := ["shelf", "word", "calls"]) fun _ _ _ _ _ _ us hl => match us, hl with | [_, _, _], _ => rfl
  have b_answers := F_answers.binds (ps := ["calls"]) fun _ _ _ _ _ _ us hl => match us, hl with | [_], _ => rfl
  have e := hfa.symm.trans (PySem.W.mg_of X G a_answers)
  cases e
  refine ⟨fd_answers, fun s us hu => ?_, fun base _ _ => ?_⟩
  · obtain ⟨oc, od, kV, doc, pm, an, cdv, ct, osl, rfl, lk, hcd⟩ := F_answers.ex
    exact match us, hu with | [_], _ => .of_eq rfl
  · have N_Position : NewD P w K mg base 1 "Position" CP ["self", "text", "cost", "classes", "from_left", "number"] (spInit CP ["text", "cost", "classes", "from_left", "number"]) := ⟨_, _, M_Position, ok_Position F_Position T, PySem.W.mg_of X G a_Position, b_Position⟩
    have N_Box : NewD P w K mg base 1 "Box" CB ["self", "field", "case", "left", "right"] (spInit CB ["field", "case", "left", "right"]) := ⟨_, _, M_Box, ok_Box F_Box T, PySem.W.mg_of X G a_Box, b_Box⟩
    have N_Pieces : NewD P w K mg base 1 "Pieces" CPs ["self", "constant", "boxes"] (spInit CPs ["constant", "boxes"]) := ⟨_, _, M_Pieces, ok_Pieces F_Pieces T, PySem.W.mg_of X G a_Pieces, b_Pieces⟩
    have N_Piece : NewD P w K mg base 1 "Piece" CPc ["self", "text", "cost"] (spInit CPc ["text", "cost"]) := ⟨_, _, M_Piece, ok_Piece F_Piece T, PySem.W.mg_of X G a_Piece, b_Piece⟩
    have N_Shelf : NewD P w K mg base 1 "Shelf" CS ["self"] (spShelf w CS) := ⟨_, _, M_Shelf, ok_Shelf F_Shelf T, PySem.W.mg_of X G a_Shelf, b_Shelf⟩
    have N_Calls : NewD P w K mg base 1 "Calls" CC ["self", "numbers"] (spCalls CC) := ⟨_, _, M_Calls, ok_Calls F_Calls T, PySem.W.mg_of X G a_Calls, b_Calls⟩
    have C_bytes_of : Def P w K mg base 1 "bytes_of" ["text"] sp_bytes_of := ⟨_, _, ok_bytes_of F_bytes_of T, PySem.W.mg_of X G a_bytes_of, F_bytes_of.kp, b_bytes_of⟩
    have C_is_between : Def P w K mg base 1 "is_between" ["byte", "bounds"] (sp_is_between K) := ⟨_, _, ok_is_between F_is_between, PySem.W.mg_of X G a_is_between, F_is_between.kp, b_is_between⟩
    have C_classes_of : Def P w K mg base 2 "classes_of" ["byte"] (sp_classes_of w K CP CB CPs CPc CS CC) := ⟨_, _, ok_classes_of F_classes_of T C_bytes_of C_is_between, PySem.W.mg_of X G a_classes_of, F_classes_of.kp, b_classes_of⟩
    have C_classes_at : Def P w K mg base 3 "classes_at" ["field", "place"] (sp_classes_at w K CP CB CPs CPc CS CC) := ⟨_, _, ok_classes_at F_classes_at T C_classes_of, PySem.W.mg_of X G a_classes_at, F_classes_at.kp, b_classes_at⟩
    have C_ending_at : Def P w K mg base 4 "ending_at" ["field", "place"] (sp_ending_at w K CP CB CPs CPc CS CC) := ⟨_, _, ok_ending_at F_ending_at T C_bytes_of C_classes_at, PySem.W.mg_of X G a_ending_at, F_ending_at.kp, b_ending_at⟩
    have C_beginning_at : Def P w K mg base 4 "beginning_at" ["field", "place"] (sp_beginning_at w K CP CB CPs CPc CS CC) := ⟨_, _, ok_beginning_at F_beginning_at T C_bytes_of C_classes_at, PySem.W.mg_of X G a_beginning_at, F_beginning_at.kp, b_beginning_at⟩
    have C_class_pairs : Def P w K mg base 5 "class_pairs" ["field", "place"] (sp_class_pairs w K CP CB CPs CPc CS CC) := ⟨_, _, ok_class_pairs F_class_pairs T C_beginning_at C_bytes_of C_ending_at, PySem.W.mg_of X G a_class_pairs, F_class_pairs.kp, b_class_pairs⟩
    have C_borders_of : Def P w K mg base 6 "borders_of" ["field"] (sp_borders_of w K CP CB CPs CPc CS CC) := ⟨_, _, ok_borders_of F_borders_of T C_class_pairs, PySem.W.mg_of X G a_borders_of, F_borders_of.kp, b_borders_of⟩
    have C_counted_place : Def P w K mg base 3 "counted_place" ["from_left", "number"] (sp_counted_place w K CP CB CPs CPc CS CC) := ⟨_, _, ok_counted_place F_counted_place T N_Position C_bytes_of, PySem.W.mg_of X G a_counted_place, F_counted_place.kp, b_counted_place⟩
    have C_border_position : Def P w K mg base 3 "border_position" ["classes", "from_left", "number"] (sp_border_position w K CP CB CPs CPc CS CC) := ⟨_, _, ok_border_position F_border_position T N_Position C_bytes_of, PySem.W.mg_of X G a_border_position, F_border_position.kp, b_border_position⟩
    have C_border_positions : Def P w K mg base 4 "border_positions" ["borders", "place", "classes"] (sp_border_positions w K CP CB CPs CPc CS CC) := ⟨_, _, ok_border_positions F_border_positions T C_border_position, PySem.W.mg_of X G a_border_positions, F_border_positions.kp, b_border_positions⟩
    have C_positions_at : Def P w K mg base 6 "positions_at" ["field", "borders", "place"] (sp_positions_at w K CP CB CPs CPc CS CC) := ⟨_, _, ok_positions_at F_positions_at T C_border_positions C_class_pairs C_counted_place, PySem.W.mg_of X G a_positions_at, F_positions_at.kp, b_positions_at⟩
    have C_ahead_key : Def P w K mg base 1 "ahead_key" ["one"] (sp_ahead_key w K CP CB CPs CPc CS CC) := ⟨_, _, ok_ahead_key F_ahead_key T, PySem.W.mg_of X G a_ahead_key, F_ahead_key.kp, b_ahead_key⟩
    have C_in_order : Def P w K mg base 4 "in_order" ["positions"] (sp_in_order w K CP CB CPs CPc CS CC) := ⟨_, _, ok_in_order F_in_order T C_ahead_key, PySem.W.mg_of X G a_in_order, F_in_order.kp, b_in_order⟩
    have C_position_sets : Def P w K mg base 7 "position_sets" ["field"] (sp_position_sets w K CP CB CPs CPc CS CC) := ⟨_, _, ok_position_sets F_position_sets T C_borders_of C_in_order C_positions_at, PySem.W.mg_of X G a_position_sets, F_position_sets.kp, b_position_sets⟩
    have C_common : Def P w K mg base 1 "common" ["one", "other"] (sp_common w K CP CB CPs CPc CS CC) := ⟨_, _, ok_common F_common T, PySem.W.mg_of X G a_common, F_common.kp, b_common⟩
    have C_place_of : Def P w K mg base 1 "place_of" ["position", "field", "borders"] (sp_place_of w K CP CB CPs CPc CS CC) := ⟨_, _, ok_place_of F_place_of T, PySem.W.mg_of X G a_place_of, F_place_of.kp, b_place_of⟩
    have C_counts_by_place : Def P w K mg base 7 "counts_by_place" ["positions", "field"] (sp_counts_by_place w K CP CB CPs CPc CS CC) := ⟨_, _, ok_counts_by_place F_counts_by_place T C_borders_of C_place_of, PySem.W.mg_of X G a_counts_by_place, F_counts_by_place.kp, b_counts_by_place⟩
    have C_is_field : Def P w K mg base 1 "is_field" ["row"] (sp_is_field w K CP CB CPs CPc CS CC) := ⟨_, _, ok_is_field F_is_field T, PySem.W.mg_of X G a_is_field, F_is_field.kp, b_is_field⟩
    have C_texts_told : Def P w K mg base 1 "texts_told" ["texts"] (sp_texts_told w K CP CB CPs CPc CS CC) := ⟨_, _, ok_texts_told F_texts_told T, PySem.W.mg_of X G a_texts_told, F_texts_told.kp, b_texts_told⟩
    have C_to_capital : Def P w K mg base 2 "to_capital" ["byte"] (sp_to_capital w K CP CB CPs CPc CS CC) := ⟨_, _, ok_to_capital F_to_capital T C_is_between, PySem.W.mg_of X G a_to_capital, F_to_capital.kp, b_to_capital⟩
    have C_to_small : Def P w K mg base 2 "to_small" ["byte"] (sp_to_small w K CP CB CPs CPc CS CC) := ⟨_, _, ok_to_small F_to_small T C_is_between, PySem.W.mg_of X G a_to_small, F_to_small.kp, b_to_small⟩
    have C_turned : Def P w K mg base 3 "turned" ["row", "case"] (sp_turned w K CP CB CPs CPc CS CC) := ⟨_, _, ok_turned F_turned T C_to_capital C_to_small, PySem.W.mg_of X G a_turned, F_turned.kp, b_turned⟩
    have C_boxes_in : Def P w K mg base 8 "boxes_in" ["number", "field", "output"] (sp_boxes_in w K CP CB CPs CPc CS CC) := ⟨_, _, ok_boxes_in F_boxes_in T N_Box C_position_sets C_turned, PySem.W.mg_of X G a_boxes_in, F_boxes_in.kp, b_boxes_in⟩
    have C_pieces_for : Def P w K mg base 9 "pieces_for" ["record", "output"] (sp_pieces_for w K CP CB CPs CPc CS CC) := ⟨_, _, ok_pieces_for F_pieces_for T N_Pieces C_boxes_in, PySem.W.mg_of X G a_pieces_for, F_pieces_for.kp, b_pieces_for⟩
    have C_common_box : Def P w K mg base 3 "common_box" ["one", "other"] (sp_common_box w K CP CB CPs CPc CS CC) := ⟨_, _, ok_common_box F_common_box T N_Box C_common, PySem.W.mg_of X G a_common_box, F_common_box.kp, b_common_box⟩
    have C_common_pieces : Def P w K mg base 4 "common_pieces" ["one", "other"] (sp_common_pieces w K CP CB CPs CPc CS CC) := ⟨_, _, ok_common_pieces F_common_pieces T N_Pieces C_common_box, PySem.W.mg_of X G a_common_pieces, F_common_pieces.kp, b_common_pieces⟩
    have C_box_size : Def P w K mg base 1 "box_size" ["box"] (sp_box_size w K CP CB CPs CPc CS CC) := ⟨_, _, ok_box_size F_box_size T, PySem.W.mg_of X G a_box_size, F_box_size.kp, b_box_size⟩
    have C_size_of : Def P w K mg base 2 "size_of" ["pieces"] (sp_size_of w K CP CB CPs CPc CS CC) := ⟨_, _, ok_size_of F_size_of T C_box_size, PySem.W.mg_of X G a_size_of, F_size_of.kp, b_size_of⟩
    have C_constant_piece : Def P w K mg base 3 "constant_piece" ["constant"] (sp_constant_piece w K CP CB CPs CPc CS CC) := ⟨_, _, ok_constant_piece F_constant_piece T N_Piece, PySem.W.mg_of X G a_constant_piece, F_constant_piece.kp, b_constant_piece⟩
    have C_part_piece : Def P w K mg base 3 "part_piece" ["box", "left", "right"] (sp_part_piece w K CP CB CPs CPc CS CC) := ⟨_, _, ok_part_piece F_part_piece T N_Piece C_bytes_of, PySem.W.mg_of X G a_part_piece, F_part_piece.kp, b_part_piece⟩
    have C_cheapest : Def P w K mg base 1 "cheapest" ["positions"] (sp_cheapest w K CP CB CPs CPc CS CC) := ⟨_, _, ok_cheapest F_cheapest T, PySem.W.mg_of X G a_cheapest, F_cheapest.kp, b_cheapest⟩
    have C_parts_of : Def P w K mg base 4 "parts_of" ["box", "lefts", "rights"] (sp_parts_of w K CP CB CPs CPc CS CC) := ⟨_, _, ok_parts_of F_parts_of T C_part_piece, PySem.W.mg_of X G a_parts_of, F_parts_of.kp, b_parts_of⟩
    have C_least_piece : Def P w K mg base 5 "least_piece" ["pieces"] (sp_least_piece w K CP CB CPs CPc CS CC) := ⟨_, _, ok_least_piece F_least_piece T C_ahead_key C_cheapest C_constant_piece C_parts_of, PySem.W.mg_of X G a_least_piece, F_least_piece.kp, b_least_piece⟩
    have C_all_pieces : Def P w K mg base 5 "all_pieces" ["pieces"] (sp_all_pieces w K CP CB CPs CPc CS CC) := ⟨_, _, ok_all_pieces F_all_pieces T C_ahead_key C_constant_piece C_parts_of, PySem.W.mg_of X G a_all_pieces, F_all_pieces.kp, b_all_pieces⟩
    have C_box_has : Def P w K mg base 2 "box_has" ["box", "text"] (sp_box_has w K CP CB CPs CPc CS CC) := ⟨_, _, ok_box_has F_box_has T C_bytes_of, PySem.W.mg_of X G a_box_has, F_box_has.kp, b_box_has⟩
    have C_has_piece : Def P w K mg base 4 "has_piece" ["pieces", "text"] (sp_has_piece w K CP CB CPs CPc CS CC) := ⟨_, _, ok_has_piece F_has_piece T C_box_has C_constant_piece, PySem.W.mg_of X G a_has_piece, F_has_piece.kp, b_has_piece⟩
    have C_add_given : Def P w K mg base 1 "add_given" ["found", "text", "many"] (sp_add_given w K CP CB CPs CPc CS CC) := ⟨_, _, ok_add_given F_add_given T, PySem.W.mg_of X G a_add_given, F_add_given.kp, b_add_given⟩
    have C_box_gives : Def P w K mg base 8 "box_gives" ["box", "record", "found"] (sp_box_gives w K CP CB CPs CPc CS CC) := ⟨_, _, ok_box_gives F_box_gives T C_add_given C_box_size C_counts_by_place C_turned, PySem.W.mg_of X G a_box_gives, F_box_gives.kp, b_box_gives⟩
    have C_given : Def P w K mg base 9 "given" ["pieces", "record"] (sp_given w K CP CB CPs CPc CS CC) := ⟨_, _, ok_given F_given T C_add_given C_box_gives, PySem.W.mg_of X G a_given, F_given.kp, b_given⟩
    have C_next_numbers : Def P w K mg base 1 "next_numbers" ["calls", "many"] (sp_next_numbers w K CP CB CPs CPc CS CC) := ⟨_, _, ok_next_numbers F_next_numbers T, PySem.W.mg_of X G a_next_numbers, F_next_numbers.kp, b_next_numbers⟩
    have C_next_row : Def P w K mg base 2 "next_row" ["calls"] (sp_next_row w K CP CB CPs CPc CS CC) := ⟨_, _, ok_next_row F_next_row T C_next_numbers, PySem.W.mg_of X G a_next_row, F_next_row.kp, b_next_row⟩
    have C_is_name : Def P w K mg base 2 "is_name" ["row"] (sp_is_name w K CP CB CPs CPc CS CC) := ⟨_, _, ok_is_name F_is_name T C_is_between, PySem.W.mg_of X G a_is_name, F_is_name.kp, b_is_name⟩
    have C_is_pieces : Def P w K mg base 1 "is_pieces" ["some"] (sp_is_pieces w K CP CB CPs CPc CS CC) := ⟨_, _, ok_is_pieces F_is_pieces T, PySem.W.mg_of X G a_is_pieces, F_is_pieces.kp, b_is_pieces⟩
    have C_fields_of : Def P w K mg base 1 "fields_of" ["row"] (sp_fields_of w K CP CB CPs CPc CS CC) := ⟨_, _, ok_fields_of F_fields_of T, PySem.W.mg_of X G a_fields_of, F_fields_of.kp, b_fields_of⟩
    have C_is_record : Def P w K mg base 2 "is_record" ["fields"] (sp_is_record w K CP CB CPs CPc CS CC) := ⟨_, _, ok_is_record F_is_record T C_is_field, PySem.W.mg_of X G a_is_record, F_is_record.kp, b_is_record⟩
    have C_hold : Def P w K mg base 1 "hold" ["shelf", "name", "some"] (sp_hold w K CP CB CPs CPc CS CC) := ⟨_, _, ok_hold F_hold T, PySem.W.mg_of X G a_hold, F_hold.kp, b_hold⟩
    have C_at : Def P w K mg base 8 "at" ["shelf", "place", "name", "field"] (sp_at w K CP CB CPs CPc CS CC) := ⟨_, _, ok_at F_at T C_hold C_is_field C_is_name C_position_sets, PySem.W.mg_of X G a_at, F_at.kp, b_at⟩
    have C_parts : Def P w K mg base 10 "parts" ["shelf", "name", "output", "fields"] (sp_parts w K CP CB CPs CPc CS CC) := ⟨_, _, ok_parts F_parts T C_hold C_is_field C_is_name C_is_record C_pieces_for, PySem.W.mg_of X G a_parts, F_parts.kp, b_parts⟩
    have C_meet : Def P w K mg base 5 "meet" ["shelf", "name", "one", "other"] (sp_meet w K CP CB CPs CPc CS CC) := ⟨_, _, ok_meet F_meet T C_common C_common_pieces C_hold C_is_name C_is_pieces, PySem.W.mg_of X G a_meet, F_meet.kp, b_meet⟩
    have C_set_size : Def P w K mg base 3 "set_size" ["some"] (sp_set_size w K CP CB CPs CPc CS CC) := ⟨_, _, ok_set_size F_set_size T C_is_pieces C_size_of, PySem.W.mg_of X G a_set_size, F_set_size.kp, b_set_size⟩
    have C_least_text : Def P w K mg base 6 "least_text" ["some"] (sp_least_text w K CP CB CPs CPc CS CC) := ⟨_, _, ok_least_text F_least_text T C_is_pieces C_least_piece, PySem.W.mg_of X G a_least_text, F_least_text.kp, b_least_text⟩
    have C_least : Def P w K mg base 7 "least" ["some"] (sp_least w K CP CB CPs CPc CS CC) := ⟨_, _, ok_least F_least T C_least_text, PySem.W.mg_of X G a_least, F_least.kp, b_least⟩
    have C_item : Def P w K mg base 6 "item" ["some", "n"] (sp_item w K CP CB CPs CPc CS CC) := ⟨_, _, ok_item F_item T C_all_pieces C_is_pieces C_set_size, PySem.W.mg_of X G a_item, F_item.kp, b_item⟩
    have C_has : Def P w K mg base 5 "has" ["some", "text"] (sp_has w K CP CB CPs CPc CS CC) := ⟨_, _, ok_has F_has T C_has_piece C_is_pieces, PySem.W.mg_of X G a_has, F_has.kp, b_has⟩
    have C_list_of : Def P w K mg base 2 "list_of" ["some"] (sp_list_of w K CP CB CPs CPc CS CC) := ⟨_, _, ok_list_of F_list_of T C_is_pieces C_texts_told, PySem.W.mg_of X G a_list_of, F_list_of.kp, b_list_of⟩
    have C_stands : Def P w K mg base 8 "stands" ["some", "field"] (sp_stands w K CP CB CPs CPc CS CC) := ⟨_, _, ok_stands F_stands T C_counts_by_place C_is_field C_is_pieces, PySem.W.mg_of X G a_stands, F_stands.kp, b_stands⟩
    have C_boxes : Def P w K mg base 2 "boxes" ["some"] (sp_boxes w K CP CB CPs CPc CS CC) := ⟨_, _, ok_boxes F_boxes T C_is_pieces, PySem.W.mg_of X G a_boxes, F_boxes.kp, b_boxes⟩
    have C_side : Def P w K mg base 2 "side" ["some", "i", "which"] (sp_side w K CP CB CPs CPc CS CC) := ⟨_, _, ok_side F_side T C_is_pieces C_texts_told, PySem.W.mg_of X G a_side, F_side.kp, b_side⟩
    have C_gives : Def P w K mg base 10 "gives" ["some", "fields"] (sp_gives w K CP CB CPs CPc CS CC) := ⟨_, _, ok_gives F_gives T C_given C_is_pieces C_is_record, PySem.W.mg_of X G a_gives, F_gives.kp, b_gives⟩
    have C_names : Def P w K mg base 2 "names" ["shelf"] (sp_names w K CP CB CPs CPc CS CC) := ⟨_, _, ok_names F_names T C_texts_told, PySem.W.mg_of X G a_names, F_names.kp, b_names⟩
    have C_asked : Def P w K mg base 1 "asked" ["shelf", "name"] (sp_asked w K CP CB CPs CPc CS CC) := ⟨_, _, ok_asked F_asked T, PySem.W.mg_of X G a_asked, F_asked.kp, b_asked⟩
    have C_told_of : Def P w K mg base 11 "told_of" ["some", "word", "numbers", "row"] (sp_told_of w K CP CB CPs CPc CS CC) := ⟨_, _, ok_told_of F_told_of T C_boxes C_fields_of C_gives C_has C_item C_least C_list_of C_set_size C_side C_stands, PySem.W.mg_of X G a_told_of, F_told_of.kp, b_told_of⟩
    have C_call_of_set : Def P w K mg base 12 "call_of_set" ["shelf", "word", "calls"] (sp_call_of_set w K CP CB CPs CPc CS CC) := ⟨_, _, ok_call_of_set F_call_of_set T C_asked C_next_numbers C_next_row C_told_of, PySem.W.mg_of X G a_call_of_set, F_call_of_set.kp, b_call_of_set⟩
    have C_one_call : Def P w K mg base 13 "one_call" ["shelf", "word", "calls"] (sp_one_call w K CP CB CPs CPc CS CC) := ⟨_, _, ok_one_call F_one_call T C_at C_call_of_set C_fields_of C_meet C_names C_next_numbers C_next_row C_parts, PySem.W.mg_of X G a_one_call, F_one_call.kp, b_one_call⟩
    exact (ok_answers F_answers T N_Calls N_Shelf C_next_numbers C_one_call).imp fun vs H Q E ⟨a, l, e, hl, hk, k⟩ => ⟨a, l, PyVaflxb.answers l, e, hl, play_all hk, k⟩
end Ps
set_option Elab.async false
set_option maxRecDepth 100000
open PySem PySem.W PyProof.Rows
set_option maxRecDepth 100000 in
set_option maxHeartbeats 0 in
theorem PySem.Challenge.cw_placesets_s01_answers_holds : PySem.Challenge.rw_placesets_s01_answers.Holds := by
  w_on; k_headS; (case hw => exact ⟨[.list [.int 13]], by decide +kernel, by decide +kernel⟩)
  k_fillS
  refine L2.walk_specK (r := PySem.Challenge.rw_placesets_s01_answers) (k := 14) (CX := L2.CX0) (ps := ["calls"]) (sp := Ps.sp_top) (by decide +kernel) rfl rfl ⟨rfl, by decide, by decide⟩ (fun w h Y => PySem.W.kIn_of Y) ?F ?S (fun _ _ _ _ z => z)
  case F =>
    intro w mg fa h Y KX G hmg
    refine' Ps.all_mk KX G hmg ?d_bytes_of ?d_is_between ?d_classes_of ?d_classes_at ?d_ending_at ?d_beginning_at ?d_class_pairs ?d_borders_of ?d_counted_place ?d_border_position ?d_border_positions ?d_positions_at ?d_ahead_key ?d_position_sets ?d_in_order ?d_common ?d_place_of ?d_counts_by_place ?d_is_field ?d_texts_told ?d_to_capital ?d_to_small ?d_turned ?d_boxes_in ?d_pieces_for ?d_common_box ?d_common_pieces ?d_box_size ?d_size_of ?d_constant_piece ?d_part_piece ?d_cheapest ?d_parts_of ?d_least_piece ?d_all_pieces ?d_box_has ?d_has_piece ?d_add_given ?d_box_gives ?d_given ?d_next_numbers ?d_next_row ?d_is_name ?d_is_pieces ?d_fields_of ?d_is_record ?d_hold ?d_at ?d_parts ?d_meet ?d_set_size ?d_least_text ?d_least ?d_item ?d_has ?d_list_of ?d_stands ?d_boxes ?d_side ?d_gives ?d_names ?d_asked ?d_call_of_set ?d_told_of ?d_one_call ?d_answers ?k_Position ?n_Position ?k_Box ?n_Box ?k_Pieces ?n_Pieces ?k_Piece ?n_Piece ?k_Shelf ?n_Shelf ?k_Calls ?n_Calls ?g_EMPTY ?g_BLANK ?g_LAST_SIGN ?g_MOST_BORDER ?g_MOST_FIELD ?g_END_COST ?g_PLACE_COST ?g_CLASS_COST ?g_MOST_CONSTANT ?g_QUOTE ?g_CASE_STEP ?g_CONSTANT_COST ?g_BYTE_COST ?g_PART_COST ?g_CASE_COST ?g_NO_NAME ?g_NO_SET ?g_FULL ?g_WRONG_SORT ?g_NO_TEXT ?g_NOT_THERE ?g_TOO_MANY ?g_MOST_SETS ?g_MOST_NAME ?g_MOST_FIELDS ?g_MOST_LISTED ?g_MOST_GIVEN ?t_DIGITS ?t_SMALL ?t_CAPITALS ?t_CASES ?z_tuple ?z_list ?z_int ?z_str ?z_ord ?z_len ?z_sum ?z_min ?z_all ?z_any ?z_sorted ?z_isinstance ?z_range ?z_enumerate ?iP1 ?iP2 ?iP3 ?iP4 ?iP5 ?iP6
    (case d_bytes_of => refine' Ps.DefAt.of ?a ?l ?c ?k; (case a => k_is); (case l => k_is); (case c => k_is); (case k => k_is))
    (case d_is_between => refine' Ps.DefAt.of ?a ?l ?c ?k; (case a => k_is); (case l => k_is); (case c => k_is); (case k => k_is))
    (case d_classes_of => refine' Ps.DefAt.of ?a ?l ?c ?k; (case a => k_is); (case l => k_is); (case c => k_is); (case k => k_is))
    (case d_classes_at => refine' Ps.DefAt.of ?a ?l ?c ?k; (case a => k_is); (case l => k_is); (case c => k_is); (case k => k_is))
    (case d_ending_at => refine' Ps.DefAt.of ?a ?l ?c ?k; (case a => k_is); (case l => k_is); (case c => k_is); (case k => k_is))
    (case d_beginning_at => refine' Ps.DefAt.of ?a ?l ?c ?k; (case a => k_is); (case l => k_is); (case c => k_is); (case k => k_is))
    (case d_class_pairs => refine' Ps.DefAt.of ?a ?l ?c ?k; (case a => k_is); (case l => k_is); (case c => k_is); (case k => k_is))
    (case d_borders_of => refine' Ps.DefAt.of ?a ?l ?c ?k; (case a => k_is); (case l => k_is); (case c => k_is); (case k => k_is))
    (case d_counted_place => refine' Ps.DefAt.of ?a ?l ?c ?k; (case a => k_is); (case l => k_is); (case c => k_is); (case k => k_is))
    (case d_border_position => refine' Ps.DefAt.of ?a ?l ?c ?k; (case a => k_is); (case l => k_is); (case c => k_is); (case k => k_is))
    (case d_border_positions => refine' Ps.DefAt.of ?a ?l ?c ?k; (case a => k_is); (case l => k_is); (case c => k_is); (case k => k_is))
    (case d_positions_at => refine' Ps.DefAt.of ?a ?l ?c ?k; (case a => k_is); (case l => k_is); (case c => k_is); (case k => k_is))
    (case d_ahead_key => refine' Ps.DefAt.of ?a ?l ?c ?k; (case a => k_is); (case l => k_is); (case c => k_is); (case k => k_is))
    (case d_position_sets => refine' Ps.DefAt.of ?a ?l ?c ?k; (case a => k_is); (case l => k_is); (case c => k_is); (case k => k_is))
    (case d_in_order => refine' Ps.DefAt.of ?a ?l ?c ?k; (case a => k_is); (case l => k_is); (case c => k_is); (case k => k_is))
    (case d_common => refine' Ps.DefAt.of ?a ?l ?c ?k; (case a => k_is); (case l => k_is); (case c => k_is); (case k => k_is))
    (case d_place_of => refine' Ps.DefAt.of ?a ?l ?c ?k; (case a => k_is); (case l => k_is); (case c => k_is); (case k => k_is))
    (case d_counts_by_place => refine' Ps.DefAt.of ?a ?l ?c ?k; (case a => k_is); (case l => k_is); (case c => k_is); (case k => k_is))
    (case d_is_field => refine' Ps.DefAt.of ?a ?l ?c ?k; (case a => k_is); (case l => k_is); (case c => k_is); (case k => k_is))
    (case d_texts_told => refine' Ps.DefAt.of ?a ?l ?c ?k; (case a => k_is); (case l => k_is); (case c => k_is); (case k => k_is))
    (case d_to_capital => refine' Ps.DefAt.of ?a ?l ?c ?k; (case a => k_is); (case l => k_is); (case c => k_is); (case k => k_is))
    (case d_to_small => refine' Ps.DefAt.of ?a ?l ?c ?k; (case a => k_is); (case l => k_is); (case c => k_is); (case k => k_is))
    (case d_turned => refine' Ps.DefAt.of ?a ?l ?c ?k; (case a => k_is); (case l => k_is); (case c => k_is); (case k => k_is))
    (case d_boxes_in => refine' Ps.DefAt.of ?a ?l ?c ?k; (case a => k_is); (case l => k_is); (case c => k_is); (case k => k_is))
    (case d_pieces_for => refine' Ps.DefAt.of ?a ?l ?c ?k; (case a => k_is); (case l => k_is); (case c => k_is); (case k => k_is))
    (case d_common_box => refine' Ps.DefAt.of ?a ?l ?c ?k; (case a => k_is); (case l => k_is); (case c => k_is); (case k => k_is))
    (case d_common_pieces => refine' Ps.DefAt.of ?a ?l ?c ?k; (case a => k_is); (case l => k_is); (case c => k_is); (case k => k_is))
    (case d_box_size => refine' Ps.DefAt.of ?a ?l ?c ?k; (case a => k_is); (case l => k_is); (case c => k_is); (case k => k_is))
    (case d_size_of => refine' Ps.DefAt.of ?a ?l ?c ?k; (case a => k_is); (case l => k_is); (case c => k_is); (case k => k_is))
    (case d_constant_piece => refine' Ps.DefAt.of ?a ?l ?c ?k; (case a => k_is); (case l => k_is); (case c => k_is); (case k => k_is))
    (case d_part_piece => refine' Ps.DefAt.of ?a ?l ?c ?k; (case a => k_is); (case l => k_is); (case c => k_is); (case k => k_is))
    (case d_cheapest => refine' Ps.DefAt.of ?a ?l ?c ?k; (case a => k_is); (case l => k_is); (case c => k_is); (case k => k_is))
    (case d_parts_of => refine' Ps.DefAt.of ?a ?l ?c ?k; (case a => k_is); (case l => k_is); (case c => k_is); (case k => k_is))
    (case d_least_piece => refine' Ps.DefAt.of ?a ?l ?c ?k; (case a => k_is); (case l => k_is); (case c => k_is); (case k => k_is))
    (case d_all_pieces => refine' Ps.DefAt.of ?a ?l ?c ?k; (case a => k_is); (case l => k_is); (case c => k_is); (case k => k_is))
    (case d_box_has => refine' Ps.DefAt.of ?a ?l ?c ?k; (case a => k_is); (case l => k_is); (case c => k_is); (case k => k_is))
    (case d_has_piece => refine' Ps.DefAt.of ?a ?l ?c ?k; (case a => k_is); (case l => k_is); (case c => k_is); (case k => k_is))
    (case d_add_given => refine' Ps.DefAt.of ?a ?l ?c ?k; (case a => k_is); (case l => k_is); (case c => k_is); (case k => k_is))
    (case d_box_gives => refine' Ps.DefAt.of ?a ?l ?c ?k; (case a => k_is); (case l => k_is); (case c => k_is); (case k => k_is))
    (case d_given => refine' Ps.DefAt.of ?a ?l ?c ?k; (case a => k_is); (case l => k_is); (case c => k_is); (case k => k_is))
    (case d_next_numbers => refine' Ps.DefAt.of ?a ?l ?c ?k; (case a => k_is); (case l => k_is); (case c => k_is); (case k => k_is))
    (case d_next_row => refine' Ps.DefAt.of ?a ?l ?c ?k; (case a => k_is); (case l => k_is); (case c => k_is); (case k => k_is))
    (case d_is_name => refine' Ps.DefAt.of ?a ?l ?c ?k; (case a => k_is); (case l => k_is); (case c => k_is); (case k => k_is))
    (case d_is_pieces => refine' Ps.DefAt.of ?a ?l ?c ?k; (case a => k_is); (case l => k_is); (case c => k_is); (case k => k_is))
    (case d_fields_of => refine' Ps.DefAt.of ?a ?l ?c ?k; (case a => k_is); (case l => k_is); (case c => k_is); (case k => k_is))
    (case d_is_record => refine' Ps.DefAt.of ?a ?l ?c ?k; (case a => k_is); (case l => k_is); (case c => k_is); (case k => k_is))
    (case d_hold => refine' Ps.DefAt.of ?a ?l ?c ?k; (case a => k_is); (case l => k_is); (case c => k_is); (case k => k_is))
    (case d_at => refine' Ps.DefAt.of ?a ?l ?c ?k; (case a => k_is); (case l => k_is); (case c => k_is); (case k => k_is))
    (case d_parts => refine' Ps.DefAt.of ?a ?l ?c ?k; (case a => k_is); (case l => k_is); (case c => k_is); (case k => k_is))
    (case d_meet => refine' Ps.DefAt.of ?a ?l ?c ?k; (case a => k_is); (case l => k_is); (case c => k_is); (case k => k_is))
    (case d_set_size => refine' Ps.DefAt.of ?a ?l ?c ?k; (case a => k_is); (case l => k_is); (case c => k_is); (case k => k_is))
    (case d_least_text => refine' Ps.DefAt.of ?a ?l ?c ?k; (case a => k_is); (case l => k_is); (case c => k_is); (case k => k_is))
    (case d_least => refine' Ps.DefAt.of ?a ?l ?c ?k; (case a => k_is); (case l => k_is); (case c => k_is); (case k => k_is))
    (case d_item => refine' Ps.DefAt.of ?a ?l ?c ?k; (case a => k_is); (case l => k_is); (case c => k_is); (case k => k_is))
    (case d_has => refine' Ps.DefAt.of ?a ?l ?c ?k; (case a => k_is); (case l => k_is); (case c => k_is); (case k => k_is))
    (case d_list_of => refine' Ps.DefAt.of ?a ?l ?c ?k; (case a => k_is); (case l => k_is); (case c => k_is); (case k => k_is))
    (case d_stands => refine' Ps.DefAt.of ?a ?l ?c ?k; (case a => k_is); (case l => k_is); (case c => k_is); (case k => k_is))
    (case d_boxes => refine' Ps.DefAt.of ?a ?l ?c ?k; (case a => k_is); (case l => k_is); (case c => k_is); (case k => k_is))
    (case d_side => refine' Ps.DefAt.of ?a ?l ?c ?k; (case a => k_is); (case l => k_is); (case c => k_is); (case k => k_is))
    (case d_gives => refine' Ps.DefAt.of ?a ?l ?c ?k; (case a => k_is); (case l => k_is); (case c => k_is); (case k => k_is))
    (case d_names => refine' Ps.DefAt.of ?a ?l ?c ?k; (case a => k_is); (case l => k_is); (case c => k_is); (case k => k_is))
    (case d_asked => refine' Ps.DefAt.of ?a ?l ?c ?k; (case a => k_is); (case l => k_is); (case c => k_is); (case k => k_is))
    (case d_call_of_set => refine' Ps.DefAt.of ?a ?l ?c ?k; (case a => k_is); (case l => k_is); (case c => k_is); (case k => k_is))
    (case d_told_of => refine' Ps.DefAt.of ?a ?l ?c ?k; (case a => k_is); (case l => k_is); (case c => k_is); (case k => k_is))
    (case d_one_call => refine' Ps.DefAt.of ?a ?l ?c ?k; (case a => k_is); (case l => k_is); (case c => k_is); (case k => k_is))
    (case d_answers => refine' Ps.DefAt.of ?a ?l ?c ?k; (case a => k_is); (case l => k_is); (case c => k_is); (case k => k_is))
    (case k_Position => refine' Ps.ClsAt.of ?a ?n ?i ?l ?c ?k ?pg ?hd ?po ?sa ?mk ?kc; (case a => k_is); (case n => k_is); (case i => k_is); (case l => k_is); (case c => k_is); (case k => k_is); (case pg => k_is); (case hd => k_is); (case po => k_is); (case sa => k_is); (case mk => k_is); (case kc => k_is))
    (case n_Position => refine' Ps.na_cons ?x0 ( Ps.na_cons ?x1 ( Ps.na_cons ?x2 ( Ps.na_cons ?x3 ( Ps.na_cons ?x4 ( Ps.na_nil))))); (case x0 => k_is); (case x1 => k_is); (case x2 => k_is); (case x3 => k_is); (case x4 => k_is))
    (case k_Box => refine' Ps.ClsAt.of ?a ?n ?i ?l ?c ?k ?pg ?hd ?po ?sa ?mk ?kc; (case a => k_is); (case n => k_is); (case i => k_is); (case l => k_is); (case c => k_is); (case k => k_is); (case pg => k_is); (case hd => k_is); (case po => k_is); (case sa => k_is); (case mk => k_is); (case kc => k_is))
    (case n_Box => refine' Ps.na_cons ?x0 ( Ps.na_cons ?x1 ( Ps.na_cons ?x2 ( Ps.na_cons ?x3 ( Ps.na_nil)))); (case x0 => k_is); (case x1 => k_is); (case x2 => k_is); (case x3 => k_is))
    (case k_Pieces => refine' Ps.ClsAt.of ?a ?n ?i ?l ?c ?k ?pg ?hd ?po ?sa ?mk ?kc; (case a => k_is); (case n => k_is); (case i => k_is); (case l => k_is); (case c => k_is); (case k => k_is); (case pg => k_is); (case hd => k_is); (case po => k_is); (case sa => k_is); (case mk => k_is); (case kc => k_is))
    (case n_Pieces => refine' Ps.na_cons ?x0 ( Ps.na_cons ?x1 ( Ps.na_nil)); (case x0 => k_is); (case x1 => k_is))
    (case k_Piece => refine' Ps.ClsAt.of ?a ?n ?i ?l ?c ?k ?pg ?hd ?po ?sa ?mk ?kc; (case a => k_is); (case n => k_is); (case i => k_is); (case l => k_is); (case c => k_is); (case k => k_is); (case pg => k_is); (case hd => k_is); (case po => k_is); (case sa => k_is); (case mk => k_is); (case kc => k_is))
    (case n_Piece => refine' Ps.na_cons ?x0 ( Ps.na_cons ?x1 ( Ps.na_nil)); (case x0 => k_is); (case x1 => k_is))
    (case k_Shelf => refine' Ps.ClsAt.of ?a ?n ?i ?l ?c ?k ?pg ?hd ?po ?sa ?mk ?kc; (case a => k_is); (case n => k_is); (case i => k_is); (case l => k_is); (case c => k_is); (case k => k_is); (case pg => k_is); (case hd => k_is); (case po => k_is); (case sa => k_is); (case mk => k_is); (case kc => k_is))
    (case n_Shelf => refine' Ps.na_cons ?x0 ( Ps.na_nil); (case x0 => k_is))
    (case k_Calls => refine' Ps.ClsAt.of ?a ?n ?i ?l ?c ?k ?pg ?hd ?po ?sa ?mk ?kc; (case a => k_is); (case n => k_is); (case i => k_is); (case l => k_is); (case c => k_is); (case k => k_is); (case pg => k_is); (case hd => k_is); (case po => k_is); (case sa => k_is); (case mk => k_is); (case kc => k_is))
    (case n_Calls => refine' Ps.na_cons ?x0 ( Ps.na_cons ?x1 ( Ps.na_nil)); (case x0 => k_is); (case x1 => k_is))
    (case g_EMPTY => refine' Ps.ConAt.of ?a ?r; (case a => k_is); (case r => exact ⟨_, rfl⟩))
    (case g_BLANK => refine' Ps.ConAt.of ?a ?r; (case a => k_is); (case r => exact ⟨_, rfl⟩))
    (case g_LAST_SIGN => refine' Ps.ConAt.of ?a ?r; (case a => k_is); (case r => exact ⟨_, rfl⟩))
    (case g_MOST_BORDER => refine' Ps.ConAt.of ?a ?r; (case a => k_is); (case r => exact ⟨_, rfl⟩))
    (case g_MOST_FIELD => refine' Ps.ConAt.of ?a ?r; (case a => k_is); (case r => exact ⟨_, rfl⟩))
    (case g_END_COST => refine' Ps.ConAt.of ?a ?r; (case a => k_is); (case r => exact ⟨_, rfl⟩))
    (case g_PLACE_COST => refine' Ps.ConAt.of ?a ?r; (case a => k_is); (case r => exact ⟨_, rfl⟩))
    (case g_CLASS_COST => refine' Ps.ConAt.of ?a ?r; (case a => k_is); (case r => exact ⟨_, rfl⟩))
    (case g_MOST_CONSTANT => refine' Ps.ConAt.of ?a ?r; (case a => k_is); (case r => exact ⟨_, rfl⟩))
    (case g_QUOTE => refine' Ps.ConAt.of ?a ?r; (case a => k_is); (case r => exact ⟨_, rfl⟩))
    (case g_CASE_STEP => refine' Ps.ConAt.of ?a ?r; (case a => k_is); (case r => exact ⟨_, rfl⟩))
    (case g_CONSTANT_COST => refine' Ps.ConAt.of ?a ?r; (case a => k_is); (case r => exact ⟨_, rfl⟩))
    (case g_BYTE_COST => refine' Ps.ConAt.of ?a ?r; (case a => k_is); (case r => exact ⟨_, rfl⟩))
    (case g_PART_COST => refine' Ps.ConAt.of ?a ?r; (case a => k_is); (case r => exact ⟨_, rfl⟩))
    (case g_CASE_COST => refine' Ps.ConAt.of ?a ?r; (case a => k_is); (case r => exact ⟨_, rfl⟩))
    (case g_NO_NAME => refine' Ps.ConAt.of ?a ?r; (case a => k_is); (case r => exact ⟨_, rfl⟩))
    (case g_NO_SET => refine' Ps.ConAt.of ?a ?r; (case a => k_is); (case r => exact ⟨_, rfl⟩))
    (case g_FULL => refine' Ps.ConAt.of ?a ?r; (case a => k_is); (case r => exact ⟨_, rfl⟩))
    (case g_WRONG_SORT => refine' Ps.ConAt.of ?a ?r; (case a => k_is); (case r => exact ⟨_, rfl⟩))
    (case g_NO_TEXT => refine' Ps.ConAt.of ?a ?r; (case a => k_is); (case r => exact ⟨_, rfl⟩))
    (case g_NOT_THERE => refine' Ps.ConAt.of ?a ?r; (case a => k_is); (case r => exact ⟨_, rfl⟩))
    (case g_TOO_MANY => refine' Ps.ConAt.of ?a ?r; (case a => k_is); (case r => exact ⟨_, rfl⟩))
    (case g_MOST_SETS => refine' Ps.ConAt.of ?a ?r; (case a => k_is); (case r => exact ⟨_, rfl⟩))
    (case g_MOST_NAME => refine' Ps.ConAt.of ?a ?r; (case a => k_is); (case r => exact ⟨_, rfl⟩))
    (case g_MOST_FIELDS => refine' Ps.ConAt.of ?a ?r; (case a => k_is); (case r => exact ⟨_, rfl⟩))
    (case g_MOST_LISTED => refine' Ps.ConAt.of ?a ?r; (case a => k_is); (case r => exact ⟨_, rfl⟩))
    (case g_MOST_GIVEN => refine' Ps.ConAt.of ?a ?r; (case a => k_is); (case r => exact ⟨_, rfl⟩))
    (case t_DIGITS => refine' Ps.TupAt.of ?a ?l ?s ?v; (case a => k_is); (case l => k_is); (case s => decide); (case v => exact .cons ⟨_, rfl⟩ ( .cons ⟨_, rfl⟩ ( .nil))))
    (case t_SMALL => refine' Ps.TupAt.of ?a ?l ?s ?v; (case a => k_is); (case l => k_is); (case s => decide); (case v => exact .cons ⟨_, rfl⟩ ( .cons ⟨_, rfl⟩ ( .nil))))
    (case t_CAPITALS => refine' Ps.TupAt.of ?a ?l ?s ?v; (case a => k_is); (case l => k_is); (case s => decide); (case v => exact .cons ⟨_, rfl⟩ ( .cons ⟨_, rfl⟩ ( .nil))))
    (case t_CASES => refine' Ps.TupAt.of ?a ?l ?s ?v; (case a => k_is); (case l => k_is); (case s => decide); (case v => exact .cons ⟨_, rfl⟩ ( .cons ⟨_, rfl⟩ ( .cons ⟨_, rfl⟩ ( .cons ⟨_, rfl⟩ ( .nil))))))
    (case z_tuple => k_is)
    (case z_list => k_is)
    (case z_int => k_is)
    (case z_str => k_is)
    (case z_ord => k_is)
    (case z_len => k_is)
    (case z_sum => k_is)
    (case z_min => k_is)
    (case z_all => k_is)
    (case z_any => k_is)
    (case z_sorted => k_is)
    (case z_isinstance => k_is)
    (case z_range => k_is)
    (case z_enumerate => k_is)
    (case iP1 => k_is)
    (case iP2 => k_is)
    (case iP3 => k_is)
    (case iP4 => k_is)
    (case iP5 => exact if_pos (beq_self_eq_true _))
    (case iP6 => kit_is)
  case S =>
    intro K H xs a hO hwi hask hx
    cases hx with
    | cons h1 h2 =>
      cases h2
      cases h1 with
      | lst hs ha =>
        have e := L2.ints_dw a.1 _ ha
        subst e
        exact ⟨_, a.1, rfl, hs, hask, fun H' p hp => .lst (L2.SqL.of hp) (L2.dw_ints _)⟩
