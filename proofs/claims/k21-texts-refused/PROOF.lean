import PyProof.Rows.All
import Wide.All
import OpenK.AllK
import Wide.FinOn
import HandS.SortRule
import HandS.Dict
import KE.KDictPairs
import HandS.ForMost
import HandS.TupMul
import HandS.More
import HandS.Exc
import HandS.TryOnly
import HandS.TryMany
import HandS.ExcOwn
import HandS.WordsExc
import HandS.IsInst
import HandS.TupAny
import HandS.Deep
import HandS.Style
import HandS.Flow
import HandS.CallSlots
import HandS.RevRange
import HandS.Defaults
import HandS.ExcInit
import HandS.FStr
import HandS.ClsMeth
import HandS.MapSum
import HandS.Words
import HandS.Head0
import HandS.Head1
import HandS.Head2
import HandS.HeadEnd
import HandS.HeadHook1
import HandS.HeadHook2
import HandS.HeadHook3
import HandS.HeadHook4
import HandS.ExcField
import PySem.Challenge.RW_spillrows_k21_texts_refused
import HandS.ExcIs
import HandS.Lambda
import KE.DataFind
import KE.GoesMore
import HandS.HeadWalk
import HandS.Nested
import KE.KDflt
import HandS.ListItems
import KE.KItemsList
import HandS.Text
import KE.IntTextLaws
import HandS.RaiseMore
set_option Elab.async false
set_option linter.all false
set_option maxRecDepth 100000
set_option maxHeartbeats 4000000
/-! sorted(tuple), dict(tuple): of pairs. -/
namespace SR
open PySem PySem.Spec PyProof.Rows L2
section
variable {prog : Program} {w : World} {A : Around} {E : Value → Shared → Prop} {s : Shared}
end
section
variable {X : Cx}
end
end SR

set_option Elab.async false
set_option linter.all false
set_option maxRecDepth 100000
set_option maxHeartbeats 4000000
/-! A dict whose keys are texts and tuples of texts and whole numbers, beside one another. -/
namespace SM
open PySem PySem.Spec PyProof.Rows L2
/-- a key: a text, or a tuple of texts and ints -/
abbrev MKey := Sum Str (List Key)
section
variable (P : Program) (w : World)
def mIs (h : Heap) : MKey → Value → Prop
  | .inl x, v => ∃ t, v = .str x t
  | .inr ks, v => ∃ b, v = .ref b ∧ (tupleKind (mixKind P w)).is h ks b
def mHash : MKey → Int
  | .inl x => hashStr w x
  | .inr ks => (tupleKind (mixKind P w)).hash ks
def mDraws : MKey → Nat
  | .inl _ => 1
  | .inr ks => (tupleKind (mixKind P w)).draws ks
def mEnt (x : MKey × Value × Value) : DictEntry := ⟨mHash P w x.1, x.2.1, x.2.2⟩
/-- the entries xs stand in the dict at d -/
def MDict (h : Heap) (d : Addr) (xs : List (MKey × Value × Value)) : Prop :=
  ∃ ob es ep, h.get? d = some ob ∧ ob.ExactDict ∧ ob.data = .dict es ep ∧ es.toList = xs.map (mEnt P w) ∧ (∀ x ∈ xs, mIs P w h x.1 x.2.1) ∧ (xs.map (·.1)).Nodup
end
section
variable {P : Program} {w : World}
theorem mIs_inj {h : Heap} {v : Value} : ∀ {x y : MKey}, mIs P w h x v → mIs P w h y v → x = y
  | .inl x, .inl y, ⟨t, e⟩, ⟨u, e'⟩ => by
    subst e
    injection e' with e1 _
    rw [e1]
  | .inl x, .inr ks, ⟨t, e⟩, ⟨b, e', _⟩ => by
    subst e
    cases e'
  | .inr ks, .inl x, ⟨b, e', _⟩, ⟨t, e⟩ => by
    subst e
    cases e'
  | .inr ks, .inr js, ⟨b, e, q⟩, ⟨c, e', q'⟩ => by
    subst e
    cases e'
    rw [(tupleKind (mixKind P w)).inj q q']
theorem mIs_keeps {h h' : Heap} {v : Value} {d : Addr} {ob : Obj} {es ep} (ho : h.get? d = some ob) (hd : ob.data = .dict es ep) (hs : Heap.SameBut d h h') : ∀ {k : MKey}, mIs P w h k v → mIs P w h' k v
  | .inl x, q => q
  | .inr ks, ⟨b, e, q⟩ => ⟨b, e, (tupleKind (mixKind P w)).keeps q ho hd hs⟩
theorem mIs_tup {h : Heap} {ks : List Key} {b : Addr} (q : (tupleKind (mixKind P w)).is h ks b) : ∃ its, h.IsTuple b its := by
  obtain ⟨ob, its, n, h1, h2, h3, _⟩ := q
  exact ⟨its, ob, h1, h2, n, h3⟩
section
variable {A : Around} {E : Value → Shared → Prop} {s : Shared}
theorem m_hash {k : MKey} {v : Value} {Q : Int → Shared → Prop} (hu : A.units < cLine) (q : mIs P w s.heap k v) (h : Q (mHash P w k) { s with toks := s.toks + mDraws P w k }) :
    wpAny (model P w) A (pyHash v) Q E s := by
  cases k with
  | inl x =>
    obtain ⟨t, rfl⟩ := q
    exact wpAny_pyHash_str h
  | inr ks =>
    obtain ⟨b, rfl, q⟩ := q
    exact (tupleKind (mixKind P w)).pyHash hu q h
theorem m_eq {x y : MKey} {u v : Value} {Q : Bool → Shared → Prop} (hu : A.units < cLine) (qx : mIs P w s.heap x u) (qy : mIs P w s.heap y v) (h : Q (decide (x = y)) s) :
    wpAny (model P w) A (eqBool u v) Q E s := by
  cases x with
  | inl x =>
    obtain ⟨t, rfl⟩ := qx
    cases y with
    | inl y =>
      obtain ⟨t', rfl⟩ := qy
      refine wpAny_eqBool_str ?_
      rw [← show decide ((Sum.inl x : MKey) = Sum.inl y) = decide (x = y) by
        by_cases e : x = y
        · subst e
          simp
        · rw [decide_eq_false e, decide_eq_false fun z => e (Sum.inl.inj z)]]
      exact h
    | inr ks =>
      obtain ⟨b, rfl, q⟩ := qy
      obtain ⟨its, ht⟩ := mIs_tup q
      rw [decide_eq_false (fun z => nomatch z)] at h
      exact SeqAt.EqAt.str_tuple x t ht hu _ _ _ _ h
  | inr ks =>
    obtain ⟨b, rfl, q⟩ := qx
    cases y with
    | inl y =>
      obtain ⟨t', rfl⟩ := qy
      obtain ⟨its, ht⟩ := mIs_tup q
      rw [decide_eq_false (fun z => nomatch z)] at h
      exact SeqAt.EqAt.tuple_str y t' ht hu _ _ _ _ h
    | inr js =>
      obtain ⟨c, rfl, q'⟩ := qy
      refine (tupleKind (mixKind P w)).eqBool hu q q' ?_
      rw [← show decide ((Sum.inr ks : MKey) = Sum.inr js) = decide (ks = js) by
        by_cases e : ks = js
        · subst e
          simp
        · rw [decide_eq_false e, decide_eq_false fun z => e (Sum.inr.inj z)]]
      exact h
theorem m_quiet {k : MKey} {v : Value} {Q : Bool → Shared → Prop} (q : mIs P w s.heap k v) (h : Q true s) : wpAny (model P w) A (eqIsQuiet 8 v) Q E s := by
  cases k with
  | inl x =>
    obtain ⟨t, rfl⟩ := q
    exact wpAny_pure h
  | inr ks =>
    obtain ⟨b, rfl, q⟩ := q
    exact (tupleKind (mixKind P w)).quiet q h
theorem m_tells {k : MKey} {v : Value} {stored : List Value} {Q : Bool → Shared → Prop} (q : mIs P w s.heap k v) (hst : ∀ z ∈ stored, ∃ k', mIs P w s.heap k' z) (h : Q false s) :
    wpAny (model P w) A (tableMayTell v stored) Q E s := by
  unfold tableMayTell
  split
  · exact wpAny_pure h
  · refine wpAny_bind (m_quiet q ?_)
    simp only [Bool.not_true, Bool.false_eq_true, if_false]
    refine wpAny_bind ?_
    refine wpAny_forIn_list _ (fun more b s1 => s1 = s ∧ b = (none, ()) ∧ ∀ z ∈ more, ∃ k', mIs P w s.heap k' z) _ ?_ ?_ _ _ ⟨rfl, rfl, hst⟩
    · rintro z more b s1 ⟨rfl, rfl, hm⟩
      obtain ⟨k', hk⟩ := hm z List.mem_cons_self
      refine wpAny_bind (m_quiet hk ?_)
      simp only [Bool.not_true, Bool.false_eq_true, if_false]
      exact wpAny_pure ⟨rfl, rfl, fun y hy => hm y (List.mem_cons_of_mem _ hy)⟩
    · rintro b s1 ⟨rfl, rfl, _⟩
      exact wpAny_pure h
theorem m_at {es : Array DictEntry} {xs : List (MKey × Value × Value)} (he : es.toList = xs.map (mEnt P w)) (j : Nat) : es[j]? = (xs[j]?).map (mEnt P w) := by
  rw [← List.getElem?_map, ← he, Array.getElem?_toList]
theorem m_size {es : Array DictEntry} {xs : List (MKey × Value × Value)} (he : es.toList = xs.map (mEnt P w)) : es.size = xs.length := by
  have := congrArg List.length he
  simpa using this
theorem m_uniq {xs : List (MKey × Value × Value)} (hn : (xs.map (·.1)).Nodup) {i j : Nat} {k : MKey} {p q : Value × Value} (hi : xs[i]? = some (k, p)) (hj : xs[j]? = some (k, q)) : i = j := by
  have a : (xs.map (·.1))[i]? = some k := by simp [hi]
  have b : (xs.map (·.1))[j]? = some k := by simp [hj]
  exact nodup_ix' hn a b
where
  nodup_ix' {N : List MKey} (hN : N.Nodup) {i j : Nat} {x : MKey} (a : N[i]? = some x) (b : N[j]? = some x) : i = j := by
    obtain ⟨h1, e1⟩ := List.getElem?_eq_some_iff.mp a
    obtain ⟨h2, e2⟩ := List.getElem?_eq_some_iff.mp b
    exact (List.getElem_inj hN).mp (e1.trans e2.symm)
/-- the places with a hash, from i on -/
abbrev plc (es : Array DictEntry) (hh : Int) (i : Nat) : List Nat := (List.range' i (es.size - i)).filter fun i => (es[i]?.map (·.hash)) == some hh
/-- what a walk over the places ahead of i has seen: nothing of the key, or its one place -/
def Seen (xs : List (MKey × Value × Value)) (k : MKey) (i : Nat) (hit : Option Nat) : Prop :=
  (hit = none ∧ ∀ j p, j < i → xs[j]? ≠ some (k, p)) ∨ ∃ j p, hit = some j ∧ j < i ∧ xs[j]? = some (k, p)
theorem Seen.skip {es : Array DictEntry} {xs : List (MKey × Value × Value)} {k : MKey} {i n : Nat} {hit : Option Nat} (he : es.toList = xs.map (mEnt P w)) (hin : i ≤ n)
    (hs : ∀ j, i ≤ j → j < n → ((es[j]?.map (·.hash)) == some (mHash P w k)) = false) (S : Seen xs k i hit) : Seen xs k n hit := by
  rcases S with ⟨h0, no⟩ | ⟨j, p, h1, hj, hx⟩
  · refine .inl ⟨h0, fun j p hj hx => ?_⟩
    by_cases hji : j < i
    · exact no j p hji hx
    · have z := hs j (by omega) hj
      rw [m_at he j, hx] at z
      simp [mEnt] at z
  · exact .inr ⟨j, p, h1, by omega, hx⟩
theorem Seen.other {xs : List (MKey × Value × Value)} {k k' : MKey} {i : Nat} {p : Value × Value} {hit : Option Nat} (hx : xs[i]? = some (k', p)) (ne : ¬ k' = k) (S : Seen xs k i hit) : Seen xs k (i + 1) hit := by
  rcases S with ⟨h0, no⟩ | ⟨j, p, h1, hj, hy⟩
  · refine .inl ⟨h0, fun j q hj hy => ?_⟩
    by_cases hji : j < i
    · exact no j q hji hy
    · have e : j = i := by omega
      subst e
      rw [hx] at hy
      injection hy with hy
      injection hy with hy
      exact ne hy
  · exact .inr ⟨j, p, h1, by omega, hy⟩
/-- what is at a place of the walk -/
theorem m_turn {es : Array DictEntry} {xs : List (MKey × Value × Value)} {k : MKey} {i x : Nat} {more : List Nat} {hit : Option Nat} (he : es.toList = xs.map (mEnt P w)) (hr : x :: more = plc es (mHash P w k) i) (hi : i ≤ es.size) (S : Seen xs k i hit) :
    ∃ k' p, xs[x]? = some (k', p) ∧ es[x]? = some (mEnt P w (k', p)) ∧ more = plc es (mHash P w k) (x + 1) ∧ x + 1 ≤ es.size ∧ Seen xs k x hit := by
  obtain ⟨h1, h2, h3, h4, h5⟩ := filter_range'_cons _ _ _ _ _ hr.symm
  have lt : x < es.size := by omega
  have lt' : x < xs.length := by rw [← m_size he]; exact lt
  refine ⟨xs[x].1, xs[x].2, by simp [lt'], by rw [m_at he x]; simp [lt'], ?_, lt, S.skip he h1 h4⟩
  rw [h5]
  congr 2
  omega
theorem m_end {es : Array DictEntry} {xs : List (MKey × Value × Value)} {k : MKey} {i : Nat} {hit : Option Nat} (he : es.toList = xs.map (mEnt P w)) (hr : [] = plc es (mHash P w k) i) (hi : i ≤ es.size) (S : Seen xs k i hit) : Seen xs k xs.length hit := by
  rw [← m_size he]
  refine S.skip he hi fun j h1 h2 => ?_
  have := List.filter_eq_nil_iff.mp hr.symm j (List.mem_range'_1.mpr ⟨h1, by omega⟩)
  simpa using this
theorem m_find {d : Addr} {v : Value} {ob : Obj} {es ep} {xs : List (MKey × Value × Value)} {k : MKey} {Q : Option Nat → Shared → Prop} (hu : A.units < cLine) (hkey : mIs P w s.heap k v)
    (ho : s.heap.get? d = some ob) (hd : ob.data = .dict es ep) (he : es.toList = xs.map (mEnt P w)) (his : ∀ x ∈ xs, mIs P w s.heap x.1 x.2.1) (hn : (xs.map (·.1)).Nodup)
    (hmix : ∀ x, k = .inl x → (es.all fun e => isExactStrKey e.key) = false)
    (hnone : (∀ (j : Nat) (p : Value × Value), xs[j]? ≠ some (k, p)) → Q none s) (hsome : ∀ (j : Nat) (p : Value × Value), xs[j]? = some (k, p) → Q (some j) s) :
    wpAny (model P w) A (dictFind d v (mHash P w k)) Q E s := by
  have hmem : ∀ e ∈ es, ∃ x ∈ xs, e = mEnt P w x := fun e hin => by
    have z : e ∈ xs.map (mEnt P w) := he ▸ Array.mem_toList_iff.mpr hin
    obtain ⟨x, hx, rfl⟩ := List.mem_map.mp z
    exact ⟨x, hx, rfl⟩
  have hst : ∀ z ∈ (placesWithHash es.size (fun i => es[i]?.map (·.hash)) (mHash P w k)).filterMap (fun i => es[i]?.map (·.key)), ∃ k', mIs P w s.heap k' z := fun z hz => by
    obtain ⟨i, _, hi⟩ := List.mem_filterMap.mp hz
    cases q : es[i]? with
    | none =>
      rw [q] at hi
      cases hi
    | some e =>
      rw [q] at hi
      obtain rfl : e.key = z := by simpa using hi
      obtain ⟨x, hx, rfl⟩ := hmem e (Array.mem_of_getElem? q)
      exact ⟨x.1, his x hx⟩
  have atx : ∀ {x : Nat} {k' : MKey} {p : Value × Value}, xs[x]? = some (k', p) → mIs P w s.heap k' p.1 := fun {x k' p} hx => his _ (List.mem_of_getElem? hx)
  have pl0 : placesWithHash es.size (fun i => es[i]?.map (·.hash)) (mHash P w k) = plc es (mHash P w k) 0 := by
    rw [placesWithHash, List.range_eq_range']
    rfl
  have S0 : Seen xs k 0 none := .inl ⟨rfl, fun _ _ h => absurd h (Nat.not_lt_zero _)⟩
  have fin : ∀ hit, Seen xs k xs.length hit → Q hit s := fun hit S => by
    rcases S with ⟨rfl, no⟩ | ⟨j, p, rfl, _, hx⟩
    · refine hnone fun j p hx => no j p ?_ hx
      exact (List.getElem?_eq_some_iff.mp hx).1
    · exact hsome j p hx
  have plain : wpAny (model P w) A (dictWalkPlain d v (mHash P w k) es (placesWithHash es.size (fun i => es[i]?.map (·.hash)) (mHash P w k))) Q E s := by
    unfold dictWalkPlain
    rw [pl0]
    refine wpAny_bind ?_
    refine wpAny_forIn_list _ (fun more b s1 => s1 = s ∧ b = (none, ()) ∧ ∃ i, more = plc es (mHash P w k) i ∧ i ≤ es.size ∧ Seen xs k i none) _ ?_ ?_ _ _ ⟨rfl, rfl, 0, rfl, Nat.zero_le _, S0⟩
    · rintro x more b s1 ⟨rfl, rfl, i, hr, hi, S⟩
      obtain ⟨k', p, hx, hex, hm, hle, Sx⟩ := m_turn he hr hi S
      rw [hex]
      dsimp only
      by_cases hh : ((mEnt P w (k', p)).hash == mHash P w k) = true
      · rw [if_pos hh]
        refine wpAny_bind (wpAny_dictEpoch ho hd (wpAny_bind (m_eq (x := k') (y := k) hu (atx hx) hkey (wpAny_bind (wpAny_dictEpoch ho hd ?_)))))
        show wpAny _ _ (if (ep != ep) = true then _ else _) _ E _
        rw [if_neg (by simp)]
        by_cases hkk : k' = k
        · rw [decide_eq_true hkk]
          subst hkk
          exact wpAny_bind (wpAny_rule (wpAny_pure (wpAny_pure (hsome x p hx))))
        · rw [decide_eq_false hkk]
          exact wpAny_bind (wpAny_rule (wpAny_pure ⟨rfl, rfl, x + 1, hm, hle, Sx.other hx hkk⟩))
      · rw [if_neg hh]
        refine wpAny_pure ⟨rfl, rfl, x + 1, hm, hle, Sx.other hx ?_⟩
        intro e
        rw [e] at hh
        simp [mEnt] at hh
    · rintro b s1 ⟨rfl, rfl, i, hr, hi, S⟩
      exact wpAny_pure (fin none (m_end he hr hi S))
  have hany : ∀ a, v = .ref a → ¬ (es.any fun e => e.key == v && e.hash != mHash P w k) = true := by
    rintro a rfl z
    rw [← Array.any_toList, List.any_eq_true] at z
    obtain ⟨e, hin, hc⟩ := z
    obtain ⟨x, hx, rfl⟩ := hmem e (Array.mem_toList_iff.mp hin)
    simp only [mEnt, Bool.and_eq_true, beq_iff_eq, bne_iff_ne, ne_eq] at hc
    have q := his x hx
    rw [hc.1] at q
    exact hc.2 (by rw [mIs_inj q hkey])
  unfold dictFind
  try with_reducible refine wpAny_holding ?_
  refine wpAny_bind (wpAny_dictEntries ho hd ?_)
  cases k
  case' inl x =>
    obtain ⟨t, rfl⟩ := id hkey
    dsimp only
    rw [if_neg (by rw [hmix x rfl]; exact Bool.false_ne_true)]
    by_cases hc : ((Value.str x t :: (placesWithHash es.size (fun i => es[i]?.map (·.hash)) (mHash P w (.inl x))).filterMap (fun i => es[i]?.map (·.key))).all carriedByValue) = true
    · rw [if_pos hc]
      exact plain
    rw [if_neg hc]
    generalize hg : (Sum.inl x : MKey) = kk at *
    by_cases hone : ((placesWithHash es.size (fun i => es[i]?.map (·.hash)) (mHash P w kk)).filterMap (fun i => es[i]?.map (·.key)) == [Value.str x t]) = true
  case' inr ks =>
    obtain ⟨b, rfl, _⟩ := id hkey
    dsimp only
    rw [if_neg (by simp [carriedByValue]), if_neg (hany b rfl)]
    generalize hg : (Sum.inr ks : MKey) = kk at *
    by_cases hone : ((placesWithHash es.size (fun i => es[i]?.map (·.hash)) (mHash P w kk)).filterMap (fun i => es[i]?.map (·.key)) == [Value.ref b]) = true
  all_goals
    (first | rw [if_pos hone] | rw [if_neg hone]) <;> (first | refine wpAny_bind (wpAny_pure ?_) | refine wpAny_bind (m_tells hkey hst ?_)) <;> (
      rw [if_neg (by simp)]
      rw [pl0]
      generalize (List.length _ : Nat) = ln
      refine wpAny_bind ?_
      refine wpAny_forIn_list _ (fun more b s1 => s1 = s ∧ ∃ i hit, b = (none, hit) ∧ more = plc es (mHash P w kk) i ∧ i ≤ es.size ∧ Seen xs kk i hit) _ ?_ ?_ _ _ ⟨rfl, 0, none, rfl, rfl, Nat.zero_le _, S0⟩
      · rintro x more b s1 ⟨rfl, i, hit, rfl, hr, hi, S⟩
        obtain ⟨k', p, hx, hex, hm, hle, Sx⟩ := m_turn he hr hi S
        rw [hex]
        dsimp only
        by_cases hh : ((mEnt P w (k', p)).hash == mHash P w kk) = true
        · rw [if_pos hh]
          refine wpAny_bind (wpAny_dictEpoch ho hd (wpAny_bind (m_eq (x := k') hu (atx hx) hkey (wpAny_bind (wpAny_dictEpoch ho hd ?_)))))
          show wpAny _ _ (if (ep != ep) = true then _ else _) _ E _
          rw [if_neg (by simp)]
          by_cases hkk : k' = kk
          · rw [decide_eq_true hkk]
            subst hkk
            rcases Sx with ⟨rfl, no⟩ | ⟨j, q, _, hj, hy⟩
            · first | rw [if_pos rfl] | skip
              simp only [Option.isSome_none, Bool.false_eq_true, if_false]
              first | refine wpAny_bind (wpAny_pure ?_) | skip
              refine wpAny_bind (wpAny_rule ?_)
              split
              · exact wpAny_pure (wpAny_pure (hsome x p hx))
              · exact wpAny_pure ⟨rfl, x + 1, some x, rfl, hm, hle, .inr ⟨x, p, rfl, Nat.lt_succ_self x, hx⟩⟩
            · exact absurd (m_uniq hn hy hx) (by omega)
          · rw [decide_eq_false hkk]
            simp only [Bool.false_eq_true, if_false]
            refine wpAny_bind (wpAny_rule ?_)
            first | rw [if_neg (by simp)] | skip
            first
              | exact wpAny_pure ⟨rfl, x + 1, hit, rfl, hm, hle, Sx.other hx hkk⟩
              | exact wpAny_bind (wpAny_pure (wpAny_pure ⟨rfl, x + 1, hit, rfl, hm, hle, Sx.other hx hkk⟩))
        · rw [if_neg hh]
          refine wpAny_pure ⟨rfl, x + 1, hit, rfl, hm, hle, Sx.other hx ?_⟩
          intro e
          rw [e] at hh
          simp [mEnt] at hh
      · rintro b s1 ⟨rfl, i, hit, rfl, hr, hi, S⟩
        exact wpAny_pure (fin hit (m_end he hr hi S)))
theorem mDict_type {d : Addr} {xs : List (MKey × Value × Value)} (hm : MDict P w s.heap d xs) : s.TypeIs (.ref d) "dict" := by
  obtain ⟨ob, _, _, h1, h2, _⟩ := hm
  exact ⟨ob, h1, h2.1⟩
/-- a text is asked among tuples too -/
def Mixed (xs : List (MKey × Value × Value)) (k : MKey) : Prop := ∀ x, k = .inl x → ∃ y ∈ xs, ∃ ks, y.1 = .inr ks
theorem mixed_all {h : Heap} {es : Array DictEntry} {xs : List (MKey × Value × Value)} {k : MKey} (he : es.toList = xs.map (mEnt P w)) (his : ∀ x ∈ xs, mIs P w h x.1 x.2.1) (M : Mixed xs k) :
    ∀ x, k = .inl x → (es.all fun e => isExactStrKey e.key) = false := fun x hx => by
  obtain ⟨y, hy, ks, hk⟩ := M x hx
  have q := his y hy
  rw [hk] at q
  obtain ⟨b, hb, _⟩ := q
  rw [← Array.all_toList, List.all_eq_false]
  refine ⟨mEnt P w y, by rw [he]; exact List.mem_map_of_mem hy, ?_⟩
  show ¬ isExactStrKey y.2.1 = true
  rw [hb]
  exact Bool.false_ne_true
/-- the value at a key -/
def mAt (xs : List (MKey × Value × Value)) (k : MKey) : Option Value := (xs.find? fun x => decide (x.1 = k)).map (·.2.2)
theorem mAt_get {xs : List (MKey × Value × Value)} (hn : (xs.map (·.1)).Nodup) {j : Nat} {k : MKey} {p : Value × Value} (hx : xs[j]? = some (k, p)) : mAt xs k = some p.2 := by
  unfold mAt
  cases q : xs.find? fun x => decide (x.1 = k) with
  | none =>
    have z := List.find?_eq_none.mp q _ (List.mem_of_getElem? hx)
    simp at z
  | some y =>
    have h1 : y.1 = k := by simpa using List.find?_some q
    obtain ⟨i, hi⟩ := List.mem_iff_getElem?.mp (List.mem_of_find?_eq_some q)
    have e : i = j := m_uniq hn (k := k) (p := y.2) (by rw [hi, ← h1]) hx
    subst e
    rw [hi] at hx
    cases hx
    rfl
theorem mAt_none {xs : List (MKey × Value × Value)} {k : MKey} (h : ∀ (j : Nat) (p : Value × Value), xs[j]? ≠ some (k, p)) : mAt xs k = none := by
  unfold mAt
  rw [List.find?_eq_none.mpr]
  · rfl
  · intro x hx hk
    obtain ⟨j, hj⟩ := List.mem_iff_getElem?.mp hx
    have hk' : x.1 = k := of_decide_eq_true hk
    exact h j x.2 (by rw [hj, ← hk'])
/-- behind a store -/
def mPut (xs : List (MKey × Value × Value)) (k : MKey) (v u : Value) : List (MKey × Value × Value) :=
  if (mAt xs k).isSome then xs.map (fun x => if x.1 = k then (x.1, x.2.1, u) else x) else xs ++ [(k, v, u)]
theorem m_getItem {d : Addr} {v u : Value} {xs : List (MKey × Value × Value)} {k : MKey} {Q : Value → Shared → Prop} (hu : A.units + 1 < cLine) (hkey : mIs P w s.heap k v) (hm : MDict P w s.heap d xs) (M : Mixed xs k) (hp : mAt xs k = some u)
    (h : Q u { s with toks := s.toks + mDraws P w k }) : wpAny (model P w) A (getItem (.ref d) v) Q E s := by
  have ty := mDict_type hm
  obtain ⟨ob, es, ep, ho, hc, hd, he, his, hn⟩ := hm
  unfold getItem
  try with_reducible refine wpAny_holding ?_
  refine wpAny_bind (wpAny_sequenceKey ty (by decide) ?_)
  refine wpAny_bind (wpAny_callSpecial?_slot (name := Str.ofString "__getitem__") ty slot_dict_getitem (wpAny_call_entry slot_dict_getitem ty entry_dict_getitem ?_ (args_dict_getitem _ _)))
  show wpAny _ _ (dictGet d v >>= _) _ _ s
  have g : wpAny (model P w) A.in1 (dictGet d v) (fun r s1 => r = some u ∧ s1 = { s with toks := s.toks + mDraws P w k }) (fun _ _ => False) s := by
    unfold dictGet
    try with_reducible refine wpAny_holding ?_
    refine wpAny_bind (m_hash (show A.in1.units < cLine from hu) hkey (wpAny_bind (m_find (s := { s with toks := s.toks + mDraws P w k }) (show A.in1.units < cLine from hu) hkey ho hd he his hn (mixed_all he his M) ?_ ?_)))
    · intro no
      rw [mAt_none no] at hp
      cases hp
    · intro j p hx
      rw [mAt_get hn hx] at hp
      cases hp
      refine wpAny_bind (wpAny_dictEntries (s := { s with toks := s.toks + mDraws P w k }) ho hd ?_)
      rw [m_at he j, hx]
      exact wpAny_pure ⟨rfl, rfl⟩
  refine wpAny_bind (wpAny_mono g ?_ fun _ _ z => z.elim)
  rintro r s1 ⟨rfl, rfl⟩
  exact wpAny_pure ⟨u, rfl, wpAny_pure h⟩
theorem m_modify {xs : List (MKey × Value × Value)} {k : MKey} {u : Value} : ∀ {j : Nat} {p : Value × Value}, (xs.map (·.1)).Nodup → xs[j]? = some (k, p) →
    (xs.map (mEnt P w)).modify j (fun e => { e with val := u }) = (xs.map fun x => if x.1 = k then (x.1, x.2.1, u) else x).map (mEnt P w) := by
  induction xs with
  | nil => intro j p _ h; simp at h
  | cons x r ih =>
    intro j p hn hx
    rw [List.map_cons, List.nodup_cons] at hn
    have out : k ∉ r.map (·.1) → (r.map fun x => if x.1 = k then (x.1, x.2.1, u) else x) = r := fun hk => by
      conv => rhs; rw [← List.map_id r]
      refine List.map_congr_left fun y hy => ?_
      rw [if_neg fun e => hk (List.mem_map.mpr ⟨y, hy, e⟩)]
      rfl
    cases j with
    | zero =>
      simp only [List.getElem?_cons_zero, Option.some.injEq] at hx
      subst hx
      rw [List.map_cons, List.map_cons, List.map_cons, out hn.1, if_pos rfl]
      rfl
    | succ j =>
      simp only [List.getElem?_cons_succ] at hx
      have ne : ¬ x.1 = k := fun e => hn.1 (by rw [e]; exact List.mem_map.mpr ⟨(k, p), List.mem_of_getElem? hx, rfl⟩)
      rw [List.map_cons, List.map_cons, List.map_cons, if_neg ne, ← ih hn.2 hx]
      rfl
theorem m_setItem {d : Addr} {v u : Value} {xs : List (MKey × Value × Value)} {k : MKey} {Q : Unit → Shared → Prop} (hu : A.units + 1 < cLine) (hkey : mIs P w s.heap k v) (hm : MDict P w s.heap d xs) (M : Mixed xs k) (hz : xs.length ≤ sizeLine)
    (h : ∀ h', MDict P w h' d (mPut xs k v u) → Heap.SameBut d s.heap h' → Q () { s with heap := h', toks := s.toks + mDraws P w k }) : wpAny (model P w) A (setItem (.ref d) v u) Q E s := by
  have ty := mDict_type hm
  obtain ⟨ob, es, ep, ho, hc, hd, he, his, hn⟩ := hm
  unfold setItem
  try with_reducible refine wpAny_holding ?_
  refine wpAny_bind (wpAny_sequenceKey ty (by decide) ?_)
  refine wpAny_bind (wpAny_callSpecial?_slot (name := Str.ofString "__setitem__") ty slot_dict_setitem (wpAny_call_entry slot_dict_setitem ty entry_dict_setitem ?_ (args_dict_setitem _ _ _)))
  show wpAny _ _ (Builtin.Dict.notOrdered "__setitem__" ⟨[.ref d, v, u], []⟩ >>= _) _ _ s
  refine wpAny_bind (wpAny_notOrdered_dict ty ?_)
  show wpAny _ _ (dictSet d v u >>= _) _ _ s
  refine wpAny_bind (wpAny_mono (Q := fun _ s1 => ∃ h', s1 = { s with heap := h', toks := s.toks + mDraws P w k } ∧ MDict P w h' d (mPut xs k v u) ∧ Heap.SameBut d s.heap h') (E := fun _ _ => False) ?_ ?_ fun _ _ z => z.elim)
  · unfold dictSet
    try with_reducible refine wpAny_holding ?_
    refine wpAny_bind (m_hash (show A.in1.units < cLine from hu) hkey ?_)
    unfold dictSetHashed
    try with_reducible refine wpAny_holding ?_
    refine wpAny_bind (m_find (s := { s with toks := s.toks + mDraws P w k }) (show A.in1.units < cLine from hu) hkey ho hd he his hn (mixed_all he his M) ?_ ?_)
    · intro no
      have e0 : mPut xs k v u = xs ++ [(k, v, u)] := by unfold mPut; rw [mAt_none no]; rfl
      have hnot : k ∉ xs.map (·.1) := fun hk => by
        obtain ⟨x, hx, e⟩ := List.mem_map.mp hk
        obtain ⟨j, hj⟩ := List.mem_iff_getElem?.mp hx
        exact no j x.2 (by rw [hj, ← e])
      refine wpAny_bind (wpAny_rule (wpAny_updateDictKeys (hz := by have e := m_size he; omega) (s := { s with toks := s.toks + mDraws P w k }) ho hd ⟨_, rfl, ⟨_, _, ep + 1, Heap.get?_update_self _ ho (Obj.isFreed_of_dict (Obj.data_mapDictKeys hd _)),
        hc.mapDictKeys _, Obj.data_mapDictKeys hd _, ?_, ?_, ?_⟩, Heap.SameBut.update ..⟩))
      · rw [e0]
        simp [he, mEnt]
      · rw [e0]
        intro x hx
        rcases List.mem_append.mp hx with hx | hx
        · exact mIs_keeps ho hd (Heap.SameBut.update ..) (his x hx)
        · simp only [List.mem_singleton] at hx
          subst hx
          exact mIs_keeps ho hd (Heap.SameBut.update ..) hkey
      · rw [e0, List.map_append, List.nodup_append]
        refine ⟨hn, by simp, ?_⟩
        intro x hx y hy
        simp only [List.map_cons, List.map_nil, List.mem_singleton] at hy
        subst hy
        exact fun e => hnot (e ▸ hx)
    · intro j p hx
      have e0 : mPut xs k v u = xs.map (fun x => if x.1 = k then (x.1, x.2.1, u) else x) := by unfold mPut; rw [mAt_get hn hx]; rfl
      refine wpAny_bind (wpAny_rule (wpAny_bind (wpAny_updateDict (s := { s with toks := s.toks + mDraws P w k }) ho hd (wpAny_point ⟨_, rfl, ⟨_, _, ep, Heap.get?_update_self _ ho (Obj.isFreed_of_dict (Obj.data_mapDict hd _)),
        hc.mapDict _, Obj.data_mapDict hd _, ?_, ?_, ?_⟩, Heap.SameBut.update ..⟩))))
      · rw [e0, ← m_modify hn hx, ← he]
        obtain ⟨l⟩ := es
        simp
      · rw [e0]
        intro x hx
        obtain ⟨y, hy, rfl⟩ := List.mem_map.mp hx
        split <;> exact mIs_keeps ho hd (Heap.SameBut.update ..) (his y hy)
      · rw [e0, List.map_map]
        rw [show ((fun x : MKey × Value × Value => x.1) ∘ fun x => if x.1 = k then (x.1, x.2.1, u) else x) = fun x => x.1 from funext fun x => by
          show (if x.1 = k then (x.1, x.2.1, u) else x).1 = x.1
          split <;> rfl]
        exact hn
  · rintro _ s1 ⟨h', rfl, h1, h2⟩
    exact wpAny_pure ⟨.none, rfl, wpAny_pure (h h' h1 h2)⟩
end
end
/-! ### over the abstract heap -/
section
variable (P : Program) (w : World)
/-- a dict of such keys at d, by its entries -/
def DX (d : Addr) (xs : List (MKey × Value × Value)) : HO := .ext fun h => (d == sysModules) = false ∧ ∃ ob es ep, h.get? d = some ob ∧ ob.ExactDict ∧ ob.data = .dict es ep ∧ es.toList = xs.map (mEnt P w)
def kRel (H : Hp) : MKey → Value → Prop
  | .inl x, v => ∃ t, v = .str x t
  | .inr ks, v => ∃ b, v = .ref b ∧ H b = some (.tup (ks.map kV))
abbrev MPair (H : Hp) : List (MKey × V) → List (MKey × Value × Value) → Prop := Paired fun p q => p.1 = q.1 ∧ kRel H p.1 q.2.1 ∧ RelV p.2 q.2.2
/-- the dict at d holds the pairs kvs -/
def DM (H : Hp) (d : Addr) (kvs : List (MKey × V)) : Prop := ∃ xs, H d = some (DX P w d xs) ∧ MPair H kvs xs ∧ (kvs.map (·.1)).Nodup
end
/-- a value that is a key -/
def mKey (H : Hp) : MKey → V → Prop
  | .inl x, v => v = .str x
  | .inr ks, v => ∃ b, v = .ref b ∧ H b = some (.tup (ks.map kV))
/-- a text is asked only where a tuple is a key, too -/
def MixK (kvs : List (MKey × V)) (k : MKey) : Prop := ∀ x, k = .inl x → ∃ y ∈ kvs, ∃ ks, y.1 = .inr ks
section
variable {P : Program} {w : World} {H H' : Hp} {d : Addr} {kvs : List (MKey × V)} {xs : List (MKey × Value × Value)}
theorem MPair.keys (r : MPair H kvs xs) : kvs.map (·.1) = xs.map (·.1) := by
  induction r with
  | nil => rfl
  | cons h t ih => rw [List.map_cons, List.map_cons, ih, h.1]
theorem MPair.len (r : MPair H kvs xs) : kvs.length = xs.length := by
  have := congrArg List.length r.keys
  simpa using this
theorem kRel.mono (ht : ∀ b ys, H b = some (.tup ys) → H' b = some (.tup ys)) {v : Value} : ∀ {k : MKey}, kRel H k v → kRel H' k v
  | .inl _, q => q
  | .inr _, ⟨b, e, q⟩ => ⟨b, e, ht _ _ q⟩
theorem MPair.mono (ht : ∀ b ys, H b = some (.tup ys) → H' b = some (.tup ys)) (r : MPair H kvs xs) : MPair H' kvs xs :=
  Paired.mapP r fun _ _ z => ⟨z.1, kRel.mono ht z.2.1, z.2.2⟩
theorem DM.mono (e : ∀ b o, H b = some o → H' b = some o) (r : DM P w H d kvs) : DM P w H' d kvs := by
  obtain ⟨xs, h1, h2, h3⟩ := r
  exact ⟨xs, e _ _ h1, h2.mono fun b ys q => e _ _ q, h3⟩
theorem DM.live (r : DM P w H d kvs) : ∃ o, H d = some o := let ⟨_, h, _⟩ := r; ⟨_, h⟩
theorem mixK_of (r : MPair H kvs xs) {k : MKey} (M : MixK kvs k) : Mixed xs k := fun x hx => by
  obtain ⟨y, hy, ks, hk⟩ := M x hx
  have : Sum.inr ks ∈ xs.map (·.1) := by
    rw [← r.keys, ← hk]
    exact List.mem_map_of_mem hy
  obtain ⟨z, hz, e⟩ := List.mem_map.mp this
  exact ⟨z, hz, ks, e⟩
theorem mVal (r : MPair H kvs xs) (k : MKey) : RelO (valV kvs k) (mAt xs k) := by
  induction r with
  | nil => trivial
  | @cons p q l m h t ih =>
    by_cases e : p.1 = k
    · rw [valV_pos e]
      have e' : q.1 = k := h.1 ▸ e
      unfold mAt
      rw [List.find?_cons, decide_eq_true e']
      exact h.2.2
    · rw [valV_neg e]
      have e' : ¬ q.1 = k := h.1 ▸ e
      unfold mAt
      rw [List.find?_cons, decide_eq_false e']
      exact ih
theorem mPutP (r : MPair H kvs xs) {k : MKey} {v : Value} {y : V} {u : Value} (hk : kRel H k v) (ry : RelV y u) : MPair H (putK kvs k y) (mPut xs k v u) := by
  have ea : (kvs.any fun kv => decide (kv.1 = k)) = (mAt xs k).isSome := by
    rw [valV_any, (mVal r k).isSome_eq]
  unfold putK mPut
  rw [ea]
  split
  · rename_i hs
    clear ea hs
    induction r with
    | nil => exact .nil
    | @cons p q l m h t ih =>
      rw [List.map_cons, List.map_cons]
      refine .cons ?_ ih
      by_cases e : p.1 = k
      · rw [if_pos e, if_pos (h.1 ▸ e)]
        exact ⟨h.1, h.2.1, ry⟩
      · rw [if_neg e, if_neg (h.1 ▸ e)]
        exact h
  · exact append r (.cons ⟨rfl, hk, ry⟩ .nil)
where
  append : ∀ {a b : List (MKey × V)} {c e : List (MKey × Value × Value)}, MPair H a c → MPair H b e → MPair H (a ++ b) (c ++ e)
    | _, _, _, _, .nil, s => s
    | _, _, _, _, .cons r t, s => .cons r (append t s)
theorem nodup_putK {k : MKey} {y : V} (hn : (kvs.map (·.1)).Nodup) : ((putK kvs k y).map (·.1)).Nodup := by
  unfold putK
  split
  · rw [List.map_map, show ((fun x : MKey × V => x.1) ∘ fun kv => if kv.1 = k then (kv.1, y) else kv) = fun x => x.1 from funext fun x => by
      show (if x.1 = k then (x.1, y) else x).1 = x.1
      split <;> rfl]
    exact hn
  · rename_i h
    rw [List.map_append, List.nodup_append]
    refine ⟨hn, by simp, ?_⟩
    intro x hx z hz e
    simp only [List.map_cons, List.map_nil, List.mem_singleton] at hz
    subst hz
    obtain ⟨p, hp, e'⟩ := List.mem_map.mp hx
    exact h (List.any_eq_true.mpr ⟨p, hp, decide_eq_true (e'.trans e)⟩)
end
section
variable {X : Cx} {pins : List (Addr × Obj)} {σ : L2.St} {H : Hp} {s : Shared}
theorem kRel_is (I : Inv X pins σ H s) {v : Value} : ∀ {k : MKey}, kRel H k v → mIs X.prog X.w s.heap k v
  | .inl _, q => q
  | .inr _, ⟨b, e, q⟩ => ⟨b, e, key_of I.hok q⟩
theorem key_rel {k : MKey} {y : V} {v : Value} (h : mKey H k y) (r : RelV y v) : kRel H k v := by
  cases k with
  | inl x =>
    have h' : y = .str x := h
    subst h'
    exact r
  | inr ks =>
    obtain ⟨b, rfl, q⟩ := h
    exact ⟨b, r, q⟩
theorem pair_is (I : Inv X pins σ H s) {kvs : List (MKey × V)} {xs : List (MKey × Value × Value)} (r : MPair H kvs xs) : ∀ x ∈ xs, mIs X.prog X.w s.heap x.1 x.2.1 := by
  induction r with
  | nil => intro x hx; cases hx
  | @cons p q l m h t ih =>
    intro x hx
    rcases List.mem_cons.mp hx with rfl | hx
    · have := kRel_is I h.2.1
      rw [← h.1]
      exact this
    · exact ih x hx
theorem dm_at (I : Inv X pins σ H s) {d : Addr} {kvs : List (MKey × V)} {xs : List (MKey × Value × Value)} (e : H d = some (DX X.prog X.w d xs)) (r : MPair H kvs xs) (hn : (kvs.map (·.1)).Nodup) : (d == sysModules) = false ∧ MDict X.prog X.w s.heap d xs := by
  obtain ⟨⟨h0, ob, es, ep, h1, h2, h3, h4⟩, _, _⟩ := I.hok d _ e
  exact ⟨h0, ob, es, ep, h1, h2, h3, h4, pair_is I r, by rw [← r.keys]; exact hn⟩
/-- a subscript of a dict, by values -/
theorem ix_fin {value slice : PySem.Expr} {d : Addr} {u : Value} {Q : VK} (ty : s.TypeIs (.ref d) "dict") (hs : subscripted slice false (.ref d) u = operate [.ref d, u] (getItem (.ref d) u))
    (g : wpAny (model X.prog X.w) X.A (getItem (.ref d) u) (EP X pins σ Q) X.xe s) : wpAny (model X.prog X.w) X.A (subscriptTail value slice (.ref d) u) (EP X pins σ Q) X.xe s := by
  have last : wpAny (model X.prog X.w) X.A (subscripted slice false (.ref d) u) (fun r s1 => wpAny (model X.prog X.w) X.A (letTemporaryGo value (.ref d) r >>= fun _ => pure r) (EP X pins σ Q) X.xe s1) X.xe s := by
    rw [hs]
    refine wpAny_operating (thn g fun r s1 z => ?_)
    exact wpAny_bind (wpAny_letTemporaryGo (wpAny_pure z))
  unfold subscriptTail
  refine wpAny_bind ?_
  rw [getitemInPython_of_ne ty.not_modules]
  refine wpAny_bind (wpAny_specialOf ty PySem.F.slot_dict_getitem.lookup ?_)
  first
    | exact wpAny_bind (wpAny_pure (wpAny_bind last))
    | exact wpAny_pure (wpAny_bind last)
    | exact wpAny_bind last
/-- d[k] -/
def rIxM (P : Program) (w : World) : R2 := fun x y H Q => ∃ d kvs k v, x = .ref d ∧ DM P w H d kvs ∧ mKey H k y ∧ MixK kvs k ∧ valV kvs k = some v ∧ Q v H
theorem ix_mix (hu : X.A.units + 1 < cLine) : IxR X (rIxM X.prog X.w) := by
  intro value slice pins s σ H x y v u Q I rx ry h hs
  obtain ⟨d, kvs, k, z, rfl, ⟨xs, hd, hp, hn⟩, hk, M, hv, q⟩ := h
  cases rx
  obtain ⟨_, hm⟩ := dm_at I hd hp hn
  obtain ⟨w', hw, rw'⟩ := RelO.some_of (v := z) (o := mAt xs k) (by rw [← hv]; exact mVal hp k)
  exact ix_fin (mDict_type hm) hs (m_getItem hu (kRel_is I (key_rel hk ry)) hm (mixK_of hp M) hw ⟨z, H, I.tok _, rw', q⟩)
/-- d[k] of a dict of ints and texts, or of tuples -/
def rIxD : R2 := fun x y H Q => ∃ a v, x = .ref a ∧ DGet H a y (some v) ∧ Q v H
theorem ix_dict (hu : X.A.units + 1 < cLine) : IxR X rIxD := by
  intro value slice pins s σ H x y v u Q I rx ry h hs
  obtain ⟨a, z, rfl, g, q⟩ := h
  cases rx
  exact ix_fin (dict_typeIs I g) hs (d_getItem hu I g ry fun w' s3 I3 rw' => ⟨z, H, I3, rw', q⟩)
/-- d[k] = v -/
def rSetM (P : Program) (w : World) : TSet := fun o i v H Q => ∃ d kvs k, o = .ref d ∧ DM P w H d kvs ∧ mKey H k i ∧ MixK kvs k ∧ kvs.length ≤ 100000 ∧
  ∀ H', (∀ b u, b ≠ d → H b = some u → H' b = some u) → (∀ b, b ≠ d → H b = none → H' b = none) → DM P w H' d (putK kvs k v) → Q H'
theorem mut_dx {P : Program} {w : World} {d : Addr} {xs : List (MKey × Value × Value)} (h : H d = some (DX P w d xs)) : Mut (H d) := by
  rw [h]
  trivial
theorem dx_ok {P : Program} {w : World} {H' : Hp} {h' : Heap} {d : Addr} {xs : List (MKey × Value × Value)} (h0 : (d == sysModules) = false) (m : MDict P w h' d xs) : ObjOk P w H' h' d (DX P w d xs) := by
  obtain ⟨ob, es, ep, h1, h2, h3, h4, _⟩ := m
  refine ⟨⟨h0, ob, es, ep, h1, h2, h3, h4⟩, ⟨ob, h1⟩, ?_⟩
  rintro g1 g2 ⟨_, ob, es, ep, a, b, c, d⟩ k
  exact ⟨h0, ob, es, ep, k _ a, b, c, d⟩
theorem set_mix (hu : X.A.units + 1 < cLine) : PSet X (rSetM X.prog X.w) := by
  intro pins s σ H o i v ov iv u Q I ro ri rv h
  obtain ⟨d, kvs, k, rfl, ⟨xs, hd, hp, hn⟩, hk, M, hz, q⟩ := h
  cases ro
  obtain ⟨h0, hm⟩ := dm_at I hd hp hn
  have hl := hp.len
  have hz2 : xs.length ≤ sizeLine := by
    have : (100000 : Nat) ≤ sizeLine := by decide
    omega
  have hk' := key_rel hk ri
  refine m_setItem (u := u) hu (kRel_is I hk') hm (mixK_of hp M) hz2 fun h' m sb => ?_
  have he : ∃ z, h'.get? d = some z := by
    obtain ⟨ob, _, _, h1, _⟩ := m
    exact ⟨ob, h1⟩
  refine ⟨upd H d (DX X.prog X.w d (mPut xs k iv u)), d_write I (mut_dx hd) sb he (dx_ok h0 m), ?_⟩
  have tp : ∀ b ys, H b = some (.tup ys) → (upd H d (DX X.prog X.w d (mPut xs k iv u))) b = some (.tup ys) := fun b ys e => by
    rw [upd_ne (ne_of e hd (by intro z; cases z))]
    exact e
  exact q _ (fun b o hb e => by rw [upd_ne hb]; exact e) (fun b hb e => by rw [upd_ne hb]; exact e) ⟨_, upd_same, (mPutP hp hk' rv).mono tp, nodup_putK hn⟩
end
end SM

set_option Elab.async false
set_option linter.all false
set_option maxRecDepth 100000
set_option maxHeartbeats 4000000
/-! A tuple times a number that is 1 at the most. -/
namespace SR
open PySem PySem.Spec PyProof.Rows L2
theorem tup_one (l : Addr) (its : Array Value) (n : Nat) (dd : Option Addr) (sl : Array (Option Value)) (u : Tok) :
    Meets (Builtin.«tuple.__mul__» ⟨[.ref l, .int 1 u], []⟩) (fun _ R s => s.heap.get? l = some { cls := .type "tuple", dict := dd, data := .seq its n, slots := sl } ∧ R (.ok (.ret (Value.ref l))) s) :=
  .of_wp fun prog w A R s h => by
    obtain ⟨hh, gg, d1, t1, o1⟩ := s
    obtain ⟨hl, h⟩ := h
    have f1 := AutoSeq1.idx_int
    wp_walk using wpAny_loadPart' hl
    exact ⟨_, rfl, h⟩
theorem tup_nil (l : Addr) (its : Array Value) (n : Nat) (dd : Option Addr) (sl : Array (Option Value)) (x : Int) (u : Tok) (c0 : (decide (x < -(2 ^ 63)) || decide (x ≥ 2 ^ 63)) = false) (c1 : (its.isEmpty || x == 1) = false) (c2 : (decide (x ≤ 0) || its.isEmpty) = true) :
    Meets (Builtin.«tuple.__mul__» ⟨[.ref l, .int x u], []⟩) (fun _ R s => s.heap.get? l = some { cls := .type "tuple", dict := dd, data := .seq its n, slots := sl } ∧ R (.ok (.ret (Value.ref s.heap.objs.size))) { s with heap := s.heap.push { cls := .type "tuple", data := .seq #[] } }) :=
  .of_wp fun prog w A R s h => by
    obtain ⟨hh, gg, d1, t1, o1⟩ := s
    obtain ⟨hl, h⟩ := h
    have f1 := AutoSeq1.idx_int
    wp_walk using wpAny_loadPart' hl
    refine wpAny_ite_false (decide_eq_false fun z => Bool.false_ne_true (c0.symm.trans z)) ?_
    wp_walk using wpAny_loadPart' hl
    exact ⟨_, rfl, h⟩
/-! ### new tuples: plain ones, or ones of which it is told that they have no dict -/
def NewT (H : Hp) (xs : List V) (Q : VK) : Prop := (∀ p, H p = none → Q (.ref p) (upd H p (.tup xs))) ∨ (∀ p o, o.dict = none → H p = none → Q (.ref p) (upd H p (.frz o (.tup xs))))
section
variable {X : Cx} {pins : List (Addr × Obj)} {σ : L2.St} {H : Hp} {s : Shared}
theorem newT {h' : Heap} {a : Addr} {xs : List V} {its : List Value} {t' : Nat} {Q : VK} {ob : Obj} (I : Inv X pins σ H s) (k : ∀ b u, s.heap.get? b = some u → h'.get? b = some u) (hp : s.heap.objs.size ≤ a) (e : h'.get? a = some ob) (hc : ob.cls = .type "tuple") (hd : ob.dict = none)
    (hs : ∃ n, ob.data = .seq its.toArray n) (r : Vals xs its) (z : xs.length ≤ sizeLine) (q : NewT H xs Q) : ∃ u H', Inv X pins σ H' { s with heap := h', toks := t' } ∧ RelV u (.ref a) ∧ Q u H' := by
  have f := I.hok.fresh hp
  rcases q with q | q
  · exact ⟨.ref a, upd H a (.tup xs), I.laid (t' := t') k hp ⟨z, its, r, ob, e, hc, hs⟩, rfl, q _ f⟩
  · exact ⟨.ref a, upd H a (.frz ob (.tup xs)), I.laid (t' := t') k hp ⟨e, z, its, r, ob, e, hc, hs⟩, rfl, q _ _ hd f⟩
end
/-- k is 1: the tuple itself; less: an empty one -/
def rRepS (K : PySem.W.Frag) : R2 := fun x y H Q => ∃ l k xs, x = .ref l ∧ y = .int k ∧ SqT K H l xs ∧ xs ≠ [] ∧ -1000 ≤ k ∧ ((k = 1 ∧ Q (.ref l) H) ∨ (k ≤ 0 ∧ NewT H [] Q))
theorem op_repS {X : Cx} : OpR X (binaryOp .Mult) (rRepS X.K) := by
  intro pins s σ H x y v u Q I rx ry h
  obtain ⟨l, k, xs, rfl, rfl, hT, hne, hk, h⟩ := h
  cases rx
  obtain ⟨t, rfl⟩ := ry
  obtain ⟨its, r, ⟨⟨cls, dd, data, sl⟩, ho, hc, n, hd⟩, hs⟩ := I.tuple hT
  simp only at hc hd
  subst hc hd
  have hi : its.toArray.isEmpty = false := by
    cases its with
    | nil =>
      cases r
      exact absurd rfl hne
    | cons a b => rfl
  have go : wpAny (model X.prog X.w) X.A (call (.builtin "tuple.__mul__") [.ref l, .int k t]) (EP X pins σ Q) X.xe s → wpAny (model X.prog X.w) X.A (binaryOp .Mult (.ref l) (.int k t)) (EP X pins σ Q) X.xe s := fun hm =>
    wpAny_binaryOp_repeat_ref (T := "tuple") (U := "int") (by decide) ⟨_, ho, rfl⟩ (fun s' => typeIs_int s' k t) noFill_tuple_mul F.fills_int_mul F.slot_int_rmul repeat_tuple F.slot_int_index.lookup
      (call_meets F.slot_int_rmul (typeIs_int s k t) F.entry_int_rmul (F.args_int_rmul_2 _ _) (int_rmul_tuple k t l its.toArray n dd sl) ⟨ho, rfl, ⟨_, ho, rfl⟩, hm⟩)
  rcases h with ⟨rfl, q⟩ | ⟨h0, q⟩
  · exact go (call_meets F.slot_tuple_mul ⟨_, ho, rfl⟩ F.entry_tuple_mul (F.args_tuple_mul_2 _ _) (tup_one l its.toArray n dd sl t) ⟨ho, .ref l, H, I, rfl, q⟩)
  · refine go (call_meets F.slot_tuple_mul ⟨_, ho, rfl⟩ F.entry_tuple_mul (F.args_tuple_mul_2 _ _) (tup_nil l its.toArray n dd sl k t ?_ ?_ ?_) ⟨ho, ?_⟩)
    · rw [decide_eq_false (by omega), decide_eq_false (by omega)]
      rfl
    · rw [hi, Bool.false_or]
      exact beq_eq_false_iff_ne.mpr (by omega)
    · rw [decide_eq_true h0]
      rfl
    · exact newT (t' := s.toks) (its := []) I (fun b ob q => Heap.get?_push_of_some _ q) (Nat.le_refl _) (Heap.get?_push_size _ rfl) rfl rfl ⟨_, rfl⟩ .nil (by simp) q
end SR

set_option Elab.async false
set_option linter.all false
set_option maxRecDepth 100000
set_option maxHeartbeats 4000000
/-! Rules that serve an operation whatever its operands are: the reading tells which. -/
namespace SR
open PySem PySem.Spec PyProof.Rows L2 SM
section
variable {X : Cx} {pins : List (Addr × Obj)} {σ : L2.St} {H : Hp} {s : Shared}
def tTupB (t : TA) : TE := fun σ H Q => t σ H fun xs H1 => xs.length ≤ sizeLine ∧ NewT H1 xs Q
theorem pe_tupB {es : List Expr} {t : TA} {pos : Pos} {x1} (h : PA X es t) : PE X (.Tuple es x1 pos) (tTupB t) := by
  refine ⟨fun pins s σ H Q I hq => ?_⟩
  refine wpAny_Tuple_spliced (thn (h.run pos pins s σ H _ I hq) fun us s1 ⟨xs, H1, I1, r, z, q⟩ => ⟨by rw [← r.length]; exact z, ?_⟩)
  exact newT (t' := s1.toks) I1 (fun b u e => Heap.get?_push_of_some _ e) (Nat.le_refl _) (Heap.get?_push_size _ rfl) rfl rfl ⟨_, rfl⟩ r z q
def rTupU (K : PySem.W.Frag) : List V → Hp → VK → Prop := fun xs H Q => ∃ p ys, xs = [.ref p] ∧ ((SqL K H p ys ∧ NewT H ys Q) ∨ (SqT K H p ys ∧ Q (.ref p) H))
theorem call_tupU : CallR X (.type "tuple") (rTupU X.K) := by
  intro pins s σ H xs us Q I r h
  obtain ⟨p, ys, rfl, h⟩ := h
  obtain ⟨u, rfl, rx⟩ := vals1 r
  cases rx
  rcases h with ⟨hq, q⟩ | ⟨hq, q⟩
  · obtain ⟨its, r', pl, hz⟩ := I.list hq
    have hlen := r'.length
    refine call_tuple_list pl.isList (fun h' kp => ?_) (by simp only [List.size_toArray] <;> omega)
    have I1 : Inv X pins σ H { s with heap := h' } := I.kept (t' := s.toks) kp
    exact newT (s := { s with heap := h' }) (h' := h'.push { cls := .type "tuple", data := .seq its.toArray }) (a := h'.objs.size) (t' := s.toks) I1 (fun b o e => Heap.get?_push_of_some _ e) (Nat.le_refl _) (Heap.get?_push_size _ rfl) rfl rfl ⟨_, rfl⟩ r' hz q
  · obtain ⟨its, r', pl, hz⟩ := I.tuple hq
    exact call_tuple_same pl ⟨.ref p, H, I, rfl, q⟩
def rCatB (K : PySem.W.Frag) : R2 := fun x y H Q => ∃ a b xs ys, x = .ref a ∧ y = .ref b ∧ SqT K H a xs ∧ SqT K H b ys ∧ xs.length + ys.length ≤ sizeLine ∧
  (xs = [] → Q (.ref b) H) ∧ (xs ≠ [] → ys = [] → Q (.ref a) H) ∧ (xs ≠ [] → ys ≠ [] → NewT H (xs ++ ys) Q)
theorem op_catB : OpR X (binaryOp .Add) (rCatB X.K) := by
  intro pins s σ H x y v u Q I rx ry h
  obtain ⟨a, b, xs, ys, rfl, rfl, ha, hb, hz, q0, q1, q2⟩ := h
  by_cases hx : xs = []
  · subst hx
    exact op_catA pins s σ H _ _ v u Q I rx ry ⟨a, b, [], ys, rfl, rfl, ha, hb, hz, q0, q1, fun z => absurd rfl z⟩
  · cases rx
    cases ry
    obtain ⟨its, r1, p1, _⟩ := I.tuple ha
    obtain ⟨its2, r2, p2, _⟩ := I.tuple hb
    refine HT.cat_tup p1 p2 (fun z => hx (r1.nil_iff.mp z)) (fun z => ⟨.ref a, H, I, rfl, q1 hx (r2.nil_iff.mp z)⟩) (fun z => ?_) (by rw [← r1.length, ← r2.length]; exact hz)
    exact newT (t' := s.toks) I (fun b ob q => Heap.get?_push_of_some _ q) (Nat.le_refl _) (Heap.get?_push_size _ rfl) rfl rfl ⟨_, rfl⟩ (r1.append r2) (by rw [List.length_append]; exact hz) (q2 hx fun w => z (r2.nil_iff.mpr w))
def rSlB (K : PySem.W.Frag) : V → Option Int → Option Int → Hp → VK → Prop := fun x lo hi H Q => ∃ a xs, x = .ref a ∧ SqT K H a xs ∧
  (HT.sIx xs.length 0 lo = 0 ∧ HT.sIx xs.length xs.length hi = xs.length → Q (.ref a) H) ∧ (¬ (HT.sIx xs.length 0 lo = 0 ∧ HT.sIx xs.length xs.length hi = xs.length) → NewT H (cutV xs lo hi) Q)
theorem sl_tupB : SlR X (rSlB X.K) := by
  intro pins s σ H x v vl vu lo hi sl Q I rx hs pl pu h
  obtain ⟨a, xs, rfl, hx, q1, q2⟩ := h
  by_cases hw : HT.sIx xs.length 0 lo = 0 ∧ HT.sIx xs.length xs.length hi = xs.length
  · exact sl_tupA pins s σ H _ v vl vu lo hi sl Q I rx hs pl pu ⟨a, xs, rfl, hx, q1, fun z => absurd hw z⟩
  · cases rx
    obtain ⟨its, r, ht, hz⟩ := I.tuple hx
    have hlen : its.toArray.size = xs.length := by rw [List.size_toArray]; exact r.length.symm
    refine ⟨"tuple", _, PyProof.Rows.slot_tuple_getitem.lookup, ht.typeIs, ?_⟩
    refine HT.getItem_tuple_cut ht hs pl pu (by rw [hlen]; exact hw) ?_ (by rw [hlen]; exact hz)
    rw [hlen]
    exact newT (t' := s.toks) I (fun b ob q => Heap.get?_push_of_some _ q) (Nat.le_refl _) (Heap.get?_push_size _ rfl) rfl rfl ⟨_, rfl⟩ ((r.drop (HT.sIx xs.length 0 lo)).take (HT.sIx xs.length xs.length hi - HT.sIx xs.length 0 lo)) (Nat.le_trans (cutV_length xs lo hi) hz) (q2 hw)
end
section
variable {X : Cx}
def rAddI : R2 := rI0 fun i j => .int (i + j)
def rSubI : R2 := rI0 fun i j => .int (i - j)
def rAddS : R2 := fun x y H Q => ∃ i j, x = .str i ∧ y = .str j ∧ i.length + j.length ≤ sizeLine ∧ Q (.str (i ++ j)) H
/-- a + b: two ints, texts, lists, tuples -/
def rAddU (K : PySem.W.Frag) : R2 := fun x y H Q => rAddI x y H Q ∨ rAddS x y H Q ∨ rCat x y H Q ∨ rCatB K x y H Q
theorem op_addU : OpR X (binaryOp .Add) (rAddU X.K) := op_add.or (op_add_str.or (op_cat.or op_catB))
/-- a * b: two ints, a list and an int -/
def rMulU (K : PySem.W.Frag) : R2 := fun x y H Q => rI CMul (fun i j => .int (i * j)) x y H Q ∨ rRep x y H Q ∨ rRepT K x y H Q ∨ rRepS K x y H Q
theorem op_mulU : OpR X (binaryOp .Mult) (rMulU X.K) := op_mul.or (op_rep.or (op_repT.or op_repS))
def rModI : R2 := rI (fun _ j => 0 < j) fun i j => .int (i % j)
def rDivI : R2 := rI CDiv fun i j => .int (i / j)
def rPowI : R2 := rI CPow fun i j => .int (i ^ j.toNat)
def rLtI : R2 := rI0 fun i j => .bl (decide (i < j))
def rLeI : R2 := rI0 fun i j => .bl (decide (i ≤ j))
def rGtI : R2 := rI0 fun i j => .bl (decide (j < i))
def rGeI : R2 := rI0 fun i j => .bl (decide (j ≤ i))
def rNegI : V → Hp → VK → Prop := rU fun i => .int (-i)
def rIsNone : R2 := fun x y H Q => y = .non ∧ Q (.bl (decide (x = .non))) H
def rNotNone : R2 := fun x y H Q => y = .non ∧ Q (.bl (!decide (x = .non))) H
/-- a[i]: of a list, a tuple, a text, a dict -/
def rIxU (P : Program) (w : World) (K : PySem.W.Frag) : R2 := fun x y H Q => rIx K x y H Q ∨ rIxD x y H Q ∨ rIxM P w x y H Q
theorem ix_u (hu : X.A.units + 1 < cLine) : IxR X (rIxU X.prog X.w X.K) := ix_seq.or ((ix_dict hu).or (ix_mix hu))
/-- a[i:j]: of a list, a tuple, a text -/
def rSlS : V → Option Int → Option Int → Hp → VK → Prop := fun x lo hi H Q => ∃ z, x = .str z ∧ z.length ≤ sizeLine ∧ Q (.str (cutS z lo hi)) H
def rSlU (K : PySem.W.Frag) : V → Option Int → Option Int → Hp → VK → Prop := fun x lo hi H Q => rSlL K x lo hi H Q ∨ rSlB K x lo hi H Q ∨ rSlS x lo hi H Q
theorem sl_u : SlR X (rSlU X.K) := sl_list.or (sl_tupB.or sl_str)
def rLenU (K : PySem.W.Frag) : List V → Hp → VK → Prop := fun xs H Q => ∃ x n, xs = [x] ∧ LenV K x H n ∧ Q (.int (n : Nat)) H
def rListU (K : PySem.W.Frag) : List V → Hp → VK → Prop := fun xs H Q => ∃ p ys, xs = [.ref p] ∧ (SqL K H p ys ∨ SqT K H p ys) ∧ ∀ l, H l = none → Q (.ref l) (upd H l (.lst ys))
def rIntU : List V → Hp → VK → Prop := fun xs H Q => (∃ i, xs = [.int i] ∧ Q (.int i) H) ∨ ∃ k, xs = [.bl k] ∧ Q (.int (if k then 1 else 0)) H
theorem call_lenU : CallR X (.builtin "len") (rLenU X.K) := call_len
theorem call_listU : CallR X (.type "list") (rListU X.K) := call_list_of
theorem call_intU : CallR X (.type "int") rIntU := call_int1
/-- isinstance(x, T), isinstance(x, (T, U)) -/
def rIsU (K : PySem.W.Frag) : List V → Hp → VK → Prop := fun xs H Q => rIsi K xs H Q ∨ rIsiT K xs H Q
theorem call_isU : CallR X (.builtin "isinstance") (rIsU X.K) := call_isi.or call_isiT
end
end SR

set_option Elab.async false
set_option linter.all false
set_option maxRecDepth 100000
set_option maxHeartbeats 4000000
/-! Rules by bundles of facts: defs, methods, classes, constants of the text. -/
namespace SR
open PySem PySem.Spec PyProof.Rows L2 SM
/-- a def of the text keeps its promise -/
structure Gf (P : Program) (w : World) (K : PySem.W.Frag) (mg : Str → Option Value) (base : Heap) (k : Nat) (x : Str) (ps : List Str) (sp : Sp) : Prop where
  ex : ∃ f fd, mg x = some (.ref f) ∧ PySem.W.keepIn K (.ref f) = true ∧ Binds K fd ps [] ∧ FnOk P w K mg base (L2.CX P w) k f fd ps sp
/-- a method -/
structure Mf (P : Program) (w : World) (K : PySem.W.Frag) (mg : Str → Option Value) (base : Heap) (k : Nat) (C : Addr) (m : Str) (ps : List Str) (sp : Sp) : Prop where
  ex : ∃ f fd, Meth K C m f ∧ Binds K fd ps [] ∧ FnOk P w K mg base (L2.CX P w) k f fd ps sp
  cl : Cls K C
/-- a class is called: its __init__ -/
structure Kf (P : Program) (w : World) (K : PySem.W.Frag) (mg : Str → Option Value) (base : Heap) (k : Nat) (C : Addr) (x : Str) (ps : List Str) (sp : Sp) : Prop where
  ex : ∃ f fd, Mk K C f ∧ mg x = some (.ref C) ∧ Binds K fd ps [] ∧ FnOk P w K mg base (L2.CX P w) k f fd ps sp
/-- the built-in names are the built-ins' -/
structure Nb (mg : Str → Option Value) : Prop where
  len : mg "len" = none
  range : mg "range" = none
  enumerate : mg "enumerate" = none
  list : mg "list" = none
  tuple : mg "tuple" = none
  dict : mg "dict" = none
  int : mg "int" = none
  str : mg "str" = none
  bool : mg "bool" = none
  isinstance : mg "isinstance" = none
  min : mg "min" = none
  max : mg "max" = none
  sum : mg "sum" = none
  sorted : mg "sorted" = none
  reversed : mg "reversed" = none
  set : mg "set" = none
  ValueError : mg "ValueError" = none
/-- an exception class without an __init__ of its own -/
structure Xc (K : PySem.W.Frag) (mg : Str → Option Value) (x : Str) (C : Addr) : Prop where
  g : mg x = some (.ref C)
  x : PySem.W.excIn K C [.type "ValueError", .type "Exception", .type "BaseException", .type "object"] "ValueError.__new__" = true
  k : PySem.W.keepIn K (.ref C) = true
  b : PySem.W.subIn K (.ref C) (.type "BaseException") = some true
  t : PySem.W.typeIn K (.ref C) = some (.type "type")
section
variable {X : Cx} {k : Nat} {x m : Str} {ps : List Str} {sp : Sp} {E : XK} {C : Addr} {e o : Expr} {es : List Expr} {t : TA} {ta : TE} {p pos apos : Pos}
theorem pe_gf (G : Gf X.prog X.w X.K X.mg X.base k x ps sp) (hr : Room k X.A) (hx : Passes (L2.CX X.prog X.w) X E) (ha : PA X (e :: es) t) (hg : Gl X x := by rfl) (hdb : (x == ("__debug__" : Str)) = false := by decide)
    (he : starEach (e :: es) X.env = (false, eval e X.env) :: starEach es X.env := by rfl) (hpl : (backTo pos (starEach es X.env)).any (·.1) = false := by rfl) : PE X (.Call (.Name x p) (e :: es) [] pos) (tCall sp [] E t) := by
  obtain ⟨f, fd, h1, h2, h3, h4⟩ := G.ex
  exact pe_call h4 hr hg h1 h2 h3 .nil hx ha hdb he hpl
theorem pe_gint {i : Int} (h : ∃ t, X.mg x = some (.int i t)) (hg : Gl X x := by rfl) (hd : (x == ("__debug__" : Str)) = false := by decide) : PE X (.Name x pos) (tC (.int i)) := by
  obtain ⟨t, h⟩ := h
  exact pe_glob hg h ⟨t, rfl⟩ hd
theorem pe_gstr {i : Str} (h : ∃ t, X.mg x = some (.str i t)) (hg : Gl X x := by rfl) (hd : (x == ("__debug__" : Str)) = false := by decide) : PE X (.Name x pos) (tC (.str i)) := by
  obtain ⟨t, h⟩ := h
  exact pe_glob hg h ⟨t, rfl⟩ hd
theorem pe_gref {a : Addr} (h : X.mg x = some (.ref a)) (hg : Gl X x := by rfl) (hd : (x == ("__debug__" : Str)) = false := by decide) : PE X (.Name x pos) (tC (.ref a)) := pe_glob hg h rfl hd
end
end SR
namespace SR
open PySem PySem.Spec PyProof.Rows L2 SM
section
variable {X : Cx}
/-- what a for walks: a list, a tuple, a text -/
def iSeqU (K : PySem.W.Frag) (tl : TE) : TI := fun σ H R => iList K tl σ H R ∨ iTup K tl σ H R ∨ iStr tl σ H R
theorem pi_seqU {tg l : Expr} {tl : TE} (hl : PE X l tl) : PI X tg l (iSeqU X.K tl) := ⟨fun pins s σ H R I h => by
  rcases h with h | h | h
  · exact (pi_list hl).run pins s σ H R I h
  · exact (pi_tup hl).run pins s σ H R I h
  · exact (pi_str hl).run pins s σ H R I h⟩
/-- x in y: a list of any data, a flat list or tuple, a dict, a sign in a text -/
def rInDict (neg : Bool) : R2 := fun y x H Q => ∃ a o, x = .ref a ∧ DGet H a y o ∧ Q (.bl (if neg then !o.isSome else o.isSome)) H
def rInSign (neg : Bool) : R2 := fun x y H Q => ∃ (c : Nat) (z : Str), x = .str ⟨#[c]⟩ ∧ y = .str z ∧ Q (.bl (if neg then !decide (c ∈ z.cps.toList) else decide (c ∈ z.cps.toList))) H
theorem op_inDict (hu : X.A.units + 1 < cLine) : OpR X (compareOp .In) (rInDict false) := by
  intro pins s σ H x y v u Q I rx ry h
  obtain ⟨a, o, rfl, g, q⟩ := h
  cases ry
  exact d_in hu I g rx fun s3 I3 => ⟨.bl o.isSome, H, I3, rfl, q⟩
theorem op_notInDict (hu : X.A.units + 1 < cLine) : OpR X (compareOp .NotIn) (rInDict true) := by
  intro pins s σ H x y v u Q I rx ry h
  obtain ⟨a, o, rfl, g, q⟩ := h
  cases ry
  exact d_notIn hu I g rx fun s3 I3 => ⟨.bl (!o.isSome), H, I3, rfl, q⟩
def rInU (K : PySem.W.Frag) : R2 := fun x y H Q => rInD K x y H Q ∨ rIn K false x y H Q ∨ rInDict false x y H Q ∨ rInSign false x y H Q
def rNotInU (K : PySem.W.Frag) : R2 := fun x y H Q => rNotInD K x y H Q ∨ rIn K true x y H Q ∨ rInDict true x y H Q ∨ rInSign true x y H Q
theorem op_inU (hu : X.A.units + 65 < cLine) : OpR X (compareOp .In) (rInU X.K) := (op_inD hu).or (op_in_seq.or ((op_inDict (by omega)).or op_in_sign))
theorem op_notInU (hu : X.A.units + 65 < cLine) : OpR X (compareOp .NotIn) (rNotInU X.K) := (op_notInD hu).or (op_notIn_seq.or ((op_notInDict (by omega)).or op_notIn_sign))
/-- o[i] = v: a list, a dict -/
def rSetD : TSet := fun o i v H Q => ∃ a H', o = .ref a ∧ DPut H a i v H' ∧ Q H'
theorem set_dict (hu : X.A.units + 1 < cLine) : PSet X rSetD := by
  intro pins s σ H o i v ov iv u Q I ro ri rv h
  obtain ⟨a, H', rfl, g, q⟩ := h
  cases ro
  exact d_setItem hu I g ri rv fun s' I' => ⟨H', I', q⟩
def rSetU (P : Program) (w : World) : TSet := fun o i v H Q => rSetL o i v H Q ∨ rSetD o i v H Q ∨ rSetM P w o i v H Q
theorem set_u (hu : X.A.units + 1 < cLine) : PSet X (rSetU X.prog X.w) := by
  intro pins s σ H o i v ov iv u Q I ro ri rv h
  rcases h with h | h | h
  · exact set_list pins s σ H o i v ov iv u Q I ro ri rv h
  · exact set_dict hu pins s σ H o i v ov iv u Q I ro ri rv h
  · exact set_mix hu pins s σ H o i v ov iv u Q I ro ri rv h
theorem hu65 {k : Nat} {A : Around} (r : Room k A) : A.units + 65 < cLine := by have := r.un; omega
/-- where nothing is handled, a def's exceptions are its own promise's -/
theorem px_of {W : WX} {E : XK} (tk : Takes X W) (h : ∀ cls d σ H, E cls d H → W cls d σ H) : Passes (L2.CX X.prog X.w) X E := passes_call tk h
end
end SR

set_option Elab.async false
set_option linter.all false
set_option maxRecDepth 100000
set_option maxHeartbeats 4000000
/-! Own exceptions that hold a number: their __init__, their raise. -/
namespace SR
open PySem PySem.Spec PyProof.Rows L2 SM
/-- the class above them all -/
structure Xs (K : PySem.W.Frag) (mg : Str → Option Value) (x : Str) (C : Addr) : Prop where
  g : mg x = some (.ref C)
  rd : ClX.CRead K C (.type "type")
  ty : PySem.W.typeIn K (.ref C) = some (.type "type")
  v : PySem.W.findCls K (.ref C) (.type "type") "__init__" = some (.val (.builtin "ValueError.__init__"))
section
variable {X : Cx} {e : Expr} {es : List Expr} {ta : TA} {x : Str} {C : Addr} {p1 p2 pos : Pos}
/-- SpillError.__init__(self, ..) -/
theorem pe_sinit {pl : Sem Bool} (S : Xs X.K X.mg x C) (ha : PA X (e :: es) ta) (hg : Gl X x := by rfl) (hdb : (x == ("__debug__" : Str)) = false := by decide)
    (hc : eval (.Call (.Attribute (.Name x p1) "__init__" p2) (e :: es) [] pos) X.env = (eval (.Name x p1) X.env >>= fun ov => standAt p2.atName >>= fun _ => holding [ov] (getMethod ov "__init__" pl) >>= fun (f, first) =>
      callWith pos f first (backTo pos (starEach (e :: es) X.env)) (backToKw pos (keywordEach [] X.env))) := by rfl)
    (he : starEach (e :: es) X.env = (false, eval e X.env) :: starEach es X.env := by rfl) (hpl : (backTo pos (starEach es X.env)).any (·.1) = false := by rfl) :
    PE X (.Call (.Attribute (.Name x p1) "__init__" p2) (e :: es) [] pos) (tVeI X.K ta) := by
  refine ⟨fun pins s σ H Q I h => ?_⟩
  refine PySem.W.methodCall_KW (ld_glob I hg S.g ?_ hdb) hc
  obtain ⟨m, fr⟩ := I.fr
  refine PySem.W.method_of_cls fr I.ok.mod.kin S.rd.ga (PySem.W.cls_val fr I.ok.mod.kin S.ty S.rd.rd S.v (by decide +kernel) ?_)
  show wpAny _ _ (callWith pos (Value.builtin "ValueError.__init__") [] (backTo pos (starEach (e :: es) X.env)) []) _ _ _
  refine PyProof.Rows.callWith_method1 (thn (ha.run pos pins _ σ H _ (I.tok _) h) fun us s1 ⟨vs, H1, I1, r1, a, C, ws, ev, hl, T, ea, q⟩ => ?_) he hpl
  subst ev
  cases r1 with
  | @cons _ u0 _ ur ra rw' =>
    obtain rfl : u0 = Value.ref a := ra
    exact oinit_ok T I1 ea (by rw [← Paired.length rw', sizeLine_eq]; omega) fun s' J => ⟨.non, H1, J, rfl, q⟩
end
/-- what an __init__ of those does -/
def spXi (f : Str) (K : PySem.W.Frag) (C : Addr) : Sp := fun vs H Q _ => ∃ (b : Addr) (n : Int), vs = [.ref b, .int n] ∧ n.natAbs.log2 < 1000 ∧ OexC K C ∧ PySem.W.findIn K (.ref C) f = some none ∧ H b = some (exo b C none) ∧
  ∀ dx, H dx = none → dx ≠ b → Q .non (upd (upd H dx (exd dx [(f, .int n)])) b (exo b C (some dx)))
/-- the reading of such an __init__ -/
def tXi (w : Str) (f : Str) (K : PySem.W.Frag) : TS := tSeq (tDrop (tVeI K (tCons (tVar 0) (tCons (fun σ H Q => tJs [tC (.str w), tFmt (tVar 1)] Str.empty σ H fun out H1 => Q (.str out) H1) tNil)))) (tOst K f (tVar 0) (tVar 1))
theorem int_len {n : Int} (h : n.natAbs.log2 < 1000) : (Str.ofString (toString n)).length ≤ 1001 := by
  have e := int_text_length_le (k := 1000) (by decide) h
  rw [PySem.ofString_length]
  exact e
theorem pure_xi {w f : Str} {K : PySem.W.Frag} {C : Addr} {N : List Str} (hw : w.length ≤ 20) (vs : List V) (H : Hp) (Q : VK) (E : XK) (h : spXi f K C vs H Q E) : tXi w f K { nx := fun _ H' => Q .non H', rt := Q } (L2.start N vs) H := by
  obtain ⟨b, n, rfl, hn, T, hf, hb, k⟩ := h
  have hs0 : (L2.start N [V.ref b, V.int n])[0]? = some (some (V.ref b)) := rfl
  have hs1 : (L2.start N [V.ref b, V.int n])[1]? = some (some (V.int n)) := rfl
  have h0 : (Str.empty ++ w : Str).length ≤ 20 := by
    rw [Str.length_append]
    show Str.empty.length + w.length ≤ 20
    have : Str.empty.length = 0 := rfl
    omega
  refine ⟨_, hs0, w, rfl, Nat.le_trans h0 (by decide : 20 ≤ sizeLine), _, hs1, .inr ⟨n, rfl, by omega, _, rfl, ?_, b, C, [_], rfl, by simp, T, hb, _, hs1, _, hs0, b, C, rfl, T, hf, .inl ⟨hb, k⟩⟩⟩
  rw [Str.length_append]
  have := int_len hn
  exact Nat.le_trans (Nat.add_le_add h0 this) (by decide : 20 + 1001 ≤ sizeLine)
/-- such a class, its __init__ keeping its promise -/
structure Xf (P : Program) (w : World) (K : PySem.W.Frag) (mg : Str → Option Value) (base : Heap) (k : Nat) (x : Str) (C : Addr) (f : Str) : Prop where
  g : mg x = some (.ref C)
  o : OexC K C
  n : PySem.W.findIn K (.ref C) f = some none
  i : ∃ fI fd p, PySem.W.findIn K (.ref C) "__init__" = some (some (.ref fI)) ∧ PySem.W.typeIn K (.ref fI) = some (.type "function") ∧ Binds K fd ["self", p] [] ∧ FnOk P w K mg base (L2.CX P w) k fI fd ["self", p] (spXi f K C)
/-- raise X(n) -/
def tRaiseF (C : Addr) (f : Str) (E : XK) (ta : TA) : TS := fun _ σ H => ta σ H fun vs H1 => ∃ n : Int, vs = [.int n] ∧ n.natAbs.log2 < 1000 ∧ ∀ d H2, Same H1 H2 → H1 d = none → H2 d = some (.xd [(f, .int n)]) → E (.ref C) (some d) H2
section
variable {X : Cx} {e : Expr} {ta : TA} {x f : Str} {C : Addr} {E : XK} {k : Nat} {p pos pos2 : Pos}
theorem ps_mono {s : Stmt} {t t' : TS} (h : PS X s t) (m : ∀ D σ H, t' D σ H → t D σ H) : PS X s t' := ⟨fun pins s σ H D I q => h.run pins s σ H D I (m D σ H q)⟩
theorem ps_raiseF (h : Xf X.prog X.w X.K X.mg X.base k x C f) (hr : Room (k + 1) X.A) (hc : X.calm = true) (tk : Takes X (fun cls d _ H => E cls d H)) (ha : PA X [e] ta) (mono : ∀ σ H (Q R : List V → Hp → Prop), (∀ vs H, Q vs H → R vs H) → ta σ H Q → ta σ H R) (hg : Gl X x := by rfl) (hdb : (x == ("__debug__" : Str)) = false := by decide)
    (he : starEach [e] X.env = (false, eval e X.env) :: starEach [] X.env := by rfl) (hpl : (backTo pos (starEach [] X.env)).any (·.1) = false := by rfl) : PS X (.Raise (some (.Call (.Name x p) [e] [] pos)) none pos2) (tRaiseF C f E ta) := by
  obtain ⟨fI, fd, q, h1, h2, h3, h4⟩ := h.i
  have px : Passes (L2.CX X.prog X.w) X (fun _ _ _ => False) := px_of tk fun _ _ _ _ z => z.elim
  refine ps_mono (ps_raise hc tk (pmk_oex h.o h1 h2 h4 hr h3 .nil px hg h.g ha hdb he hpl)) fun D σ H t => mono σ H _ _ (fun vs H1 z => ?_) t
  obtain ⟨n, rfl, hn, z⟩ := z
  refine ⟨by simp, fun b hb => ⟨b, n, rfl, hn, h.o, h.n, upd_same, fun dx hx ne => ⟨rfl, dx, [(f, .int n)], upd_same, ?_, ?_, ?_⟩⟩⟩
  · rw [upd_ne ne, upd_same]
  · rw [upd_ne ne] at hx
    exact hx
  · have h1 : H1 dx = none := by
      rw [upd_ne ne] at hx
      exact hx
    refine z dx _ (fun c o hc => ?_) h1 upd_same
    rw [upd_ne (ne_of_none hc h1), del_ne (ne_of_none hc hb), upd_ne (ne_of_none hc hb), upd_ne (ne_of_none hc h1), upd_ne (ne_of_none hc hb)]
    exact hc
end
/-! ### sum, dict -/
end SR

set_option Elab.async false
set_option linter.all false
set_option maxRecDepth 100000
set_option maxHeartbeats 4000000
/-! Data as trees over the abstract heap; what an expression that writes nothing comes to. -/
namespace SD
open PySem L2 SM SR
abbrev D := PyData
def rowD1 : D → Bool
  | .tuple [.int _, .int _] => true
  | _ => false
/-- the parts of a tuple of rows -/
def rowsy (ds : List D) : Bool := ds.all rowD1
/-- a tuple; of one of rows it is told that it has no dict -/
def TupAt (G : Hp) (a : Addr) (xs : List V) : Bool → Prop
  | true => ∃ o : Obj, o.dict = none ∧ G a = some (.frz o (.tup xs))
  | false => G a = some (.tup xs)
/-- a value as a tree: lists and tuples that are tracked -/
inductive Dt (G : Hp) : V → D → Prop
  | non : Dt G .non .none
  | bl (b : Bool) : Dt G (.bl b) (.bool b)
  | int (i : Int) : Dt G (.int i) (.int i)
  | str (x : Str) : Dt G (.str x) (.str x)
  | lst {a : Addr} {xs : List V} {ds : List D} : G a = some (.lst xs) → Paired (Dt G) xs ds → Dt G (.ref a) (.list ds)
  | tup {a : Addr} {xs : List V} {ds : List D} : TupAt G a xs (rowsy ds) → Paired (Dt G) xs ds → Dt G (.ref a) (.tuple ds)
abbrev Dts (G : Hp) : List V → List D → Prop := Paired (Dt G)
def isSeq : HO → Bool
  | .lst _ => true
  | .tup _ => true
  | .frz _ (.tup _) => true
  | _ => false
/-- all lists and tuples stay -/
def SameS (G G' : Hp) : Prop := ∀ a o, G a = some o → isSeq o = true → G' a = some o
theorem Same.s {G G' : Hp} (e : Same G G') : SameS G G' := fun a o h _ => e a o h
theorem TupAt.mono {G G' : Hp} (e : SameS G G') {a : Addr} {xs : List V} : ∀ {b : Bool}, TupAt G a xs b → TupAt G' a xs b
  | true, ⟨o, h1, h2⟩ => ⟨o, h1, e _ _ h2 rfl⟩
  | false, h => e _ _ h rfl
theorem TupAt.map {G G' : Hp} {a : Addr} {xs : List V} (h : ∀ o, (∀ ys, o ≠ .lst ys) → isSeq o = true → G a = some o → G' a = some o) : ∀ {b : Bool}, TupAt G a xs b → TupAt G' a xs b
  | true, ⟨o, h1, h2⟩ => ⟨o, h1, h _ nofun rfl h2⟩
  | false, z => h _ nofun rfl z
theorem TupAt.rd {G : Hp} {a : Addr} {xs : List V} : ∀ {b : Bool}, TupAt G a xs b → Rd G a (.tup xs)
  | true, ⟨o, _, h2⟩ => .inr ⟨o, h2⟩
  | false, h => .inl h
theorem TupAt.sq {K : PySem.W.Frag} {G : Hp} {a : Addr} {xs : List V} {b : Bool} (h : TupAt G a xs b) : SqT K G a xs := .inl h.rd
theorem TupAt.obj {G : Hp} {a : Addr} {xs : List V} : ∀ {b : Bool}, TupAt G a xs b → ∃ o, G a = some o ∧ isSeq o = true ∧ (∀ ys, o ≠ .lst ys)
  | true, ⟨o, _, h2⟩ => ⟨_, h2, rfl, nofun⟩
  | false, h => ⟨_, h, rfl, nofun⟩
theorem TupAt.nolst {G : Hp} {a : Addr} {xs ys : List V} {b : Bool} (h : TupAt G a xs b) (e : G a = some (.lst ys)) : False := by
  obtain ⟨o, h1, _, h2⟩ := h.obj
  rw [e] at h1
  exact h2 ys (Option.some.inj h1).symm
theorem TupAt.inj {G : Hp} {a : Addr} {xs ys : List V} : ∀ {b c : Bool}, TupAt G a xs b → TupAt G a ys c → xs = ys
  | true, true, ⟨o, _, h⟩, ⟨o', _, h'⟩ => by
    rw [h] at h'
    injection h' with h'
    injection h' with _ h'
    injection h'
  | true, false, ⟨o, _, h⟩, h' => by
    have h' : G a = some (.tup ys) := h'
    rw [h] at h'
    injection h' with h'
    cases h'
  | false, true, h, ⟨o, _, h'⟩ => by
    have h : G a = some (.tup xs) := h
    rw [h] at h'
    injection h' with h'
    cases h'
  | false, false, h, h' => by
    have h : G a = some (.tup xs) := h
    have h' : G a = some (.tup ys) := h'
    rw [h] at h'
    injection h' with h'
    injection h'
theorem Dt.mono {G G' : Hp} (e : SameS G G') : ∀ {d : D} {v : V}, Dt G v d → Dt G' v d := by
  intro d v h
  induction h using Dt.rec (motive_2 := fun xs ds _ => Paired (Dt G') xs ds) with
  | non => exact .non
  | bl b => exact .bl b
  | int i => exact .int i
  | str x => exact .str x
  | lst h1 h2 ih => exact .lst (e _ _ h1 rfl) ih
  | tup h1 h2 ih => exact .tup (h1.mono e) ih
  | nil => exact .nil
  | cons h1 h2 i1 i2 => exact .cons i1 i2
theorem Dts.mono {G G' : Hp} (e : SameS G G') {vs : List V} {ds : List D} (h : Dts G vs ds) : Dts G' vs ds := Paired.mapP h fun _ _ z => z.mono e
theorem Dts.len {G : Hp} {vs : List V} {ds : List D} (h : Dts G vs ds) : vs.length = ds.length := by
  induction h with
  | nil => rfl
  | cons _ _ ih => rw [List.length_cons, List.length_cons, ih]
theorem Dts.get {G : Hp} : ∀ {vs : List V} {ds : List D} {i : Nat} {d : D}, Dts G vs ds → ds[i]? = some d → ∃ v, vs[i]? = some v ∧ Dt G v d
  | _, _, i, _, .nil, e => by simp at e
  | _, _, 0, _, .cons r _, e => by
    simp at e
    subst e
    exact ⟨_, rfl, r⟩
  | _, _, i + 1, d, .cons _ t, e => by
    obtain ⟨v, h1, h2⟩ := Dts.get (i := i) (d := d) t (by simpa using e)
    exact ⟨v, by simpa using h1, h2⟩
theorem Dts.app {G : Hp} : ∀ {vs us : List V} {ds es : List D}, Dts G vs ds → Dts G us es → Dts G (vs ++ us) (ds ++ es)
  | _, _, _, _, .nil, s => s
  | _, _, _, _, .cons r t, s => .cons r (Dts.app t s)
theorem Dts.take {G : Hp} : ∀ {vs : List V} {ds : List D} (n : Nat), Dts G vs ds → Dts G (vs.take n) (ds.take n)
  | _, _, 0, _ => .nil
  | _, _, _ + 1, .nil => .nil
  | _, _, n + 1, .cons r t => .cons r (Dts.take n t)
theorem Dts.drop {G : Hp} : ∀ {vs : List V} {ds : List D} (n : Nat), Dts G vs ds → Dts G (vs.drop n) (ds.drop n)
  | _, _, 0, r => r
  | _, _, _ + 1, .nil => .nil
  | _, _, n + 1, .cons _ t => Dts.drop n t
theorem Dts.set {G : Hp} {x : V} {u : D} (r : Dt G x u) : ∀ {xs : List V} {us : List D} (i : Nat), Dts G xs us → Dts G (xs.set i x) (us.set i u)
  | _, _, _, .nil => .nil
  | _, _, 0, .cons _ t => .cons r t
  | _, _, i + 1, .cons q t => .cons q (Dts.set r i t)
theorem Dts.repl {G : Hp} {vs : List V} {ds : List D} (h : Dts G vs ds) : ∀ k : Nat, Dts G (List.replicate k vs).flatten (List.replicate k ds).flatten
  | 0 => .nil
  | k + 1 => by
    rw [List.replicate_succ, List.replicate_succ, List.flatten_cons, List.flatten_cons]
    exact h.app (Dts.repl h k)
/-- the value of a tree is one -/
theorem Dt.dp {K : PySem.W.Frag} {G H : Hp} (e : SameS G H) : ∀ {d : D} {v : V}, Dt G v d → Dp K H v d := by
  intro d v h
  induction h using Dt.rec (motive_2 := fun xs ds _ => DpAll K H xs ds) with
  | non => exact .non
  | bl b => exact .bl b
  | int i => exact .int i
  | str x => exact .str x
  | lst h1 h2 ih => exact .lst (SqL.of (e _ _ h1 rfl)) ih
  | tup h1 h2 ih => exact .tup (h1.mono e).sq ih
  | nil => exact .nil
  | cons h1 h2 i1 i2 => exact .cons i1 i2
theorem Dt.inj {G : Hp} : ∀ {d e : D} {v : V}, Dt G v d → Dt G v e → d = e := by
  intro d e v h
  induction h using Dt.rec (motive_2 := fun xs ds _ => ∀ es, Paired (Dt G) xs es → ds = es) generalizing e with
  | non => intro h; cases h; rfl
  | bl b => intro h; cases h; rfl
  | int i => intro h; cases h; rfl
  | str x => intro h; cases h; rfl
  | lst h1 h2 ih =>
    intro h
    cases h with
    | lst g1 g2 =>
      rw [h1] at g1
      cases g1
      rw [ih _ g2]
    | tup g1 g2 => exact (g1.nolst h1).elim
  | tup h1 h2 ih =>
    intro h
    cases h with
    | tup g1 g2 =>
      have := h1.inj g1
      subst this
      rw [ih _ g2]
    | lst g1 g2 => exact (h1.nolst g1).elim
  | nil =>
    rename_i h
    cases h
    rfl
  | cons h1 h2 i1 i2 =>
    rename_i h
    cases h with
    | cons g1 g2 => rw [i1 g1, i2 _ g2]
/-! ### hidden places -/
/-- places -/
def Ads := Addr → Prop
instance : Membership Addr Ads := ⟨fun M a => M a⟩
instance : HAppend Ads Ads Ads := ⟨fun M N a => a ∈ M ∨ a ∈ N⟩
instance : HAppend Ads (List Addr) Ads := ⟨fun M N a => a ∈ M ∨ a ∈ N⟩
instance : HAppend (List Addr) Ads Ads := ⟨fun M N a => a ∈ M ∨ a ∈ N⟩
open Classical in
noncomputable def hid (M : Ads) (H : Hp) : Hp := fun a => if a ∈ M then none else H a
def Lv (M : Ads) (H : Hp) : Prop := ∀ a ∈ M, H a ≠ none
section
variable {M N : Ads} {H H1 H2 : Hp} {a p : Addr} {o : HO}
theorem hid_out (h : a ∉ M) : hid M H a = H a := if_neg h
theorem hid_in (h : a ∈ M) : hid M H a = none := if_pos h
theorem hid_some (h : hid M H a = some o) : a ∉ M ∧ H a = some o := by
  by_cases m : a ∈ M
  · rw [hid_in m] at h
    cases h
  · exact ⟨m, by rw [← hid_out (H := H) m]; exact h⟩
theorem hid_le : Same (hid M H) H := fun a o h => (hid_some h).2
theorem Same.hid (e : Same H H1) : Same (hid M H) (SD.hid M H1) := fun a o h => by
  obtain ⟨m, h⟩ := hid_some h
  rw [hid_out m]
  exact e a o h
theorem SameS.refl (H : Hp) : SameS H H := fun _ _ h _ => h
theorem SameS.trans (a : SameS H H1) (b : SameS H1 H2) : SameS H H2 := fun c o h z => b c o (a c o h z) z
theorem Lv.mono (e : Same H H1) (h : Lv M H) : Lv M H1 := fun a m z => by
  cases q : H a with
  | none => exact h a m q
  | some o =>
    rw [e a o q] at z
    cases z
theorem Lv.out (h : Lv M H) (n : H p = none) : p ∉ M := fun m => h p m n
theorem new_same (n : H p = none) : Same H (upd H p o) := fun b u e => by
  rw [upd_ne (ne_of_none e n)]
  exact e
theorem new_at (h : Lv M H) (n : H p = none) : hid M (upd H p o) p = some o := by
  rw [hid_out (h.out n), upd_same]
theorem newT_of {xs : List V} {Q : VK} (lv : Lv M H) (b : Bool) (q : ∀ p o, H p = none → isSeq o = true → (∀ ys, o ≠ .lst ys) → TupAt (hid M (upd H p o)) p xs b → Q (.ref p) (upd H p o)) : NewT H xs Q := by
  cases b with
  | true => exact .inr fun p o hd hp => q p _ hp rfl nofun ⟨o, hd, new_at lv hp⟩
  | false => exact .inl fun p hp => q p _ hp rfl nofun (new_at lv hp)
theorem newT_dt {xs : List V} {ds : List D} {Q : VK} (lv : Lv M H) (r : Dts (hid M H) xs ds) (q : ∀ p o, H p = none → Same H (upd H p o) → Dt (hid M (upd H p o)) (.ref p) (.tuple ds) → Q (.ref p) (upd H p o)) : NewT H xs Q :=
  newT_of lv (rowsy ds) fun p o hp _ _ t => q p o hp (new_same hp) (.tup t (r.mono (Same.s (Same.hid (new_same hp)))))
/-- fewer are hidden -/
theorem hid_sub (h : ∀ a ∈ M, a ∈ N) : Same (hid N H) (hid M H) := fun b o e => by
  obtain ⟨m, e⟩ := hid_some e
  rw [hid_out fun z => m (h b z)]
  exact e
theorem hid_upd (h : a ∈ M) : hid M (upd H a o) = hid M H := funext fun b => by
  by_cases m : b ∈ M
  · rw [hid_in m, hid_in m]
  · rw [hid_out m, hid_out m, upd_ne (b := b) (a := a) fun z => m (by rw [z]; exact h)]
end
/-- nothing but A is changed -/
structure But (A : List Addr) (H H' : Hp) : Prop where
  keep : ∀ b o, b ∉ A → H b = some o → H' b = some o
  live : ∀ b, H b ≠ none → H' b ≠ none
theorem But.refl (A : List Addr) (H : Hp) : But A H H := ⟨fun _ _ _ h => h, fun _ h => h⟩
theorem But.trans {A : List Addr} {H H1 H2 : Hp} (x : But A H H1) (y : But A H1 H2) : But A H H2 := ⟨fun b o n h => y.keep b o n (x.keep b o n h), fun b h => y.live b (x.live b h)⟩
theorem But.of {A : List Addr} {H H' : Hp} (e : Same H H') : But A H H' := ⟨fun b o _ h => e b o h, fun b h z => by
  cases q : H b with
  | none => exact h q
  | some o =>
    rw [e b o q] at z
    cases z⟩
theorem But.upd {A : List Addr} {H : Hp} {b : Addr} {o : HO} (h : b ∈ A) : But A H (L2.upd H b o) := ⟨fun c u n e => by
  rw [upd_ne (fun z => n (by rw [z]; exact h))]
  exact e, fun c h z => by
  by_cases q : c = b
  · rw [q, upd_same] at z
    cases z
  · rw [upd_ne q] at z
    exact h z⟩
theorem But.free {A : List Addr} {H H' : Hp} {b : Addr} (x : But A H H') (n : H' b = none) : H b = none := by
  cases q : H b with
  | none => rfl
  | some o => exact absurd n (x.live b (by rw [q]; nofun))
theorem But.mono {A B : List Addr} {H H' : Hp} (x : But A H H') (h : ∀ b ∈ A, b ∈ B) : But B H H' := ⟨fun b o n => x.keep b o fun z => n (h b z), x.live⟩
/-- none of A is a list or a tuple -/
def NoSeq (A : List Addr) (H : Hp) : Prop := ∀ b ∈ A, ∀ o, H b = some o → isSeq o = false
theorem But.s {A : List Addr} {M : Ads} {H H' : Hp} (x : But A H H') (n : NoSeq A H) : SameS (hid M H) (hid M H') := fun b o h z => by
  obtain ⟨m, h⟩ := hid_some h
  refine (hid_out m).trans (x.keep b o (fun y => ?_) h)
  have := n b y o h
  rw [this] at z
  cases z
theorem But.lv {A : List Addr} {M : Ads} {H H' : Hp} (x : But A H H') (h : Lv M H) : Lv M H' := fun b m => x.live b (h b m)
theorem But.same {H H' : Hp} (x : But [] H H') : Same H H' := fun b o h => x.keep b o (by simp) h
theorem hid_noseq {M : Ads} {A : List Addr} {H : Hp} (n : NoSeq A H) : SameS (hid M H) (hid (M ++ A) H) := fun b o h z => by
  obtain ⟨m, h⟩ := hid_some h
  refine (hid_out fun y => Or.elim y m fun y => ?_).trans h
  have := n b y o h
  rw [this] at z
  cases z
/-! ### what is held -/
/-- something that stays as long as its own places, all tuples and what is seen stay; fp: its own places -/
structure Iv where
  fp : List Addr
  p : Ads → Hp → Prop
  up : ∀ {M N : Ads} {H H' : Hp} (Z : List Addr), (∀ b o, b ∉ Z → H b = some o → H' b = some o) → (∀ z ∈ Z, z ∉ fp ∧ (∀ xs, H z ≠ some (.tup xs)) ∧ (∀ o u, H z ≠ some (.frz o u)) ∧ ∀ e, H z ≠ some (.ext e)) → SameS (hid M H) (hid N H') → p M H → p N H'
  nol : ∀ {M : Ads} {H : Hp} (A : Ads), (∀ l ∈ A, l ∉ fp ∧ ∃ xs, H l = some (.lst xs)) → p M H → p (M ++ A) H
def Iv.nil : Iv := ⟨[], fun _ _ => True, fun _ _ _ _ _ => trivial, fun _ _ _ => trivial⟩
theorem Iv.same {Φ : Iv} {M N : Ads} {H H' : Hp} (e : Same H H') (s : SameS (hid M H) (hid N H')) (h : Φ.p M H) : Φ.p N H' := Φ.up [] (fun b o _ h => e b o h) (fun z hz => by cases hz) s h
/-- both -/
def Iv.and (Φ Ψ : Iv) : Iv := ⟨Φ.fp ++ Ψ.fp, fun M H => Φ.p M H ∧ Ψ.p M H, fun Z h1 h2 h3 h4 =>
  ⟨Φ.up Z h1 (fun z hz => ⟨fun y => (h2 z hz).1 (List.mem_append_left _ y), (h2 z hz).2⟩) h3 h4.1, Ψ.up Z h1 (fun z hz => ⟨fun y => (h2 z hz).1 (List.mem_append_right _ y), (h2 z hz).2⟩) h3 h4.2⟩,
  fun A h1 h2 => ⟨Φ.nol A (fun l hl => ⟨fun y => (h1 l hl).1 (List.mem_append_left _ y), (h1 l hl).2⟩) h2.1, Ψ.nol A (fun l hl => ⟨fun y => (h1 l hl).1 (List.mem_append_right _ y), (h1 l hl).2⟩) h2.2⟩⟩
/-- no lists in it -/
def noL : D → Bool
  | .list _ => false
  | .tuple ds => noLs ds
  | .dict _ => false
  | _ => true
where noLs : List D → Bool
  | [] => true
  | d :: ds => noL d && noLs ds
theorem Dt.nol {G G' : Hp} (h : ∀ a xs b, TupAt G a xs b → TupAt G' a xs b) : ∀ {d : D} {v : V}, Dt G v d → noL d = true → Dt G' v d := by
  intro d v hd
  induction hd using Dt.rec (motive_2 := fun xs ds _ => noL.noLs ds = true → Paired (Dt G') xs ds) with
  | non => exact fun _ => .non
  | bl b => exact fun _ => .bl b
  | int i => exact fun _ => .int i
  | str x => exact fun _ => .str x
  | lst h1 h2 ih =>
    intro z
    simp [noL] at z
  | tup h1 h2 ih =>
    intro z
    exact .tup (h _ _ _ h1) (ih (by simpa [noL] using z))
  | nil => exact .nil
  | cons h1 h2 i1 i2 =>
    rename_i z
    simp only [noL.noLs, Bool.and_eq_true] at z
    exact .cons (i1 z.1) (i2 z.2)
/-! ### trees whose lists are one's own -/
def noLst : Option HO → Option HO
  | some (.lst _) => none
  | o => o
open Classical in
noncomputable def tgv (A : List Addr) (N : Ads) (H : Hp) : Hp := fun a => if a ∈ A then H a else if a ∈ N then none else noLst (H a)
theorem tgv_mono {A : List Addr} {N N2 : Ads} {H H2 : Hp} (k : ∀ l ∈ A, ∀ o, H l = some o → H2 l = some o) (s : SameS (hid N H) (hid N2 H2)) : SameS (tgv A N H) (tgv A N2 H2) := fun a o h z => by
  unfold tgv at *
  by_cases m : a ∈ A
  · rw [if_pos m] at h ⊢
    exact k a m o h
  · rw [if_neg m] at h ⊢
    by_cases n : a ∈ N
    · rw [if_pos n] at h
      cases h
    · rw [if_neg n] at h
      have hH : H a = some o ∧ ∀ xs, o ≠ .lst xs := by
        cases q : H a with
        | none =>
          rw [q] at h
          cases h
        | some u =>
          rw [q] at h
          cases u <;> first | (cases h; exact ⟨rfl, nofun⟩) | cases h
      have := s a o ((hid_out n).trans hH.1) z
      obtain ⟨n2, e2⟩ := hid_some this
      rw [if_neg n2, e2]
      cases o <;> first | rfl | exact absurd rfl (hH.2 _)
/-- .. as a tree of all -/
theorem tgv_le {A : List Addr} {N : Ads} {H : Hp} : Same (tgv A N H) (hid (fun a => a ∈ N ∧ a ∉ A) H) := fun a o h => by
  unfold tgv at h
  by_cases m : a ∈ A
  · rw [if_pos m] at h
    exact (hid_out (show ¬ (a ∈ N ∧ a ∉ A) from fun z => z.2 m)).trans h
  · rw [if_neg m] at h
    by_cases n : a ∈ N
    · rw [if_pos n] at h
      cases h
    · rw [if_neg n] at h
      refine (hid_out (show ¬ (a ∈ N ∧ a ∉ A) from fun z => n z.1)).trans ?_
      cases q : H a with
      | none =>
        rw [q] at h
        cases h
      | some u =>
        rw [q] at h
        cases u <;> first | exact h | cases h
theorem tgv_list {A : List Addr} {N : Ads} {H : Hp} {l : Addr} {xs : List V} (h : tgv A N H l = some (.lst xs)) : l ∈ A ∧ H l = some (.lst xs) := by
  unfold tgv at h
  by_cases m : l ∈ A
  · rw [if_pos m] at h
    exact ⟨m, h⟩
  · rw [if_neg m] at h
    split at h
    · cases h
    · cases q : H l with
      | none =>
        rw [q] at h
        cases h
      | some u =>
        rw [q] at h
        cases u <;> cases h
end SD

set_option Elab.async false
set_option linter.all false
set_option maxRecDepth 100000
set_option maxHeartbeats 4000000
/-! What a def does that writes nothing of its caller's, told over trees: H0 is the heap at its entry, M what is hidden of it; lists of its own are owned by a name. -/
namespace SE
open PySem L2 SM SR SD
/-- what is known of a name -/
inductive Sl where
  | no
  | dat (d : D)
  | val (v : V)
  | own (ds : List D)
  | tre (d : D)
abbrev Gm := List Sl
abbrev Lo := List (Nat × Addr)
/-- a def's place: what it may change, what is hidden, the heap at its entry -/
structure Wd where
  A : List Addr
  M : Ads
  H0 : Hp
abbrev fnn (X : Wd) (Φ : Iv) : Ads := HAppend.hAppend X.M Φ.fp
abbrev hdn (X : Wd) (Φ : Iv) (L : Lo) : Ads := HAppend.hAppend (L.map (·.2)) (fnn X Φ)
noncomputable abbrev hd (X : Wd) (Φ : Iv) (L : Lo) (H : Hp) : Hp := hid (hdn X Φ L) H
structure Cur (X : Wd) (Φ : Iv) (L : Lo) (H : Hp) : Prop where
  but : But X.A X.H0 H
  lv : Lv (hdn X Φ L) H
  new : ∀ p ∈ L, X.H0 p.2 = none
  om : ∀ p ∈ L, p.2 ∉ X.M
  nd : (L.map (·.2)).Nodup
  dj : ∀ p ∈ L, p.2 ∉ Φ.fp
  at_ : Φ.p (hdn X Φ L) H
  ls : ∀ p ∈ L, ∃ xs, H p.2 = some (.lst xs)
def SlOk (X : Wd) (Φ : Iv) (L : Lo) (H : Hp) (i : Nat) (x : Option (Option V)) : Sl → Prop
  | .no => True
  | .dat d => ∃ v, x = some (some v) ∧ Dt (hd X Φ L H) v d
  | .val v => x = some (some v)
  | .own ds => ∃ l vs, x = some (some (.ref l)) ∧ (i, l) ∈ L ∧ H l = some (.lst vs) ∧ Dts (hd X Φ L H) vs ds
  | .tre d => ∃ v A, x = some (some v) ∧ (∀ l ∈ A, (i, l) ∈ L) ∧ (∀ l ∈ A, ∃ xs, H l = some (.lst xs)) ∧ Dt (tgv A (hdn X Φ L) H) v d
structure EnvD (X : Wd) (Φ : Iv) (L : Lo) (H : Hp) (σ : L2.St) (Γ : Gm) : Prop where
  len : Γ.length = σ.length
  ok : ∀ i s, Γ[i]? = some s → SlOk X Φ L H i σ[i]? s
section
variable {X : Wd} {Φ : Iv} {H H1 H2 : Hp} {L L1 : Lo} {σ : L2.St} {Γ Γ' : Gm} {v : V} {d e : D} {i j : Nat}
theorem Cur.up (c : Cur X Φ L H) (e : Same H H1) : Cur X Φ L H1 := ⟨c.but.trans (But.of e), c.lv.mono e, c.new, c.om, c.nd, c.dj, Iv.same e (Same.s (Same.hid e)) c.at_, fun p hp => (c.ls p hp).imp fun _ z => e _ _ z⟩
theorem Cur.out (c : Cur X Φ L H) {p : Nat × Addr} (h : p ∈ L) : p.2 ∉ fnn X Φ := fun z => Or.elim z (c.om p h) (c.dj p h)
theorem SlOk.up (e : Same H H1) {x : Option (Option V)} : ∀ {s : Sl}, SlOk X Φ L H i x s → SlOk X Φ L H1 i x s
  | .no, _ => trivial
  | .dat d, ⟨v, h1, h2⟩ => ⟨v, h1, h2.mono (Same.s (Same.hid e))⟩
  | .val v, h => h
  | .own ds, ⟨l, vs, h1, h2, h3, h4⟩ => ⟨l, vs, h1, h2, e _ _ h3, h4.mono (Same.s (Same.hid e))⟩
  | .tre d, ⟨v, A, h1, h2, h4, h3⟩ => ⟨v, A, h1, h2, fun l hl => (h4 l hl).imp fun _ z => e _ _ z, h3.mono (tgv_mono (fun l _ o h => e l o h) (Same.s (Same.hid e)))⟩
theorem EnvD.up (g : EnvD X Φ L H σ Γ) (e : Same H H1) : EnvD X Φ L H1 σ Γ := ⟨g.len, fun i s h => (g.ok i s h).up e⟩
theorem EnvD.set (g : EnvD X Φ L H σ Γ) {s : Sl} (h : SlOk X Φ L H i (some (some v)) s) : EnvD X Φ L H (σ.set i (some v)) (Γ.set i s) := by
  refine ⟨by simp [g.len], fun j t e => ?_⟩
  by_cases hij : i = j
  · subst hij
    have hi : i < Γ.length := by
      have := (List.getElem?_eq_some_iff.mp e).1
      simpa using this
    rw [List.getElem?_set_self hi] at e
    cases e
    rw [List.getElem?_set_self (by rw [← g.len]; exact hi)]
    exact h
  · rw [List.getElem?_set_ne hij] at e
    rw [List.getElem?_set_ne hij]
    exact g.ok j t e
theorem EnvD.dat (g : EnvD X Φ L H σ Γ) (h : Dt (hd X Φ L H) v d) : EnvD X Φ L H (σ.set i (some v)) (Γ.set i (.dat d)) := g.set ⟨v, rfl, h⟩
/-! ### expressions -/
def Ev (X : Wd) (Φ : Iv) (te : TE) (Γ : Gm) (d : D) : Prop := ∀ L H σ, Cur X Φ L H → EnvD X Φ L H σ Γ → ∀ Q : VK, (∀ v H2, Same H H2 → Dt (hd X Φ L H2) v d → Q v H2) → te σ H Q
/-- a value itself -/
def EvV (X : Wd) (Φ : Iv) (te : TE) (Γ : Gm) (v : V) : Prop := ∀ L H σ, Cur X Φ L H → EnvD X Φ L H σ Γ → ∀ Q : VK, (∀ H2, Same H H2 → Q v H2) → te σ H Q
def EvA (X : Wd) (Φ : Iv) (ta : TA) (Γ : Gm) (ds : List D) : Prop := ∀ L H σ, Cur X Φ L H → EnvD X Φ L H σ Γ → ∀ Q : List V → Hp → Prop, (∀ vs H2, Same H H2 → Dts (hd X Φ L H2) vs ds → Q vs H2) → ta σ H Q
def EvT (X : Wd) (Φ : Iv) (tt : TT) (Γ : Gm) (b : Bool) : Prop := ∀ L H σ, Cur X Φ L H → EnvD X Φ L H σ Γ → ∀ Q : Bool → Hp → Prop, (∀ H2, Same H H2 → Q b H2) → tt σ H Q
def EvO (X : Wd) (Φ : Iv) (to : TO) (Γ : Gm) (o : Option Int) : Prop := ∀ L H σ, Cur X Φ L H → EnvD X Φ L H σ Γ → ∀ Q : Option Int → Hp → Prop, (∀ H2, Same H H2 → Q o H2) → to σ H Q
theorem ev_var (h : Γ[i]? = some (.dat d)) : Ev X Φ (tVar i) Γ d := fun L H σ c g Q q => by
  obtain ⟨v, h1, h2⟩ := g.ok i _ h
  exact ⟨v, h1, q v H (Same.refl H) h2⟩
theorem evv_var (h : Γ[i]? = some (.val v)) : EvV X Φ (tVar i) Γ v := fun L H σ c g Q q => ⟨v, g.ok i _ h, q H (Same.refl H)⟩
/-- a value that is no object -/
def flat : D → Option V
  | .none => some .non
  | .bool b => some (.bl b)
  | .int i => some (.int i)
  | .str x => some (.str x)
  | _ => none
theorem dt_flat {G : Hp} (h : Dt G v d) {u : V} (e : flat d = some u) : v = u := by
  cases h <;> first | (cases e; rfl) | cases e
theorem of_flat {G : Hp} {u : V} (e : flat d = some u) : Dt G u d := by
  cases d <;> first | cases e; done | (cases e; constructor)
theorem ev_c {u : V} (e : flat d = some u) : Ev X Φ (tC u) Γ d := fun L H σ c g Q q => q u H (Same.refl H) (of_flat e)
theorem ev_int (k : Int) : Ev X Φ (tC (.int k)) Γ (.int k) := ev_c rfl
theorem ev_str (k : Str) : Ev X Φ (tC (.str k)) Γ (.str k) := ev_c rfl
theorem ev_non : Ev X Φ (tC .non) Γ .none := ev_c rfl
theorem ev_bl (b : Bool) : Ev X Φ (tC (.bl b)) Γ (.bool b) := ev_c rfl
theorem ev_eq {te : TE} (h : Ev X Φ te Γ d) (e' : d = e) : Ev X Φ te Γ e := e' ▸ h
theorem et_eq {tt : TT} {b c : Bool} (h : EvT X Φ tt Γ b) (e' : b = c) : EvT X Φ tt Γ c := e' ▸ h
theorem ea_nil : EvA X Φ tNil Γ [] := fun L H σ c g Q q => q [] H (Same.refl H) .nil
theorem ea_cons {ta : TE} {tr : TA} {ds : List D} (h : Ev X Φ ta Γ d) (hr : EvA X Φ tr Γ ds) : EvA X Φ (tCons ta tr) Γ (d :: ds) := fun L H σ c g Q q =>
  h L H σ c g _ fun v H1 e1 r1 => hr L H1 σ (c.up e1) (g.up e1) _ fun vs H2 e2 r2 => q _ H2 (e1.trans e2) (.cons (r1.mono (Same.s (Same.hid e2))) r2)
theorem ev_tup {ta : TA} {ds : List D} (h : EvA X Φ ta Γ ds) (hl : ds.length ≤ 100000) : Ev X Φ (tTupB ta) Γ (.tuple ds) := fun L H σ c g Q q =>
  h L H σ c g _ fun vs H1 e1 r1 => ⟨by rw [r1.len]; exact Nat.le_trans hl (by decide), newT_dt (c.up e1).lv r1 fun p o hp e2 r2 => q _ _ (e1.trans e2) r2⟩
theorem ev_lst {ta : TA} {ds : List D} (h : EvA X Φ ta Γ ds) (hl : ds.length ≤ 100000) : Ev X Φ (tLst ta) Γ (.list ds) := fun L H σ c g Q q =>
  h L H σ c g _ fun vs H1 e1 r1 => ⟨by rw [r1.len]; exact Nat.le_trans hl (by decide), fun p hp => by
    have cc := (c.up e1).lv
    exact q _ _ (e1.trans (new_same hp)) (.lst (new_at cc hp) (r1.mono (Same.s (Same.hid (new_same hp)))))⟩
/-! ### operations on trees -/
def OpD (r : R2) (d e f : D) : Prop := ∀ N H v u, Lv N H → Dt (hid N H) v d → Dt (hid N H) u e → ∀ Q : VK, (∀ z H2, Same H H2 → Dt (hid N H2) z f → Q z H2) → r v u H Q
theorem ev_op {r : R2} {ta tb : TE} {f : D} (ha : Ev X Φ ta Γ d) (hb : Ev X Φ tb Γ e) (h : OpD r d e f) : Ev X Φ (tOp r ta tb) Γ f := fun L H σ c g Q q =>
  ha L H σ c g _ fun v H1 e1 r1 => hb L H1 σ (c.up e1) (g.up e1) _ fun u H2 e2 r2 =>
    h _ H2 v u (c.up (e1.trans e2)).lv (r1.mono (Same.s (Same.hid e2))) r2 Q fun z H3 e3 r3 => q z H3 ((e1.trans e2).trans e3) r3
/-- two values that are no objects, and such an answer -/
theorem opd_flat {r : R2} {f : D} {x y z : V} (hx : flat d = some x) (hy : flat e = some y) (hz : flat f = some z) (h : ∀ H (Q : VK), Q z H → r x y H Q) : OpD r d e f := fun N H v u lv hv hu Q q => by
  rw [dt_flat hv hx, dt_flat hu hy]
  exact h H Q (q z H (Same.refl H) (of_flat hz))
theorem od_addI {K : PySem.W.Frag} {a b : Int} : OpD (rAddU K) (.int a) (.int b) (.int (a + b)) := opd_flat rfl rfl rfl fun H Q q => .inl ⟨a, b, rfl, rfl, q⟩
theorem od_subI {a b : Int} : OpD rSubI (.int a) (.int b) (.int (a - b)) := opd_flat rfl rfl rfl fun H Q q => ⟨a, b, rfl, rfl, q⟩
theorem od_modI {a b : Int} (h : 0 < b) : OpD rModI (.int a) (.int b) (.int (a % b)) := opd_flat rfl rfl rfl fun H Q q => ⟨a, b, rfl, rfl, h, q⟩
theorem od_divI {a b : Int} (h : CDiv a b) : OpD rDivI (.int a) (.int b) (.int (a / b)) := opd_flat rfl rfl rfl fun H Q q => ⟨a, b, rfl, rfl, h, q⟩
theorem od_lt {a b : Int} : OpD rLtI (.int a) (.int b) (.bool (decide (a < b))) := opd_flat rfl rfl rfl fun H Q q => ⟨a, b, rfl, rfl, q⟩
theorem od_le {a b : Int} : OpD rLeI (.int a) (.int b) (.bool (decide (a ≤ b))) := opd_flat rfl rfl rfl fun H Q q => ⟨a, b, rfl, rfl, q⟩
theorem od_gt {a b : Int} : OpD rGtI (.int a) (.int b) (.bool (decide (b < a))) := opd_flat rfl rfl rfl fun H Q q => ⟨a, b, rfl, rfl, q⟩
theorem od_ge {a b : Int} : OpD rGeI (.int a) (.int b) (.bool (decide (b ≤ a))) := opd_flat rfl rfl rfl fun H Q q => ⟨a, b, rfl, rfl, q⟩
theorem od_addS {K : PySem.W.Frag} {a b : Str} (h : a.length + b.length ≤ 100000) : OpD (rAddU K) (.str a) (.str b) (.str (a ++ b)) := opd_flat rfl rfl rfl fun H Q q => .inr (.inl ⟨a, b, rfl, rfl, Nat.le_trans h (by decide), q⟩)
theorem sqT {K : PySem.W.Frag} {N : Ads} {a : Addr} {xs : List V} {b : Bool} (h : TupAt (hid N H) a xs b) : SqT K H a xs := (h.mono (Same.s hid_le)).sq
theorem sqL {K : PySem.W.Frag} {N : Ads} {a : Addr} {xs : List V} (h : hid N H a = some (.lst xs)) : SqL K H a xs := SqL.of (hid_le _ _ h)
theorem od_addT {K : PySem.W.Frag} {xs ys : List D} (h : xs.length + ys.length ≤ 100000) : OpD (rAddU K) (.tuple xs) (.tuple ys) (.tuple (xs ++ ys)) := fun N H v u lv hv hu Q q => by
  cases hv with
  | @tup a vs _ ha hvs =>
    cases hu with
    | @tup b us _ hb hus =>
      have l1 := Dts.len hvs
      have l2 := Dts.len hus
      refine .inr (.inr (.inr ⟨a, b, vs, us, rfl, rfl, sqT ha, sqT hb, Nat.le_trans (by omega) (by decide : 100000 ≤ sizeLine), fun z => ?_, fun z y => ?_, fun z y => newT_dt lv (Dts.app hvs hus) fun p o hp e r => ?_⟩))
      · subst z
        have e0 : xs = [] := List.length_eq_zero_iff.mp (by rw [← l1]; rfl)
        subst e0
        exact q _ H (Same.refl H) (.tup hb hus)
      · subst y
        have e0 : ys = [] := List.length_eq_zero_iff.mp (by rw [← l2]; rfl)
        subst e0
        rw [List.append_nil] at q
        exact q _ H (Same.refl H) (.tup ha hvs)
      · exact q _ _ e r
theorem od_addL {K : PySem.W.Frag} {xs ys : List D} (h : xs.length + ys.length ≤ 100000) : OpD (rAddU K) (.list xs) (.list ys) (.list (xs ++ ys)) := fun N H v u lv hv hu Q q => by
  cases hv with
  | @lst a vs _ ha hvs =>
    cases hu with
    | @lst b us _ hb hus =>
      have l1 := Dts.len hvs
      have l2 := Dts.len hus
      refine .inr (.inr (.inl ⟨a, b, vs, us, rfl, rfl, hid_le _ _ ha, hid_le _ _ hb, Nat.le_trans (by omega) (by decide : 100000 ≤ sizeLine), fun p hp => ?_⟩))
      exact q _ _ (new_same hp) (.lst (new_at lv hp) ((Dts.app hvs hus).mono (Same.s (Same.hid (new_same hp)))))
theorem od_repL {K : PySem.W.Frag} {xs : List D} {k : Int} (h : xs.length * k.toNat ≤ 100000) (h1 : -(2 ^ 63) ≤ k) (h2 : k < 2 ^ 63) : OpD (rMulU K) (.list xs) (.int k) (.list (List.replicate k.toNat xs).flatten) := fun N H v u lv hv hu Q q => by
  cases hv with
  | @lst a vs _ ha hvs =>
    cases hu
    have l1 := Dts.len hvs
    refine .inr (.inl ⟨a, k, vs, rfl, rfl, hid_le _ _ ha, h1, h2, by rw [l1]; exact Nat.le_trans h (by decide), fun p hp => ?_⟩)
    exact q _ _ (new_same hp) (.lst (new_at lv hp) ((Dts.repl hvs _).mono (Same.s (Same.hid (new_same hp)))))
theorem dts_atI {G : Hp} {vs : List V} {ds : List D} {k : Int} (h : Dts G vs ds) (e' : atI ds k = some d) : ∃ v, L2.atI vs k = some v ∧ Dt G v d := by
  unfold L2.atI at *
  rw [h.len]
  cases q : ixN ds.length k with
  | none =>
    rw [q] at e'
    cases e'
  | some j =>
    rw [q] at e'
    exact h.get e'
theorem od_ixT {P : Program} {w : World} {K : PySem.W.Frag} {ds : List D} {k : Int} (h : atI ds k = some d) : OpD (rIxU P w K) (.tuple ds) (.int k) d := fun N H v u lv hv hu Q q => by
  cases hu
  cases hv with
  | tup h1 h2 =>
    obtain ⟨z, hz, r⟩ := dts_atI h2 h
    exact .inl (.inr (.inl ⟨_, _, k, z, rfl, rfl, sqT h1, hz, q z H (Same.refl H) r⟩))
theorem od_ixL {P : Program} {w : World} {K : PySem.W.Frag} {ds : List D} {k : Int} (h : atI ds k = some d) : OpD (rIxU P w K) (.list ds) (.int k) d := fun N H v u lv hv hu Q q => by
  cases hu
  cases hv with
  | lst h1 h2 =>
    obtain ⟨z, hz, r⟩ := dts_atI h2 h
    exact .inl (.inl ⟨_, _, k, z, rfl, rfl, sqL h1, hz, q z H (Same.refl H) r⟩)
theorem od_eq {K : PySem.W.Frag} (h1 : SeqAt.shaped d = true) (h2 : SeqAt.shaped e = true) : OpD (rEqD K) d e (.bool (PyData.eqv d e)) := fun N H v u lv hv hu Q q =>
  ⟨d, e, hv.dp (Same.s hid_le), hu.dp (Same.s hid_le), h1, h2, q _ H (Same.refl H) (.bl _)⟩
theorem od_ne {K : PySem.W.Frag} (h1 : SeqAt.shaped d = true) (h2 : SeqAt.shaped e = true) : OpD (rNeD K) d e (.bool (!PyData.eqv d e)) := fun N H v u lv hv hu Q q =>
  ⟨d, e, hv.dp (Same.s hid_le), hu.dp (Same.s hid_le), h1, h2, q _ H (Same.refl H) (.bl _)⟩
def isNone : D → Bool
  | .none => true
  | _ => false
theorem isNone_iff {G : Hp} (h : Dt G v d) : decide (v = .non) = isNone d := by
  cases h <;> first | rfl | exact decide_eq_false (fun z => nomatch z)
theorem od_isN : OpD rIsNone d .none (.bool (isNone d)) := fun N H v u lv hv hu Q q => by
  cases hu
  refine ⟨rfl, ?_⟩
  rw [isNone_iff hv]
  exact q _ H (Same.refl H) (.bl _)
theorem od_notN : OpD rNotNone d .none (.bool (!isNone d)) := fun N H v u lv hv hu Q q => by
  cases hu
  refine ⟨rfl, ?_⟩
  rw [isNone_iff hv]
  exact q _ H (Same.refl H) (.bl _)
theorem ev_neg {ta : TE} {a : Int} (h : Ev X Φ ta Γ (.int a)) : Ev X Φ (tUn rNegI ta) Γ (.int (-a)) := fun L H σ c g Q q =>
  h L H σ c g _ fun v H1 e1 r1 => by
    cases r1
    exact ⟨a, rfl, q _ H1 e1 (.int _)⟩
/-! ### slices -/
def cut (ds : List D) (lo hi : Option Int) : List D := (ds.drop (HT.sIx ds.length 0 lo)).take (HT.sIx ds.length ds.length hi - HT.sIx ds.length 0 lo)
theorem dts_cut {G : Hp} {vs : List V} {ds : List D} (h : Dts G vs ds) (lo hi : Option Int) : Dts G (cutV vs lo hi) (cut ds lo hi) := by
  unfold cutV cut
  rw [h.len]
  exact (h.drop _).take _
theorem eo_none : EvO X Φ tNoPart Γ none := fun L H σ c g Q q => q H (Same.refl H)
theorem eo_some {te : TE} {k : Int} (h : Ev X Φ te Γ (.int k)) : EvO X Φ (tPart te) Γ (some k) := fun L H σ c g Q q => h L H σ c g _ fun v H2 e2 r => by
  cases r
  exact ⟨k, rfl, q H2 e2⟩
theorem ev_slL {K : PySem.W.Frag} {te : TE} {tl th : TO} {ds : List D} {lo hi : Option Int} (h : Ev X Φ te Γ (.list ds)) (h1 : EvO X Φ tl Γ lo) (h2 : EvO X Φ th Γ hi) : Ev X Φ (tSl (rSlU K) te tl th) Γ (.list (cut ds lo hi)) := fun L H σ c g Q q =>
  h L H σ c g _ fun v Ha e1 r1 => h1 L Ha σ (c.up e1) (g.up e1) _ fun Hb e2 => h2 L Hb σ (c.up (e1.trans e2)) (g.up (e1.trans e2)) _ fun Hc e3 => by
    have cc := c.up ((e1.trans e2).trans e3)
    have r2 := r1.mono (Same.s (Same.hid (M := hdn X Φ L) (e2.trans e3)))
    cases r2 with
    | lst ha hvs => exact .inl ⟨_, _, rfl, sqL ha, fun p hp => q _ _ (((e1.trans e2).trans e3).trans (new_same hp)) (.lst (new_at cc.lv hp) ((dts_cut hvs lo hi).mono (Same.s (Same.hid (new_same hp)))))⟩
theorem cut_all (ds : List D) (lo hi : Option Int) (h : HT.sIx ds.length 0 lo = 0 ∧ HT.sIx ds.length ds.length hi = ds.length) : cut ds lo hi = ds := by
  unfold cut
  rw [h.1, h.2]
  simp
/-! ### calls of built-ins -/
def CbD (r : List V → Hp → VK → Prop) (ds : List D) (f : D) : Prop := ∀ N H vs, Lv N H → Dts (hid N H) vs ds → ∀ Q : VK, (∀ z H2, Same H H2 → Dt (hid N H2) z f → Q z H2) → r vs H Q
theorem ev_cb {r : List V → Hp → VK → Prop} {ta : TA} {ds : List D} {f : D} (h : EvA X Φ ta Γ ds) (hr : CbD r ds f) : Ev X Φ (tCB r ta) Γ f := fun L H σ c g Q q =>
  h L H σ c g _ fun vs H1 e1 r1 => hr _ H1 vs (c.up e1).lv r1 Q fun z H2 e2 r2 => q z H2 (e1.trans e2) r2
theorem cb_lenL {K : PySem.W.Frag} {ds : List D} : CbD (rLenU K) [.list ds] (.int ds.length) := fun N H vs lv h Q q => by
  cases h with
  | cons h1 h2 =>
    cases h2
    cases h1 with
    | lst ha hv => exact ⟨_, _, rfl, .inl ⟨_, sqL ha, rfl⟩, by rw [Dts.len hv]; exact q _ H (Same.refl H) (.int _)⟩
theorem cb_lenT {K : PySem.W.Frag} {ds : List D} : CbD (rLenU K) [.tuple ds] (.int ds.length) := fun N H vs lv h Q q => by
  cases h with
  | cons h1 h2 =>
    cases h2
    cases h1 with
    | tup ha hv => exact ⟨_, _, rfl, .inr ⟨_, sqT ha, rfl⟩, by rw [Dts.len hv]; exact q _ H (Same.refl H) (.int _)⟩
theorem cb_lenS {K : PySem.W.Frag} {x : Str} (hx : x.length ≤ 100000) : CbD (rLenU K) [.str x] (.int x.length) := fun N H vs lv h Q q => by
  cases h with
  | cons h1 h2 =>
    cases h2
    cases h1
    exact ⟨_, _, rfl, ⟨Nat.le_trans hx (by decide), rfl⟩, q _ H (Same.refl H) (.int _)⟩
theorem cb_listT {K : PySem.W.Frag} {ds : List D} : CbD (rListU K) [.tuple ds] (.list ds) := fun N H vs lv h Q q => by
  cases h with
  | cons h1 h2 =>
    cases h2
    cases h1 with
    | tup ha hv => exact ⟨_, _, rfl, .inr (sqT ha), fun p hp => q _ _ (new_same hp) (.lst (new_at lv hp) (Dts.mono (Same.s (Same.hid (new_same hp))) hv))⟩
theorem cb_tupL {K : PySem.W.Frag} {ds : List D} : CbD (rTupU K) [.list ds] (.tuple ds) := fun N H vs lv h Q q => by
  cases h with
  | cons h1 h2 =>
    cases h2
    cases h1 with
    | lst ha hv => exact ⟨_, _, rfl, .inl ⟨sqL ha, newT_dt lv hv fun p o hp e r => q _ _ e r⟩⟩
theorem cb_intB {a : Bool} : CbD rIntU [.bool a] (.int (if a then 1 else 0)) := fun N H vs lv h Q q => by
  cases h with
  | cons h1 h2 =>
    cases h2
    cases h1
    exact .inr ⟨a, rfl, q _ H (Same.refl H) (.int _)⟩
/-! ### tests -/
variable {t u : TT} {te : TE} {b : Bool}
theorem et_test (h : Ev X Φ te Γ (.bool b)) : EvT X Φ (tTest te) Γ b := fun L H σ c g Q q => h L H σ c g _ fun v H2 e r => by
  cases r
  exact ⟨b, rfl, q H2 e⟩
theorem et_B (h : Ev X Φ te Γ (.bool b)) : EvT X Φ (tB te) Γ b := fun L H σ c g Q q => h L H σ c g _ fun v H2 e r => by
  cases r
  exact ⟨b, rfl, q H2 e⟩
theorem et_and {a b : Bool} (h1 : EvT X Φ t Γ a) (h2 : a = true → EvT X Φ u Γ b) : EvT X Φ (tAnd t u) Γ (a && b) := fun L H σ c g Q q => h1 L H σ c g _ fun H2 e => by
  cases a with
  | true =>
    show u σ H2 Q
    exact h2 rfl L H2 σ (c.up e) (g.up e) Q fun H3 e3 => q H3 (e.trans e3)
  | false => exact q H2 e
theorem et_or {a b : Bool} (h1 : EvT X Φ t Γ a) (h2 : a = false → EvT X Φ u Γ b) : EvT X Φ (tOr t u) Γ (a || b) := fun L H σ c g Q q => h1 L H σ c g _ fun H2 e => by
  cases a with
  | true => exact q H2 e
  | false =>
    show u σ H2 Q
    exact h2 rfl L H2 σ (c.up e) (g.up e) Q fun H3 e3 => q H3 (e.trans e3)
theorem et_not {a : Bool} (h1 : EvT X Φ t Γ a) : EvT X Φ (tNot t) Γ (!a) := fun L H σ c g Q q => h1 L H σ c g _ fun H2 e => q H2 e
theorem ev_andV {ta tb : TE} {a b : Bool} (h1 : Ev X Φ ta Γ (.bool a)) (h2 : a = true → Ev X Φ tb Γ (.bool b)) : Ev X Φ (tAndV ta tb) Γ (.bool (a && b)) := fun L H σ c g Q q => h1 L H σ c g _ fun v H2 e r => by
  cases r
  refine ⟨a, rfl, ?_⟩
  cases a with
  | true =>
    show tb σ H2 Q
    exact h2 rfl L H2 σ (c.up e) (g.up e) Q fun z H3 e3 r3 => q z H3 (e.trans e3) r3
  | false => exact q _ H2 e (.bl _)
theorem ev_if {ta tb : TE} (h : EvT X Φ t Γ b) (h1 : b = true → Ev X Φ ta Γ d) (h2 : b = false → Ev X Φ tb Γ d) : Ev X Φ (tIf t ta tb) Γ d := fun L H σ c g Q q => h L H σ c g _ fun H2 e => by
  cases b with
  | true => exact h1 rfl L H2 σ (c.up e) (g.up e) Q fun z H3 e3 r3 => q z H3 (e.trans e3) r3
  | false => exact h2 rfl L H2 σ (c.up e) (g.up e) Q fun z H3 e3 r3 => q z H3 (e.trans e3) r3
/-- a < b < c -/
theorem ev_chain {r r' : R2} {ta tb tc : TE} {x y z : D} {b b' : Bool} (ha : Ev X Φ ta Γ x) (hb : Ev X Φ tb Γ y) (hc : Ev X Φ tc Γ z) (h1 : OpD r x y (.bool b)) (h2 : b = true → OpD r' y z (.bool b')) :
    Ev X Φ (tChain r r' ta tb tc) Γ (.bool (b && b')) := fun L H σ c g Q q =>
  ha L H σ c g _ fun v H1 e1 r1 => hb L H1 σ (c.up e1) (g.up e1) _ fun u H2 e2 r2 => h1 _ H2 v u (c.up (e1.trans e2)).lv (r1.mono (Same.s (Same.hid e2))) r2 _ fun k H3 e3 r3 => by
    cases r3
    refine ⟨b, rfl, ?_⟩
    cases b with
    | true =>
      show tc σ H3 _
      refine hc L H3 σ (c.up ((e1.trans e2).trans e3)) (g.up ((e1.trans e2).trans e3)) _ fun w H4 e4 r4 => ?_
      exact h2 rfl _ H4 u w (c.up (((e1.trans e2).trans e3).trans e4)).lv (r2.mono (Same.s (Same.hid (e3.trans e4)))) r4 Q fun z H5 e5 r5 => q z H5 ((((e1.trans e2).trans e3).trans e4).trans e5) r5
    | false => exact q _ H3 ((e1.trans e2).trans e3) (.bl _)
end
end SE

set_option Elab.async false
set_option linter.all false
set_option maxRecDepth 100000
set_option maxHeartbeats 4000000
/-! Statements, loops, comprehensions, calls over trees. -/
namespace SE
open PySem L2 SM SR SD
section
variable {X : Wd} {Φ : Iv} {H H1 H2 : Hp} {L L1 : Lo} {σ : L2.St} {Γ Γ' : Gm} {v : V} {d e : D} {i j : Nat}
/-- what is returned: a tree, or a value itself -/
inductive Ro where
  | dat (d : D)
  | val (v : V)
  | fr (H0 : Hp) (d : D)
def RoOk (N : Ads) (H : Hp) (v : V) : Ro → Prop
  | .dat d => Dt (hid N H) v d
  | .val u => v = u
  | .fr H0 d => ∃ A : List Addr, A.Nodup ∧ (∀ l ∈ A, H0 l = none) ∧ Dt (tgv A N H) v d
/-- a statement: Γ and Φ ahead of it, N behind it, R what it returns -/
def FW (X : Wd) (t : TS) (Γ : Gm) (Φ : Iv) (N : Gm → Iv → Prop) (R : Ro → Iv → Prop) : Prop := ∀ L H σ (D : Ends), Cur X Φ L H → EnvD X Φ L H σ Γ →
  (∀ L' H' σ' Γ' Φ', Cur X Φ' L' H' → SameS (hd X Φ L H) (hd X Φ' L' H') → EnvD X Φ' L' H' σ' Γ' → N Γ' Φ' → D.nx σ' H') → (∀ v r H' Φ', But X.A X.H0 H' → Φ'.p (fnn X Φ') H' → RoOk (fnn X Φ') H' v r → R r Φ' → D.rt v H') → t D σ H
/-- .. that leaves Φ -/
def SW (X : Wd) (Φ : Iv) (t : TS) (Γ : Gm) (N : Gm → Prop) (R : D → Prop) : Prop := FW X t Γ Φ (fun Γ' Φ' => Φ' = Φ ∧ N Γ') (fun r Φ' => Φ' = Φ ∧ ∃ d, r = .dat d ∧ R d)
variable {t u : TS} {N N1 : Gm → Iv → Prop} {R : Ro → Iv → Prop} {te : TE} {tt : TT} {b : Bool} {Φ' : Iv}
theorem Cur.sub (c : Cur X Φ L H) : Same (hd X Φ L H) (hid (fnn X Φ) H) := hid_sub fun a ha => Or.inr ha
theorem Cur.end_ (c : Cur X Φ L H) : Φ.p (fnn X Φ) H := Iv.same (Same.refl H) (Same.s c.sub) c.at_
theorem fw_mono (h : FW X t Γ Φ N1 R) (hn : ∀ Γ' Φ', N1 Γ' Φ' → N Γ' Φ') : FW X t Γ Φ N R := fun L H σ D c g k r => h L H σ D c g (fun L' H' σ' Γ' Φ' c' s' g' n => k L' H' σ' Γ' Φ' c' s' g' (hn Γ' Φ' n)) r
theorem fw_seq (h1 : FW X t Γ Φ N1 R) (h2 : ∀ Γ' Φ', N1 Γ' Φ' → FW X u Γ' Φ' N R) : FW X (tSeq t u) Γ Φ N R := fun L H σ D c g k r =>
  h1 L H σ { D with nx := u D } c g (fun L1 H1 σ1 Γ1 Φ1 c1 s1 g1 n1 => h2 Γ1 Φ1 n1 L1 H1 σ1 D c1 g1 (fun L2 H2 σ2 Γ2 Φ2 c2 s2 g2 n2 => k L2 H2 σ2 Γ2 Φ2 c2 (s1.trans s2) g2 n2) r) r
/-- one state behind the first -/
theorem fw_then (h1 : FW X t Γ Φ (fun Γ1 Φ1 => Γ1 = Γ' ∧ Φ1 = Φ') R) (h2 : FW X u Γ' Φ' N R) : FW X (tSeq t u) Γ Φ N R := fw_seq h1 fun _ _ ⟨e1, e2⟩ => e1 ▸ e2 ▸ h2
theorem fw_next (h : N Γ Φ) : FW X tNext Γ Φ N R := fun L H σ D c g k r => k L H σ Γ Φ c (SameS.refl _) g h
theorem fw_asg (h : Ev X Φ te Γ d) (n : N (Γ.set i (.dat d)) Φ) : FW X (tAsg te (gName i)) Γ Φ N R := fun L H σ D c g k r =>
  h L H σ c g _ fun v H1 e1 r1 => k L H1 _ _ Φ (c.up e1) (Same.s (Same.hid e1)) ((g.up e1).dat r1) n
theorem fw_ret (h : Ev X Φ te Γ d) (hr : R (.dat d) Φ) : FW X (tRet te) Γ Φ N R := fun L H σ D c g k r =>
  h L H σ c g _ fun v H1 e1 r1 => r v (.dat d) H1 Φ (c.up e1).but (c.up e1).end_ (r1.mono (Same.s (c.up e1).sub)) hr
theorem fw_if (h : EvT X Φ tt Γ b) (h1 : b = true → FW X t Γ Φ N R) (h2 : b = false → FW X u Γ Φ N R) : FW X (tIfS tt t u) Γ Φ N R := fun L H σ D c g k r => h L H σ c g _ fun H1 e1 => by
  have k' : ∀ L' H' σ' Γ' Φ', Cur X Φ' L' H' → SameS (hd X Φ L H1) (hd X Φ' L' H') → EnvD X Φ' L' H' σ' Γ' → N Γ' Φ' → D.nx σ' H' := fun L' H' σ' Γ' Φ' c' s' => k L' H' σ' Γ' Φ' c' ((Same.s (Same.hid e1)).trans s')
  cases b with
  | true => exact h1 rfl L H1 σ D (c.up e1) (g.up e1) k' r
  | false => exact h2 rfl L H1 σ D (c.up e1) (g.up e1) k' r
/-! ### lists of one's own -/
theorem mem_cons_hdn {l a : Addr} : a ∈ hdn X Φ ((i, l) :: L) ↔ a = l ∨ a ∈ hdn X Φ L := by
  constructor
  · rintro (h | h)
    · rcases List.mem_cons.mp h with h | h
      · exact .inl h
      · exact .inr (Or.inl h)
    · exact .inr (Or.inr h)
  · rintro (h | h | h)
    · exact Or.inl (List.mem_cons.mpr (.inl h))
    · exact Or.inl (List.mem_cons.mpr (.inr h))
    · exact Or.inr h
theorem hd_cons {l : Addr} (n : H l = none) : hd X Φ ((i, l) :: L) H = hd X Φ L H := funext fun a => by
  show hid _ _ a = hid _ _ a
  by_cases m : a ∈ hdn X Φ L
  · rw [hid_in m, hid_in (mem_cons_hdn.mpr (.inr m))]
  · rw [hid_out m]
    by_cases h : a = l
    · rw [hid_in (mem_cons_hdn.mpr (.inl h)), h, n]
    · rw [hid_out fun z => (mem_cons_hdn.mp z).elim h m]
/-- a new list is owned by the name i -/
theorem own_new {l : Addr} {vs : List V} {ds : List D} (c : Cur X Φ L H) (g : EnvD X Φ L H σ Γ) (n : H l = none) (r : Dts (hd X Φ L H) vs ds) :
    Cur X Φ ((i, l) :: L) (upd H l (.lst vs)) ∧ SameS (hd X Φ L H) (hd X Φ ((i, l) :: L) (upd H l (.lst vs))) ∧ EnvD X Φ ((i, l) :: L) (upd H l (.lst vs)) (σ.set i (some (.ref l))) (Γ.set i (.own ds)) := by
  have nl : l ∉ hdn X Φ L := c.lv.out n
  have e : hd X Φ ((i, l) :: L) (upd H l (.lst vs)) = hd X Φ L H := by
    show hid _ _ = _
    rw [hid_upd (mem_cons_hdn.mpr (.inl rfl))]
    exact hd_cons (i := i) n
  have s0 : SameS (hd X Φ L H) (hd X Φ ((i, l) :: L) (upd H l (.lst vs))) := by
    rw [e]
    exact SameS.refl _
  have same := new_same (o := .lst vs) n
  have cc : Cur X Φ ((i, l) :: L) (upd H l (.lst vs)) := by
    refine ⟨c.but.trans (But.of same), fun a m z => ?_, fun p hp => ?_, (fun p hp => ?_), ?_, fun p hp => ?_, Iv.same same s0 c.at_, fun p hp => ?_⟩
    · rcases mem_cons_hdn.mp m with rfl | m
      · rw [upd_same] at z
        cases z
      · exact (c.lv.mono same) a m z
    · rcases List.mem_cons.mp hp with rfl | hp
      · exact c.but.free n
      · exact c.new p hp
    · rcases List.mem_cons.mp hp with rfl | hp
      · exact fun z => nl (Or.inr (Or.inl z))
      · exact c.om p hp
    · rw [List.map_cons, List.nodup_cons]
      exact ⟨fun z => nl (Or.inl z), c.nd⟩
    · rcases List.mem_cons.mp hp with rfl | hp
      · exact fun z => nl (Or.inr (Or.inr z))
      · exact c.dj p hp
    · rcases List.mem_cons.mp hp with rfl | hp
      · exact ⟨_, upd_same⟩
      · exact (c.ls p hp).imp fun _ z => same _ _ z
  refine ⟨cc, s0, EnvD.set ⟨g.len, fun j s hj => ?_⟩ ⟨l, vs, rfl, List.mem_cons_self, upd_same, r.mono s0⟩⟩
  have q := g.ok j s hj
  cases s with
  | no => trivial
  | dat d =>
    obtain ⟨v, h1, h2⟩ := q
    exact ⟨v, h1, h2.mono s0⟩
  | val v => exact q
  | own ds =>
    obtain ⟨l', vs', h1, h2, h3, h4⟩ := q
    exact ⟨l', vs', h1, List.mem_cons_of_mem _ h2, same _ _ h3, h4.mono s0⟩
  | tre d =>
    obtain ⟨v, A, h1, h2, h4, h3⟩ := q
    exact ⟨v, A, h1, fun l hl => List.mem_cons_of_mem _ (h2 l hl), fun l hl => (h4 l hl).imp fun _ z => same _ _ z, h3.mono (tgv_mono (fun l _ o h => same l o h) s0)⟩
theorem fw_own0 (n : N (Γ.set i (.own [])) Φ) : FW X (tAsg (tLst tNil) (gName i)) Γ Φ N R := fun L H σ D c g k r =>
  ⟨by decide, fun p hp => by
    obtain ⟨c1, s1, g1⟩ := own_new (i := i) (vs := []) (ds := []) c g hp .nil
    exact k _ _ _ _ _ c1 s1 g1 n⟩
theorem nd_ne {l l' : Addr} : ∀ {L : Lo}, (L.map (·.2)).Nodup → (i, l) ∈ L → (j, l') ∈ L → i ≠ j → l ≠ l'
  | p :: L, nd, h1, h2, ne => by
    rw [List.map_cons, List.nodup_cons] at nd
    rcases List.mem_cons.mp h1 with e1 | h1 <;> rcases List.mem_cons.mp h2 with e2 | h2
    · rw [← e1] at e2
      cases e2
      exact absurd rfl ne
    · intro z
      refine nd.1 ?_
      rw [← e1, z]
      exact List.mem_map.mpr ⟨_, h2, rfl⟩
    · intro z
      refine nd.1 ?_
      rw [← e2, ← z]
      exact List.mem_map.mpr ⟨_, h1, rfl⟩
    · exact nd_ne nd.2 h1 h2 ne
/-- the owned list is rewritten -/
theorem own_put {l : Addr} {vs vs' : List V} {ds : List D} (c : Cur X Φ L H) (g : EnvD X Φ L H σ Γ) (hl : (i, l) ∈ L) (h : H l = some (.lst vs)) (hs : σ[i]? = some (some (.ref l))) (hi : i < Γ.length) (r : Dts (hd X Φ L H) vs' ds) :
    Cur X Φ L (upd H l (.lst vs')) ∧ SameS (hd X Φ L H) (hd X Φ L (upd H l (.lst vs'))) ∧ EnvD X Φ L (upd H l (.lst vs')) σ (Γ.set i (.own ds)) := by
  have ml : l ∈ hdn X Φ L := Or.inl (List.mem_map.mpr ⟨_, hl, rfl⟩)
  have e : hd X Φ L (upd H l (.lst vs')) = hd X Φ L H := hid_upd ml
  have s0 : SameS (hd X Φ L H) (hd X Φ L (upd H l (.lst vs'))) := by
    rw [e]
    exact SameS.refl _
  have k1 : ∀ b o, b ∉ [l] → H b = some o → upd H l (.lst vs') b = some o := fun b o nb q => by
    rw [upd_ne (by simpa using nb)]
    exact q
  have cc : Cur X Φ L (upd H l (.lst vs')) := by
    refine ⟨⟨fun a o n q => ?_, fun a q z => ?_⟩, fun a m z => ?_, c.new, c.om, c.nd, c.dj, Φ.up [l] k1 (fun z hz => ?_) s0 c.at_, fun p hp => ?_⟩
    · rw [upd_ne fun z => by
        have := c.new _ hl
        rw [← z, q] at this
        cases this]
      exact c.but.keep a o n q
    · by_cases e : a = l
      · rw [e, upd_same] at z
        cases z
      · rw [upd_ne e] at z
        exact c.but.live a q z
    · by_cases q : a = l
      · rw [q, upd_same] at z
        cases z
      · rw [upd_ne q] at z
        exact c.lv a m z
    · have : z = l := by simpa using hz
      rw [this, h]
      exact ⟨c.dj _ hl, (fun xs z => by cases z), (fun o u z => by cases z), fun e z => by cases z⟩
    · by_cases q : p.2 = l
      · exact ⟨_, by rw [q, upd_same]⟩
      · obtain ⟨xs, hx⟩ := c.ls p hp
        exact ⟨xs, by rw [upd_ne q]; exact hx⟩
  refine ⟨cc, s0, ⟨by rw [List.length_set]; exact g.len, fun j s hj => ?_⟩⟩
  by_cases hij : i = j
  · subst hij
    rw [List.getElem?_set_self hi] at hj
    cases hj
    exact ⟨l, vs', hs, hl, upd_same, r.mono s0⟩
  · rw [List.getElem?_set_ne hij] at hj
    have q := g.ok j s hj
    cases s with
    | no => trivial
    | dat d =>
      obtain ⟨v, h1, h2⟩ := q
      exact ⟨v, h1, h2.mono s0⟩
    | val v => exact q
    | own ds =>
      obtain ⟨l', vs2, h1, h2, h3, h4⟩ := q
      refine ⟨l', vs2, h1, h2, ?_, h4.mono s0⟩
      rw [upd_ne (nd_ne c.nd h2 hl (Ne.symm hij))]
      exact h3
    | tre d =>
      obtain ⟨v, A, h1, h2, h4, h3⟩ := q
      have kb : ∀ b ∈ A, ∀ o, H b = some o → upd H l (.lst vs') b = some o := fun b hb o e => by
        rw [upd_ne (nd_ne c.nd (h2 b hb) hl (Ne.symm hij))]
        exact e
      exact ⟨v, A, h1, h2, fun b hb => (h4 b hb).imp fun _ z => kb b hb _ z, h3.mono (tgv_mono kb s0)⟩
theorem own_at {ds : List D} (g : EnvD X Φ L H σ Γ) (h : Γ[i]? = some (.own ds)) : ∃ l vs, σ[i]? = some (some (.ref l)) ∧ (i, l) ∈ L ∧ H l = some (.lst vs) ∧ Dts (hd X Φ L H) vs ds ∧ i < Γ.length := by
  obtain ⟨l, vs, h1, h2, h3, h4⟩ := g.ok i _ h
  exact ⟨l, vs, h1, h2, h3, h4, (List.getElem?_eq_some_iff.mp h).1⟩
/-- name.append(e) -/
theorem fw_app {K : PySem.W.Frag} {ds : List D} (ho : Γ[i]? = some (.own ds)) (h : Ev X Φ te Γ d) (hz : ds.length < 100000) (n : N (Γ.set i (.own (ds ++ [d]))) Φ) : FW X (tDrop (tBM K "list" rAppend (tVar i) (tCons te tNil))) Γ Φ N R := fun L H σ D c g k r => by
  obtain ⟨l, vs, h1, h2, h3, h4, h5⟩ := own_at g ho
  refine ⟨_, h1, .inl ⟨rfl, vs, SqL.of h3⟩, h L H σ c g _ fun v H1 e1 r1 => ?_⟩
  have g1 := g.up e1
  obtain ⟨c2, s2, g2⟩ := own_put (vs' := vs ++ [v]) (ds := ds ++ [d]) (c.up e1) g1 h2 (e1 _ _ h3) h1 h5 ((h4.mono (Same.s (Same.hid e1))).app (.cons r1 .nil))
  exact ⟨l, vs, v, rfl, rfl, e1 _ _ h3, by rw [h4.len]; exact Nat.lt_of_lt_of_le hz (by decide), k _ _ _ _ _ c2 ((Same.s (Same.hid e1)).trans s2) g2 n⟩
/-- return name -/
theorem fw_retOwn {ds : List D} (ho : Γ[i]? = some (.own ds)) (hr : R (.dat (.list ds)) Φ) : FW X (tRet (tVar i)) Γ Φ N R := fun L H σ D c g k r => by
  obtain ⟨l, vs, h1, h2, h3, h4, h5⟩ := own_at g ho
  refine ⟨_, h1, r _ (.dat (.list ds)) H Φ c.but c.end_ (.lst (xs := vs) ?_ (h4.mono (Same.s c.sub))) hr⟩
  rw [hid_out]
  · exact h3
  · exact c.out h2
/-! ### what is walked -/
/-- J walks the items ds, as long as the lists and tuples of hid N0 H stand -/
def Wk (N0 : Ads) (H : Hp) (J : It) (ds : List D) : Prop := ∀ N' H', SameS (hid N0 H) (hid N' H') → Lv N' H' →
  (∀ (i : Nat) d, ds[i]? = some d → J.go i H' ∧ ∀ x H'', J.yld i H' x H'' → Same H' H'' ∧ Dt (hid N' H'') x d) ∧ J.stop ds.length H'
def EvI (X : Wd) (Φ : Iv) (wi : TI) (Γ : Gm) (ds : List D) : Prop := ∀ L H σ, Cur X Φ L H → EnvD X Φ L H σ Γ → ∀ R : It → Hp → Prop, (∀ J H2, Same H H2 → Wk (hdn X Φ L) H2 J ds → R J H2) → wi σ H R
theorem wk_list {K : PySem.W.Frag} {N0 : Ads} {a : Addr} {vs : List V} {ds : List D} (h : hid N0 H a = some (.lst vs)) (r : Dts (hid N0 H) vs ds) : Wk N0 H (Itl K a) ds := fun N' H' s lv => by
  have ha : hid N' H' a = some (.lst vs) := s _ _ h rfl
  have r' := r.mono s
  refine ⟨fun i d hd => ?_, vs, sqL ha, by rw [r.len]; exact Nat.le_refl _⟩
  obtain ⟨v, h1, h2⟩ := r'.get hd
  refine ⟨⟨vs, v, sqL ha, h1⟩, fun x H'' y => ?_⟩
  obtain ⟨e, y⟩ := y
  subst e
  have := y vs (sqL ha)
  rw [h1] at this
  cases this
  exact ⟨Same.refl _, h2⟩
theorem wk_tup {K : PySem.W.Frag} {N0 : Ads} {a : Addr} {vs : List V} {ds : List D} {b : Bool} (h : TupAt (hid N0 H) a vs b) (r : Dts (hid N0 H) vs ds) : Wk N0 H (Itt K a) ds := fun N' H' s lv => by
  have ha : TupAt (hid N' H') a vs b := h.mono s
  have r' := r.mono s
  refine ⟨fun i d hd => ?_, vs, sqT ha, by rw [r.len]; exact Nat.le_refl _⟩
  obtain ⟨v, h1, h2⟩ := r'.get hd
  refine ⟨⟨vs, v, sqT ha, h1⟩, fun x H'' y => ?_⟩
  obtain ⟨e, y⟩ := y
  subst e
  have := y vs (sqT ha)
  rw [h1] at this
  cases this
  exact ⟨Same.refl _, h2⟩
/-- the rgD lo, lo + c, .. -/
def rgD (lo c : Int) (n : Nat) : List D := (List.range n).map fun k => .int (lo + (k : Nat) * c)
theorem wk_range {N0 : Ads} {lo : Int} {n : Nat} : Wk N0 H (Itr lo n) (rgD lo 1 n) := fun N' H' s lv => by
  refine ⟨fun i d hd => ?_, by show n ≤ (rgD lo 1 n).length; simp [rgD]⟩
  have hi : i < n := by
    have := (List.getElem?_eq_some_iff.mp hd).1
    simpa [rgD] using this
  refine ⟨hi, fun x H'' y => ?_⟩
  obtain ⟨e, y⟩ := y
  subst e y
  simp only [rgD, List.getElem?_map, List.getElem?_range hi, Option.map_some, Option.some.injEq] at hd
  subst hd
  rw [Int.mul_one]
  exact ⟨Same.refl _, .int _⟩
theorem wk_rangeC {N0 : Ads} {lo c : Int} {n : Nat} : Wk N0 H (Itc lo c n) (rgD lo c n) := fun N' H' s lv => by
  refine ⟨fun i d hd => ?_, by show n ≤ (rgD lo c n).length; simp [rgD]⟩
  have hi : i < n := by
    have := (List.getElem?_eq_some_iff.mp hd).1
    simpa [rgD] using this
  refine ⟨hi, fun x H'' y => ?_⟩
  obtain ⟨e, y⟩ := y
  subst e y
  simp only [rgD, List.getElem?_map, List.getElem?_range hi, Option.map_some, Option.some.injEq] at hd
  subst hd
  exact ⟨Same.refl _, .int _⟩
/-- the items with their numbers -/
def enumD (ds : List D) : List D := (List.range ds.length).map fun k => .tuple [.int (k : Nat), ds.getD k .none]
theorem wk_enum {K : PySem.W.Frag} {N0 : Ads} {a : Addr} {vs : List V} {ds : List D} (h : hid N0 H a = some (.lst vs)) (r : Dts (hid N0 H) vs ds) : Wk N0 H (Ite K a) (enumD ds) := fun N' H' s lv => by
  have ha : hid N' H' a = some (.lst vs) := s _ _ h rfl
  have r' := r.mono s
  refine ⟨fun i d hd => ?_, vs, sqL ha, by rw [r.len]; simp [enumD]⟩
  have hi : i < ds.length := by
    have := (List.getElem?_eq_some_iff.mp hd).1
    simpa [enumD] using this
  obtain ⟨v, h1, h2⟩ := r'.get (i := i) (d := ds[i]) (by simp [hi])
  refine ⟨⟨vs, v, sqL ha, h1⟩, fun x H'' y => ?_⟩
  obtain ⟨T, x', e, hT, eH, y⟩ := y
  subst e eH
  have := y vs (sqL ha)
  rw [h1] at this
  cases this
  refine ⟨new_same hT, ?_⟩
  simp only [enumD, List.getElem?_map, List.getElem?_range hi, Option.map_some, Option.some.injEq] at hd
  subst hd
  have e2 : ds.getD i .none = ds[i] := by simp [List.getD, hi]
  rw [e2]
  exact .tup (new_at lv hT) (.cons (.int _) (.cons (h2.mono (Same.s (Same.hid (new_same hT)))) .nil))
theorem ei_list {K : PySem.W.Frag} {ds : List D} (h : Ev X Φ te Γ (.list ds)) : EvI X Φ (iList K te) Γ ds := fun L H σ c g R q => h L H σ c g _ fun v H2 e2 r => by
  cases r with
  | lst ha hv => exact ⟨_, rfl, ⟨_, sqL ha⟩, q _ H2 e2 (wk_list ha hv)⟩
theorem ei_tup {K : PySem.W.Frag} {ds : List D} (h : Ev X Φ te Γ (.tuple ds)) : EvI X Φ (iTup K te) Γ ds := fun L H σ c g R q => h L H σ c g _ fun v H2 e2 r => by
  cases r with
  | tup ha hv => exact ⟨_, rfl, ⟨_, sqT ha⟩, q _ H2 e2 (wk_tup ha hv)⟩
theorem ei_enum {K : PySem.W.Frag} {ta : TA} {ds : List D} (h : EvA X Φ ta Γ [.list ds]) : EvI X Φ (iEnum K ta) Γ (enumD ds) := fun L H σ c g R q => h L H σ c g _ fun vs H2 e2 r => by
  cases r with
  | cons r r2 =>
    cases r2
    cases r with
    | lst ha hv => exact ⟨_, _, rfl, sqL ha, q _ H2 e2 (wk_enum ha hv)⟩
theorem ei_range1 {ta : TA} {n : Int} (h : EvA X Φ ta Γ [.int n]) (h1 : -(2 ^ 62) ≤ n) (h2 : n < 2 ^ 62) : EvI X Φ (iRng1 ta) Γ (rgD 0 1 n.toNat) := fun L H σ c g R q => h L H σ c g _ fun vs H2 e2 r => by
  cases r with
  | cons r r2 =>
    cases r2
    cases r
    exact ⟨n, rfl, h1, h2, q _ H2 e2 wk_range⟩
theorem ei_range3 {ta : TA} {m n k : Int} {z : Nat} (h : EvA X Φ ta Γ [.int m, .int n, .int k]) (h1 : RgC m n k z) : EvI X Φ (iRng3 ta) Γ (rgD m k z) := fun L H σ c g R q => h L H σ c g _ fun vs H2 e2 r => by
  cases r with
  | cons r r2 =>
    cases r2 with
    | cons r2 r3 =>
      cases r3 with
      | cons r3 r4 =>
        cases r4
        cases r
        cases r2
        cases r3
        exact ⟨m, n, k, z, rfl, h1, q _ H2 e2 wk_rangeC⟩
/-! ### targets -/
def Tg (X : Wd) (Φ : Iv) (g : TG) (d : D) (Γ Γ' : Gm) : Prop := ∀ L H σ v, EnvD X Φ L H σ Γ → Dt (hd X Φ L H) v d → ∀ Q : L2.St → Hp → Prop, (∀ σ', EnvD X Φ L H σ' Γ' → Q σ' H) → g v σ H Q
theorem tg_name : Tg X Φ (gName i) d Γ (Γ.set i (.dat d)) := fun L H σ v g r Q q => q _ (g.dat r)
theorem tg_pair {K : PySem.W.Frag} {x y : D} : Tg X Φ (gTup K 2 (gCons (gName i) (gCons (gName j) gNil))) (.tuple [x, y]) Γ ((Γ.set i (.dat x)).set j (.dat y)) := fun L H σ v g r Q q => by
  cases r with
  | tup ha hv =>
    cases hv with
    | cons r1 hv =>
      cases hv with
      | cons r2 hv =>
        cases hv
        exact ⟨_, _, rfl, sqT ha, rfl, _, _, rfl, _, _, rfl, rfl, q _ ((g.dat r1).dat r2)⟩
/-! ### for -/
theorem fw_for {wi : TI} {g : TG} {tb : TS} {ds : List D} (hi : EvI X Φ wi Γ ds) (I : Nat → Gm → Iv → Prop) (h0 : I 0 Γ Φ)
    (hs : ∀ (k : Nat) d Γ1 Φ1, ds[k]? = some d → I k Γ1 Φ1 → ∃ Γ2, Tg X Φ1 g d Γ1 Γ2 ∧ FW X tb Γ2 Φ1 (I (k + 1)) R) (hn : ∀ Γ1 Φ1, I ds.length Γ1 Φ1 → N Γ1 Φ1) : FW X (tFor wi g tb) Γ Φ N R := fun L H σ D c gg k r =>
  hi L H σ c gg _ fun J Ha e1 wk => by
    refine ⟨fun i m σ1 H1 => m = ds.length - i ∧ i ≤ ds.length ∧ ∃ L1 Γ1 Φ1, Cur X Φ1 L1 H1 ∧ SameS (hd X Φ L Ha) (hd X Φ1 L1 H1) ∧ EnvD X Φ1 L1 H1 σ1 Γ1 ∧ I i Γ1 Φ1, ⟨ds.length, by simp, Nat.zero_le _, L, Γ, Φ, c.up e1, SameS.refl _, gg.up e1, h0⟩, ?_⟩
    rintro i m σ1 H1 ⟨rfl, hle, L1, Γ1, Φ1, c1, s1, g1, i1⟩
    obtain ⟨go, stop⟩ := wk _ H1 s1 c1.lv
    by_cases hlt : i < ds.length
    · obtain ⟨y1, y2⟩ := go i ds[i] (by simp [hlt])
      obtain ⟨Γ2, ht, hb⟩ := hs i ds[i] Γ1 Φ1 (by simp [hlt]) i1
      refine .inr ⟨y1, fun σ' H' => ∃ L' Γ' Φ', Cur X Φ' L' H' ∧ SameS (hd X Φ L Ha) (hd X Φ' L' H') ∧ EnvD X Φ' L' H' σ' Γ' ∧ I (i + 1) Γ' Φ', fun σ' H' z => ⟨_, by omega, rfl, hlt, z⟩, fun x H' y => ?_⟩
      obtain ⟨e2, rx⟩ := y2 x H' y
      refine ht L1 H' σ1 x (g1.up e2) rx _ fun σ2 g2 => ?_
      refine hb L1 H' σ2 _ (c1.up e2) g2 (fun L3 H3 σ3 Γ3 Φ3 c3 s3 g3 n3 => ⟨L3, Γ3, Φ3, c3, (s1.trans (Same.s (Same.hid e2))).trans s3, g3, n3⟩) r
    · have e : i = ds.length := by omega
      subst e
      exact .inl ⟨stop, k L1 H1 σ1 Γ1 Φ1 c1 ((Same.s (Same.hid e1)).trans s1) g1 (hn Γ1 Φ1 i1)⟩
/-! ### while -/
theorem fw_while {tb : TS} (I : Nat → Gm → Iv → Prop) (m : Nat) (h0 : I m Γ Φ) (hs : ∀ m Γ1 Φ1, I m Γ1 Φ1 → ∃ b, EvT X Φ1 tt Γ1 b ∧ (b = true → FW X tb Γ1 Φ1 (fun Γ2 Φ2 => ∃ m', m' < m ∧ I m' Γ2 Φ2) R) ∧ (b = false → N Γ1 Φ1)) : FW X (tWhile tt tb) Γ Φ N R := fun L H σ D c gg k r => by
  refine ⟨fun m σ1 H1 => ∃ L1 Γ1 Φ1, Cur X Φ1 L1 H1 ∧ SameS (hd X Φ L H) (hd X Φ1 L1 H1) ∧ EnvD X Φ1 L1 H1 σ1 Γ1 ∧ I m Γ1 Φ1, ⟨m, L, Γ, Φ, c, SameS.refl _, gg, h0⟩, ?_⟩
  rintro m σ1 H1 ⟨L1, Γ1, Φ1, c1, s1, g1, i1⟩
  obtain ⟨b, ht, h1, h2⟩ := hs m Γ1 Φ1 i1
  refine ht L1 H1 σ1 c1 g1 _ fun H2 e2 => ?_
  have s2 := s1.trans (Same.s (Same.hid (M := hdn X Φ1 L1) e2))
  cases b with
  | true =>
    refine ⟨fun σ' H' => ∃ L' Γ' Φ', Cur X Φ' L' H' ∧ SameS (hd X Φ L H) (hd X Φ' L' H') ∧ EnvD X Φ' L' H' σ' Γ' ∧ ∃ m', m' < m ∧ I m' Γ' Φ', fun σ' H' z => ?_, ?_⟩
    · obtain ⟨L', Γ', Φ', a1, a2, a3, m', a4, a5⟩ := z
      exact ⟨m', a4, L', Γ', Φ', a1, a2, a3, a5⟩
    · exact h1 rfl L1 H2 σ1 _ (c1.up e2) (g1.up e2) (fun L3 H3 σ3 Γ3 Φ3 c3 s3 g3 n3 => ⟨L3, Γ3, Φ3, c3, s2.trans s3, g3, n3⟩) r
  | false => exact k L1 H2 σ1 Γ1 Φ1 (c1.up e2) s2 (g1.up e2) (h2 rfl)
/-! ### comprehensions -/
def wipeG (Γ : Gm) : List Nat → Gm
  | [] => Γ
  | v :: vs => (wipeG Γ vs).set v .no
theorem EnvD.drop (g : EnvD X Φ L H σ Γ) (i : Nat) : EnvD X Φ L H (σ.set i none) (Γ.set i .no) := by
  refine ⟨by simp [g.len], fun j s e => ?_⟩
  by_cases hij : i = j
  · subst hij
    have hi : i < Γ.length := by
      have := (List.getElem?_eq_some_iff.mp e).1
      simpa using this
    rw [List.getElem?_set_self hi] at e
    cases e
    trivial
  · rw [List.getElem?_set_ne hij] at e
    rw [List.getElem?_set_ne hij]
    exact g.ok j s e
theorem EnvD.wipe (g : EnvD X Φ L H σ Γ) : ∀ vs : List Nat, EnvD X Φ L H (wipe σ vs) (wipeG Γ vs)
  | [] => g
  | v :: vs => (EnvD.wipe g vs).drop v
/-- a target that stores the names vs alone -/
def TgW (X : Wd) (Φ : Iv) (g : TG) (vs : List Nat) (d : D) (Γ Γ' : Gm) : Prop := ∀ L H σ v, EnvD X Φ L H σ Γ → Dt (hd X Φ L H) v d → ∀ Q : L2.St → Hp → Prop, (∀ σ', EnvD X Φ L H σ' Γ' → wipe σ' vs = wipe σ vs → Q σ' H) → g v σ H Q
theorem wipe_set1 (σ : L2.St) (i : Nat) (x : Option V) : wipe (σ.set i x) [i] = wipe σ [i] := by
  show (σ.set i x).set i none = σ.set i none
  rw [List.set_set]
theorem tgw_name : TgW X Φ (gName i) [i] d Γ (Γ.set i (.dat d)) := fun L H σ v g r Q q => q _ (g.dat r) (wipe_set1 _ _ _)
/-- .. as long as nothing is changed -/
def WkS (N0 : Ads) (H : Hp) (J : It) (ds : List D) : Prop := ∀ N' H', Same H H' → SameS (hid N0 H) (hid N' H') → Lv N' H' →
  (∀ (i : Nat) d, ds[i]? = some d → J.go i H' ∧ ∀ x H'', J.yld i H' x H'' → Same H' H'' ∧ Dt (hid N' H'') x d) ∧ J.stop ds.length H'
def EvIS (X : Wd) (Φ : Iv) (wi : TI) (Γ : Gm) (ds : List D) : Prop := ∀ L H σ, Cur X Φ L H → EnvD X Φ L H σ Γ → ∀ R : It → Hp → Prop, (∀ J H2, Same H H2 → WkS (hdn X Φ L) H2 J ds → R J H2) → wi σ H R
theorem eis_of {wi : TI} {ds : List D} (h : EvI X Φ wi Γ ds) : EvIS X Φ wi Γ ds := fun L H σ c g R q => h L H σ c g R fun J H2 e wk => q J H2 e fun N' H' _ s lv => wk N' H' s lv
theorem ev_lc0 {α : Type} {wi : TI} {g : TG} {tt : TT} {te : TE} {vs : List Nat} {xs : List α} {enc : α → D} (p : α → Bool) (f : α → D) (hi : EvIS X Φ wi Γ (xs.map enc)) (hz : xs.length < 100000)
    (hs : ∀ x ∈ xs, ∃ Γ2, TgW X Φ g vs (enc x) (wipeG Γ vs) Γ2 ∧ EvT X Φ tt Γ2 (p x) ∧ (p x = true → Ev X Φ te Γ2 (f x))) :
    ∀ L H σ, Cur X Φ L H → EnvD X Φ L H σ Γ → ∀ Q : VK, (∀ D us H1, Same H H1 → H D = none → D ∉ hdn X Φ L → H1 D = some (.lst us) → Dts (hd X Φ ((0, D) :: L) H1) us ((xs.filter p).map f) → Q (.ref D) H1) → tLc wi g tt te vs σ H Q := fun L H σ c gg Q q =>
  hi L H σ c gg _ fun J Ha e1 wk => by
    intro D hD
    have c1 := c.up e1
    have g1 := gg.up e1
    have nD : D ∉ hdn X Φ L := c1.lv.out hD
    refine ⟨fun i m H1 => m = xs.length - i ∧ i ≤ xs.length ∧ Same Ha H1 ∧ ∃ us, H1 D = some (.lst us) ∧ Dts (hd X Φ ((0, D) :: L) H1) us (((xs.take i).filter p).map f), ⟨xs.length, by simp, Nat.zero_le _, new_same hD, [], upd_same, by simpa using Paired.nil⟩, ?_⟩
    rintro i m H1 ⟨rfl, hle, s1, us, hus, rus⟩
    have up : Same (hd X Φ L Ha) (hd X Φ ((0, D) :: L) H1) := by
      rw [← hd_cons (X := X) (Φ := Φ) (L := L) (i := 0) hD]
      exact Same.hid s1
    have cD : Cur X Φ ((0, D) :: L) H1 := by
      refine ⟨c1.but.trans (But.of s1), fun a m z => ?_, fun p hp => ?_, (fun p hp => ?_), ?_, fun p hp => ?_, Iv.same s1 (Same.s up) c1.at_, fun p hp => ?_⟩
      · rcases mem_cons_hdn.mp m with rfl | m
        · rw [hus] at z
          cases z
        · exact (c1.lv.mono s1) a m z
      · rcases List.mem_cons.mp hp with rfl | hp
        · exact c1.but.free hD
        · exact c.new p hp
      · rcases List.mem_cons.mp hp with rfl | hp
        · exact fun z => nD (Or.inr (Or.inl z))
        · exact c.om p hp
      · rw [List.map_cons, List.nodup_cons]
        exact ⟨fun z => nD (Or.inl z), c.nd⟩
      · rcases List.mem_cons.mp hp with rfl | hp
        · exact fun z => nD (Or.inr (Or.inr z))
        · exact c.dj p hp
      · rcases List.mem_cons.mp hp with rfl | hp
        · exact ⟨_, hus⟩
        · exact (c1.ls p hp).imp fun _ z => s1 _ _ z
    have gD : EnvD X Φ ((0, D) :: L) H1 σ Γ := by
      refine ⟨g1.len, fun j s hj => ?_⟩
      have z := g1.ok j s hj
      cases s with
      | no => trivial
      | dat d =>
        obtain ⟨v, h1, h2⟩ := z
        exact ⟨v, h1, h2.mono (Same.s up)⟩
      | val v => exact z
      | own ds =>
        obtain ⟨l', vs2, g1, g2, g3, g4⟩ := z
        exact ⟨l', vs2, g1, List.mem_cons_of_mem _ g2, s1 _ _ g3, g4.mono (Same.s up)⟩
      | tre d =>
        obtain ⟨v, A, g1, g2, g4, g3⟩ := z
        exact ⟨v, A, g1, fun l hl => List.mem_cons_of_mem _ (g2 l hl), fun l hl => (g4 l hl).imp fun _ z => s1 _ _ z, g3.mono (tgv_mono (fun l _ o h => s1 l o h) (Same.s up))⟩
    obtain ⟨go, stop⟩ := wk _ H1 s1 (Same.s up) cD.lv
    rw [List.length_map] at stop
    by_cases hlt : i < xs.length
    · obtain ⟨y1, y2⟩ := go i (enc xs[i]) (by simp [hlt])
      obtain ⟨Γ2, ht, ht2, ht3⟩ := hs xs[i] (List.getElem_mem hlt)
      have tk : xs.take (i + 1) = xs.take i ++ [xs[i]] := by rw [List.take_add_one]; simp [hlt]
      refine .inr ⟨y1, fun H' => Same Ha H' ∧ ∃ us, H' D = some (.lst us) ∧ Dts (hd X Φ ((0, D) :: L) H') us (((xs.take (i + 1)).filter p).map f), fun H' z => ⟨_, by omega, rfl, hlt, z⟩, fun x H' y => ?_⟩
      obtain ⟨e2, rx⟩ := y2 x H' y
      refine ht ((0, D) :: L) H' (L2.wipe σ vs) x ((gD.up e2).wipe vs) rx _ fun σ2 g2 w2 => ⟨?_, ?_⟩
      · rw [w2]
        exact wipe_wipe σ vs
      refine ht2 _ H' σ2 (cD.up e2) g2 _ fun H3 e3 => ?_
      cases hp : p xs[i] with
      | true =>
        show te σ2 H3 _
        refine ht3 hp _ H3 σ2 (cD.up (e2.trans e3)) (g2.up e3) _ fun y H4 e4 ry => ?_
        have e24 := (e2.trans e3).trans e4
        refine ⟨us, e24 _ _ hus, ?_, ?_, us ++ [y], upd_same, ?_⟩
        · have := rus.len
          have h3 : ((List.map f (List.filter p (List.take i xs))).length : Nat) ≤ xs.length := by
            rw [List.length_map]
            exact Nat.le_trans (List.length_filter_le _ _) (by simp; omega)
          exact Nat.lt_of_lt_of_le (by omega) (by decide : 100000 ≤ sizeLine)
        · intro a o ha
          rw [upd_ne (ne_of_none ha hD)]
          exact e24 _ _ (s1 _ _ ha)
        · have eq : hd X Φ ((0, D) :: L) (upd H4 D (.lst (us ++ [y]))) = hd X Φ ((0, D) :: L) H4 := hid_upd (mem_cons_hdn.mpr (.inl rfl))
          rw [eq, tk, List.filter_append, List.map_append]
          refine (rus.mono (Same.s (Same.hid e24))).app ?_
          rw [List.filter_cons, hp]
          exact .cons ry .nil
      | false =>
        show Same Ha H3 ∧ _
        refine ⟨(s1.trans e2).trans e3, us, (e2.trans e3) _ _ hus, ?_⟩
        rw [tk, List.filter_append, List.map_append, List.filter_cons, hp]
        have z : Dts (hd X Φ ((0, D) :: L) H3) us (((xs.take i).filter p).map f) := rus.mono (Same.s (Same.hid (e2.trans e3)))
        have e0 : ((xs.take i).filter p).map f ++ (if false = true then xs[i] :: List.filter p [] else List.filter p []).map f = ((xs.take i).filter p).map f := by simp
        rw [e0]
        exact z
    · have e : i = xs.length := by omega
      subst e
      rw [List.take_length] at rus
      exact .inl ⟨stop, q D us H1 (e1.trans s1) (e1.free hD) nD hus rus⟩
where
  wipe_wipe (σ : L2.St) : ∀ vs : List Nat, L2.wipe (L2.wipe σ vs) vs = L2.wipe σ vs := fun vs => by
    refine List.ext_getElem? fun k => ?_
    by_cases hk : k ∈ vs
    · rw [wiped (σ := L2.wipe σ vs) hk, wiped (σ := σ) hk, wipe_length]
    · rw [wipe_out hk]
  wiped {σ : L2.St} {k : Nat} : ∀ {vs : List Nat}, k ∈ vs → (L2.wipe σ vs)[k]? = if k < σ.length then some none else none
    | v :: vs, h => by
      show ((L2.wipe σ vs).set v none)[k]? = _
      by_cases e : v = k
      · subst e
        by_cases hl : v < σ.length
        · rw [if_pos hl, List.getElem?_set_self (by rw [wipe_length]; exact hl)]
        · rw [if_neg hl, List.getElem?_eq_none (by rw [List.length_set, wipe_length]; omega)]
      · rw [List.getElem?_set_ne e]
        exact wiped ((List.mem_cons.mp h).elim (fun z => absurd z.symm e) id)
theorem ev_lc {α : Type} {wi : TI} {g : TG} {tt : TT} {te : TE} {vs : List Nat} {xs : List α} {enc : α → D} (p : α → Bool) (f : α → D) (hi : EvI X Φ wi Γ (xs.map enc)) (hz : xs.length < 100000)
    (hs : ∀ x ∈ xs, ∃ Γ2, TgW X Φ g vs (enc x) (wipeG Γ vs) Γ2 ∧ EvT X Φ tt Γ2 (p x) ∧ (p x = true → Ev X Φ te Γ2 (f x))) : Ev X Φ (tLc wi g tt te vs) Γ (.list ((xs.filter p).map f)) := fun L H σ c gg Q q =>
  ev_lc0 p f (eis_of hi) hz hs L H σ c gg Q fun D us H1 e n nD h r => q _ H1 e (.lst ((hid_out nD).trans h) (r.mono (Same.s (hid_sub fun a ha => mem_cons_hdn.mpr (.inr ha)))))
theorem et_yes : EvT X Φ tYes Γ true := fun L H σ c g Q q => q H (Same.refl H)
/-- [e for x in xs] -/
theorem ev_lcm {α : Type} {wi : TI} {g : TG} {te : TE} {vs : List Nat} {xs : List α} {enc : α → D} (f : α → D) (hi : EvI X Φ wi Γ (xs.map enc)) (hz : xs.length < 100000)
    (hs : ∀ x ∈ xs, ∃ Γ2, TgW X Φ g vs (enc x) (wipeG Γ vs) Γ2 ∧ Ev X Φ te Γ2 (f x)) : Ev X Φ (tLc wi g tYes te vs) Γ (.list (xs.map f)) := by
  have h := ev_lc (tt := tYes) (p := fun _ => true) f hi hz fun x hx => by
    obtain ⟨Γ2, h1, h2⟩ := hs x hx
    exact ⟨Γ2, h1, et_yes, fun _ => h2⟩
  rwa [List.filter_eq_self.mpr fun _ _ => rfl] at h
theorem ei_seqL {K : PySem.W.Frag} {ds : List D} (h : Ev X Φ te Γ (.list ds)) : EvI X Φ (iSeqU K te) Γ ds := fun L H σ c g R q => .inl (ei_list h L H σ c g R q)
theorem ei_seqT {K : PySem.W.Frag} {ds : List D} (h : Ev X Φ te Γ (.tuple ds)) : EvI X Φ (iSeqU K te) Γ ds := fun L H σ c g R q => .inr (.inl (ei_tup h L H σ c g R q))
theorem ei_eq {wi : TI} {ds es : List D} (h : EvI X Φ wi Γ ds) (e' : ds = es) : EvI X Φ wi Γ es := e' ▸ h
/-! ### statements that leave Φ -/
section
variable {N N1 : Gm → Prop} {R : D → Prop}
theorem sw_mono (h : SW X Φ t Γ N1 R) (hn : ∀ Γ', N1 Γ' → N Γ') : SW X Φ t Γ N R := fw_mono h fun Γ' Φ' z => ⟨z.1, hn Γ' z.2⟩
theorem sw_seq (h1 : SW X Φ t Γ N1 R) (h2 : ∀ Γ', N1 Γ' → SW X Φ u Γ' N R) : SW X Φ (tSeq t u) Γ N R := fw_seq h1 fun Γ' Φ' ⟨e, n⟩ => by
  subst e
  exact h2 Γ' n
theorem sw_then (h1 : SW X Φ t Γ (· = Γ') R) (h2 : SW X Φ u Γ' N R) : SW X Φ (tSeq t u) Γ N R := sw_seq h1 fun _ e => e ▸ h2
theorem sw_next (h : N Γ) : SW X Φ tNext Γ N R := fw_next ⟨rfl, h⟩
theorem sw_asg (h : Ev X Φ te Γ d) : SW X Φ (tAsg te (gName i)) Γ (· = Γ.set i (.dat d)) R := fw_asg h ⟨rfl, rfl⟩
theorem sw_ret (h : Ev X Φ te Γ d) (hr : R d) : SW X Φ (tRet te) Γ N R := fw_ret h ⟨rfl, d, rfl, hr⟩
theorem sw_if (h : EvT X Φ tt Γ b) (h1 : b = true → SW X Φ t Γ N R) (h2 : b = false → SW X Φ u Γ N R) : SW X Φ (tIfS tt t u) Γ N R := fw_if h h1 h2
theorem sw_own0 : SW X Φ (tAsg (tLst tNil) (gName i)) Γ (· = Γ.set i (.own [])) R := fw_own0 ⟨rfl, rfl⟩
theorem sw_app {K : PySem.W.Frag} {ds : List D} (ho : Γ[i]? = some (.own ds)) (h : Ev X Φ te Γ d) (hz : ds.length < 100000) : SW X Φ (tDrop (tBM K "list" rAppend (tVar i) (tCons te tNil))) Γ (· = Γ.set i (.own (ds ++ [d]))) R := fw_app ho h hz ⟨rfl, rfl⟩
theorem sw_retOwn {ds : List D} (ho : Γ[i]? = some (.own ds)) (hr : R (.list ds)) : SW X Φ (tRet (tVar i)) Γ N R := fw_retOwn ho ⟨rfl, _, rfl, hr⟩
theorem sw_for {wi : TI} {g : TG} {tb : TS} {ds : List D} (hi : EvI X Φ wi Γ ds) (I : Nat → Gm → Prop) (h0 : I 0 Γ)
    (hs : ∀ (k : Nat) d Γ1, ds[k]? = some d → I k Γ1 → ∃ Γ2, Tg X Φ g d Γ1 Γ2 ∧ SW X Φ tb Γ2 (I (k + 1)) R) (hn : ∀ Γ1, I ds.length Γ1 → N Γ1) : SW X Φ (tFor wi g tb) Γ N R :=
  fw_for hi (fun k Γ1 Φ1 => Φ1 = Φ ∧ I k Γ1) ⟨rfl, h0⟩ (fun k d Γ1 Φ1 hk hI => by
    obtain ⟨rfl, hI⟩ := hI
    exact hs k d Γ1 hk hI) fun Γ1 Φ1 hI => ⟨hI.1, hn Γ1 hI.2⟩
theorem sw_while {tb : TS} (I : Gm → Prop) (μ : Gm → Nat) (h0 : I Γ) (hs : ∀ Γ1, I Γ1 → ∃ b, EvT X Φ tt Γ1 b ∧ (b = true → SW X Φ tb Γ1 (fun Γ2 => I Γ2 ∧ μ Γ2 < μ Γ1) R) ∧ (b = false → N Γ1)) : SW X Φ (tWhile tt tb) Γ N R :=
  fw_while (fun m Γ1 Φ1 => Φ1 = Φ ∧ I Γ1 ∧ m = μ Γ1) (μ Γ) ⟨rfl, h0, rfl⟩ fun m Γ1 Φ1 hI => by
    obtain ⟨rfl, hI, rfl⟩ := hI
    obtain ⟨b, h1, h2, h3⟩ := hs Γ1 hI
    exact ⟨b, h1, fun hb => fw_mono (h2 hb) fun Γ' Φ' z => ⟨μ Γ', z.2.2, z.1, z.2.1, rfl⟩, fun hb => ⟨rfl, h3 hb⟩⟩
end
end
end SE

set_option Elab.async false
set_option linter.all false
set_option maxRecDepth 100000
set_option maxHeartbeats 4000000
/-! Promises: defs over trees; the store; the file. -/
namespace Sp
open PySem L2 SM SR SD SE
/-- where the classes stand -/
structure Ad where
  (File Store SpillError BadFile BadRows BadKey BadWorth NoRow Full NoMark Stopped BadCount BadDeeds BadPicture BadStep BadText : Addr)
  T : List (Addr × Str)
  (tW tP : Addr := 0)
/-- what a def comes to -/
inductive Rs where
  | ok (d : D)
  | er (c : Addr)
  | ef (c : Addr) (f : Str) (n : Int)
/-- the ends that a result wishes for, what is hidden being M -/
def RsTo (M : Ads) (H : Hp) (Q : VK) (E : XK) : Option Rs → Prop
  | some (.ok d) => ∀ v H', Same H H' → Dt (hid M H') v d → Q v H'
  | some (.er c) => ∀ H', Same H H' → E (.ref c) none H'
  | some (.ef c f n) => ∀ b H', Same H H' → H' b = some (.xd [(f, .int n)]) → E (.ref c) (some b) H'
  | none => False
/-- a def that writes nothing of its caller's -/
def SpP (f : List D → Option Rs) : Sp := fun vs H Q E => ∃ M ds, Lv M H ∧ Dts (hid M H) vs ds ∧ RsTo M H Q E (f ds)
/-- .. a method of the object at o, of which At tells -/
def SpO {S : Type} (At : Ads → Hp → Addr → S → Prop) (f : S → List D → Option Rs) : Sp := fun vs H Q E => ∃ M o us s ds, vs = .ref o :: us ∧ Lv M H ∧ At M H o s ∧ Dts (hid M H) us ds ∧ RsTo M H Q E (f s ds)
def ErTo (E : XK) (H' : Hp) : Rs → Prop
  | .ok _ => True
  | .er c => E (.ref c) none H'
  | .ef c f n => ∀ b, H' b = some (.xd [(f, .int n)]) → E (.ref c) (some b) H'
theorem er_of {M : Ads} {H H' : Hp} {Q : VK} {E : XK} {r : Rs} (h : RsTo M H Q E (some r)) (x : But [] H H') : ErTo E H' r := by
  cases r with
  | ok d => trivial
  | er c => exact h H' x.same
  | ef c f n => exact fun b hb => h b H' x.same hb
section
variable {X : Wd} {Φ : Iv} {M : Ads} {H : Hp} {Γ : Gm} {L : Lo} {σ : L2.St} {d : D} {E : XK} {te to : TE} {ta : TA} {o C : Addr} {m : Str} {ds : List D} {r : Rs}
/-- an expression that may raise -/
def EvR (X : Wd) (Φ : Iv) (te : TE) (Γ : Gm) (E : XK) (r : Rs) : Prop := ∀ L H σ, Cur X Φ L H → EnvD X Φ L H σ Γ → ∀ Q : VK, RsTo (hdn X Φ L) H Q E (some r) → te σ H Q
theorem ev_ok (h : EvR X Φ te Γ E (.ok d)) : Ev X Φ te Γ d := fun L H σ c g Q q => h L H σ c g Q q
theorem er_callP {f : List D → Option Rs} (h : EvA X Φ ta Γ ds) (e : f ds = some r) : EvR X Φ (tCall (SpP f) [] E ta) Γ E r := fun L H σ c g Q q => h L H σ c g _ fun vs H1 e1 rr => by
  rw [List.append_nil]
  refine ⟨_, ds, (c.up e1).lv, rr, ?_⟩
  rw [e]
  cases r with
  | ok d => exact fun v H' e2 r2 => q v H' (e1.trans e2) r2
  | er z => exact fun H' e2 => q H' (e1.trans e2)
  | ef z x n => exact fun b H' e2 hb => q b H' (e1.trans e2) hb
theorem ev_callP {f : List D → Option Rs} (h : EvA X Φ ta Γ ds) (e : f ds = some (.ok d)) : Ev X Φ (tCall (SpP f) [] E ta) Γ d := ev_ok (er_callP h e)
/-- raise X(n) -/
theorem fw_raiseF {N : Gm → Iv → Prop} {R : Ro → Iv → Prop} {c : Addr} {f : Str} {n : Int} (ha : EvA X Φ ta Γ [.int n]) (hn : n.natAbs.log2 < 1000) (hx : ∀ L H', Cur X Φ L H' → ErTo E H' (.ef c f n)) : FW X (tRaiseF c f E ta) Γ Φ N R := fun L H σ D cc g _ _ =>
  ha L H σ cc g _ fun vs H1 e1 r => by
    cases r with
    | cons r1 r2 =>
      cases r2
      cases r1
      exact ⟨n, rfl, hn, fun b H2 e2 _ hb => hx L H2 (cc.up (e1.trans e2)) b hb⟩
end
/-! ### defs that change nothing -/
section
variable {Φ : Iv} {M : Ads} {H : Hp} {Γ : Gm} {d : D} {E : XK} {te to : TE} {ta : TA} {r : Rs} {N : Gm → Prop} {R : D → Prop}
abbrev wd (M : Ads) (H : Hp) : Wd := ⟨[], M, H⟩
theorem er_cur {L : Lo} {H' : Hp} {Q : VK} (h : RsTo M H Q E (some r)) (c : Cur (wd M H) Φ L H') : ErTo E H' r := er_of h c.but
theorem sw_raiseF {c : Addr} {f : Str} {n : Int} {Q : VK} (ha : EvA (wd M H) Φ ta Γ [.int n]) (hn : n.natAbs.log2 < 1000) (hr : RsTo M H Q E (some (.ef c f n))) : SW (wd M H) Φ (tRaiseF c f E ta) Γ N R := fw_raiseF ha hn fun L H' cc => er_cur hr cc
/-- what holds at the entry -/
structure At0 (Φ : Iv) (M : Ads) (H : Hp) : Prop where
  lv : ∀ b ∈ Φ.fp, H b ≠ none
  s : SameS (hid M H) (hid (HAppend.hAppend M Φ.fp) H)
  p : Φ.p M H
theorem At0.nil : At0 Iv.nil M H := ⟨nofun, fun b o h z => by
  obtain ⟨m, h⟩ := hid_some h
  exact (hid_out (show ¬ (b ∈ M ∨ b ∈ []) from fun y => y.elim m nofun)).trans h, trivial⟩
theorem At0.cur {A : List Addr} (h : At0 Φ M H) (lv : Lv M H) : Cur ⟨A, M, H⟩ Φ [] H := ⟨But.refl _ _, fun a m => by
  rcases m with m | m | m
  · cases m
  · exact lv a m
  · exact h.lv a m, nofun, nofun, List.nodup_nil, nofun, Iv.same (Same.refl H) (h.s.trans (Same.s (hid_sub fun a m => by
  rcases m with m | m
  · cases m
  · exact m))) h.p, nofun⟩
theorem start_s (h : At0 Φ M H) {A : List Addr} : SameS (hid M H) (hd ⟨A, M, H⟩ Φ [] H) := h.s.trans (Same.s (hid_sub fun a m => by
  rcases m with m | m
  · cases m
  · exact m))
/-- from the data's walk to the reading -/
theorem sw_fin {t : TS} {N : List Str} {vs : List V} {r : Option Rs} {Q : VK} (lv : Lv M H) (h0 : At0 Φ M H) (g : EnvD (wd M H) Φ [] H (L2.start N vs) Γ) (hs : SW (wd M H) Φ t Γ (fun _ => r = some (.ok .none)) (fun d => r = some (.ok d))) (hr : RsTo M H Q E r) :
    t { nx := fun _ H' => Q .non H', rt := Q } (L2.start N vs) H := by
  refine hs [] H (L2.start N vs) _ (h0.cur lv) g (fun L' H' σ' Γ' Φ' c' s' g' n => ?_) fun v ro H' Φ' b hp rd ed => ?_
  · obtain ⟨rfl, n⟩ := n
    subst n
    exact hr .non H' c'.but.same .non
  · obtain ⟨rfl, d, rfl, ed⟩ := ed
    subst ed
    exact hr v H' b.same (Dt.mono (Same.s (hid_sub fun a ha => Or.inl ha)) rd)
/-- the names at the entry -/
theorem env_start {A : List Addr} {N : List Str} {vs : List V} {ds : List D} (h0 : At0 Φ M H) (r : Dts (hid M H) vs ds) (hl : ds.length ≤ N.length) : EnvD ⟨A, M, H⟩ Φ [] H (L2.start N vs) (ds.map Sl.dat ++ List.replicate (N.length - ds.length) Sl.no) := by
  have hv := r.len
  refine ⟨by simp [L2.start, hv], fun i s e => ?_⟩
  by_cases hi : i < ds.length
  · rw [List.getElem?_append_left (by simpa using hi)] at e
    rw [List.getElem?_map] at e
    cases q : ds[i]? with
    | none =>
      rw [q] at e
      cases e
    | some d =>
      rw [q] at e
      cases e
      obtain ⟨v, h1, h2⟩ := r.get q
      refine ⟨v, ?_, h2.mono (start_s h0)⟩
      unfold L2.start
      rw [List.getElem?_append_left (by simp [hv, hi]), List.getElem?_map, h1]
      rfl
  · rw [List.getElem?_append_right (by simpa using hi)] at e
    have := List.mem_of_getElem? e
    rw [List.eq_of_mem_replicate this]
    trivial
theorem env_startO {A : List Addr} {N : List Str} {o : Addr} {vs : List V} {ds : List D} (h0 : At0 Φ M H) (r : Dts (hid M H) vs ds) (hl : ds.length + 1 ≤ N.length) : EnvD ⟨A, M, H⟩ Φ [] H (L2.start N (.ref o :: vs)) (Sl.val (.ref o) :: (ds.map Sl.dat ++ List.replicate (N.length - (ds.length + 1)) Sl.no)) := by
  have hv := r.len
  refine ⟨by simp [L2.start, hv], fun i s e => ?_⟩
  cases i with
  | zero =>
    cases e
    rfl
  | succ i =>
    rw [List.getElem?_cons_succ] at e
    have hs : (L2.start N (.ref o :: vs))[i + 1]? = (vs.map some ++ List.replicate (N.length - (ds.length + 1)) none)[i]? := by
      unfold L2.start
      rw [List.map_cons, List.cons_append, List.getElem?_cons_succ, List.length_cons, hv]
    by_cases hi : i < ds.length
    · rw [List.getElem?_append_left (by simpa using hi), List.getElem?_map] at e
      cases q : ds[i]? with
      | none =>
        rw [q] at e
        cases e
      | some d =>
        rw [q] at e
        cases e
        obtain ⟨v, h1, h2⟩ := r.get q
        refine ⟨v, ?_, h2.mono (start_s h0)⟩
        rw [hs, List.getElem?_append_left (by simp [hv, hi]), List.getElem?_map, h1]
        rfl
    · rw [List.getElem?_append_right (by simpa using hi)] at e
      have := List.mem_of_getElem? e
      rw [List.eq_of_mem_replicate this]
      trivial
end
end Sp

set_option Elab.async false
set_option linter.all false
set_option maxRecDepth 100000
set_option maxHeartbeats 4000000
/-! The end of a law: facts by looks, the walk. -/
namespace Sp
open PySem PySem.Spec PyProof.Rows L2 SM SR SD SE
/-- an exception class with an __init__ of its own -/
def oexB (K : PySem.W.Frag) (C : Addr) : Bool := (match K.lookup C with
  | some ⟨.type "type", _, .cls cd, sl⟩ => (match cd.mro, sl.toList with
    | .ref B :: bm, [_, _, _, _, some (.builtin n), _] => decide (B = C) && (decide (n = "ValueError.__new__") && (cd.hasDict && (!cd.hasDel && PySem.HandSPX.refsVE bm)))
    | _, _ => false)
  | _ => false) && (He.eqO (PySem.W.findIn K (.ref C) "__setattr__") (some (some (.builtin "object.__setattr__"))) && (decide (PySem.W.subIn K (.ref C) (.type "BaseException") = some true) && (decide (PySem.W.typeIn K (.ref C) = some (.type "type")) && PySem.W.keepIn K (.ref C))))
theorem oexB_ok {K : PySem.W.Frag} {C : Addr} (h : oexB K C = true) : OexC K C := by
  obtain ⟨h1, h⟩ := He.ba h
  obtain ⟨h2, h⟩ := He.ba h
  obtain ⟨h3, h⟩ := He.ba h
  obtain ⟨h4, h5⟩ := He.ba h
  refine ⟨?_, He.eqO_ok h2, of_decide_eq_true h3, of_decide_eq_true h4, h5⟩
  split at h1
  · rename_i dd cd sl ho
    split at h1
    · rename_i B bm k0 k1 k2 k3 n k5 hm hs
      obtain ⟨e1, h1⟩ := He.ba h1
      obtain ⟨e2, h1⟩ := He.ba h1
      obtain ⟨e3, h1⟩ := He.ba h1
      obtain ⟨e4, e5⟩ := He.ba h1
      have e1 := of_decide_eq_true e1
      have e2 := of_decide_eq_true e2
      obtain ⟨nm, bs, mro, ns, qn, hd, sn, sub, ab, col, del⟩ := cd
      obtain ⟨l⟩ := sl
      dsimp only at hm hs e3 e4
      have e4 : del = false := by simpa using e4
      subst hm hs e1 e2 e3 e4
      exact ⟨nm, qn, ns, bs, bm, sn, sub, ab, col, dd, k0, k1, k2, k3, k5, ho, e5⟩
    · cases h1
  · cases h1
/-- the class above them -/
def xsB (K : PySem.W.Frag) (C : Addr) : Bool := PySem.W.readsIn K C (.type "type") && (He.eqO (PySem.W.specialIn K (.ref C) "__getattribute__") (some (some (.builtin "type.__getattribute__"))) && (decide (PySem.W.typeIn K (.ref C) = some (.type "type")) && (match PySem.W.findCls K (.ref C) (.type "type") "__init__" with
  | some (.val (.builtin n)) => decide (n = "ValueError.__init__")
  | _ => false)))
theorem xsB_ok {K : PySem.W.Frag} {mg : Str → Option Value} {x : Str} {C : Addr} (g : mg x = some (.ref C)) (h : xsB K C = true) : Xs K mg x C := by
  obtain ⟨h1, h⟩ := He.ba h
  obtain ⟨h2, h⟩ := He.ba h
  obtain ⟨h3, h4⟩ := He.ba h
  refine ⟨g, ⟨h1, He.eqO_ok h2⟩, of_decide_eq_true h3, ?_⟩
  split at h4
  · rename_i n q
    rw [q, of_decide_eq_true h4]
  · cases h4
/-- its field, its __init__ -/
def xfB (K : PySem.W.Frag) (C : Addr) (f : Str) : Bool := oexB K C && (He.eqO (PySem.W.findIn K (.ref C) f) (some none) && (He.eqO (PySem.W.findIn K (.ref C) "__init__") (some (some (.ref (He.ma K C "__init__")))) && decide (PySem.W.typeIn K (.ref (He.ma K C "__init__")) = some (.type "function"))))
theorem xfB_ok {P : Program} {w : World} {K : PySem.W.Frag} {mg : Str → Option Value} {base : Heap} {k : Nat} {x : Str} {C : Addr} {f p : Str} {fd : FuncData} (g : mg x = some (.ref C)) (h : xfB K C f = true) (b : Binds K fd ["self", p] []) (F : FnOk P w K mg base (L2.CX P w) k (He.ma K C "__init__") fd ["self", p] (spXi f K C)) : Xf P w K mg base k x C f := by
  obtain ⟨h1, h⟩ := He.ba h
  obtain ⟨h2, h⟩ := He.ba h
  obtain ⟨h3, h4⟩ := He.ba h
  exact ⟨g, oexB_ok h1, He.eqO_ok h2, _, _, _, He.eqO_ok h3, of_decide_eq_true h4, b, F⟩
/-! ### the hook, with the statics' table -/
open PySem.W in
def asY (g : Addr → Option Obj) (n : Nat) : List Addr := HAppend.hAppend (He.asD g n) [cStatics]
def frY (g : Addr → Option Obj) (n : Nat) : PySem.W.Frag := He.frT g (asY g n)
/-! lengths -/
theorem len_P {f : List D → Option Rs} {n : Nat} (h : ∀ ds r, f ds = some r → ds.length = n) : ∀ vs H Q E, SpP f vs H Q E → vs.length = n := fun vs H Q E ⟨M, ds, lv, r, t⟩ => by
  rw [Dts.len r]
  cases e : f ds with
  | none =>
    rw [e] at t
    exact t.elim
  | some x => exact h ds x e
theorem len_O {S : Type} {At : Ads → Hp → Addr → S → Prop} {f : S → List D → Option Rs} {n : Nat} (h : ∀ s ds r, f s ds = some r → ds.length = n) : ∀ vs H Q E, SpO At f vs H Q E → vs.length = n + 1 := fun vs H Q E ⟨M, o, us, s, ds, ev, lv, at_, r, t⟩ => by
  rw [ev, List.length_cons, Dts.len r]
  cases e : f s ds with
  | none =>
    rw [e] at t
    exact t.elim
  | some x => rw [h s ds x e]
end Sp

set_option Elab.async false
set_option linter.all false
set_option maxRecDepth 100000
set_option maxHeartbeats 4000000
/-! What the classes say, by a Bool: its text. -/
namespace Sp
open PySem PySem.Spec PyProof.Rows L2 SM SR SD SE
/-- the classes, their words, their fields -/
def wTab (a : Ad) : List (Addr × Str × Option Str) := [(a.BadRows, "rows", some "number"), (a.BadDeeds, "deeds", some "number"), (a.BadStep, "step", some "number"), (a.BadText, "text", some "row"), (a.BadPicture, "picture", some "part"), (a.BadFile, "file", none), (a.BadKey, "key", none), (a.BadWorth, "worth", none), (a.NoRow, "row", none), (a.Full, "full", none), (a.NoMark, "mark", none), (a.Stopped, "stopped", none), (a.BadCount, "count", none)]
def excB (K : PySem.W.Frag) (D : Addr) : Bool := decide (PySem.W.findIn K (.ref D) "__getattribute__" = some (some (.builtin "BaseException.__getattribute__"))) && (decide (PySem.W.findIn K (.ref D) "__getattr__" = some none) && (decide (PySem.W.subIn K (.ref D) (.type "BaseException") = some true) && (PySem.W.hasDictIn K D && (decide (PySem.W.findIn K (.ref D) "__class__" = some (some (.builtin "object.__class__"))) && (decide (PySem.W.specialIn K (.builtin "object.__class__") "__get__" = some (some (.builtin "getset_descriptor.__get__"))) && (decide (PySem.W.takesIn K (.builtin "object.__class__") = some true) && decide (PySem.W.mroIn K D (.type "object") = some true)))))))
def wordB1 (K : PySem.W.Frag) (a : Ad) (t : Addr × Str × Option Str) : Bool := excB K t.1 && (decide (PySem.W.kitOne K (.ref t.1) (.type "ValueError") = some true) && (decide (PySem.W.exmOne K (.ref t.1) (.ref a.SpillError) = some true) && (match t.2.2 with
  | none => true
  | some f => L2.xfB K t.1 && decide (PySem.W.findIn K (.ref t.1) f = some none))))
def wordB2 (K : PySem.W.Frag) (a : Ad) (j i : Nat) : Bool := match (wTab a)[j]?, (wTab a)[i]? with
  | some t, some u => decide (PySem.W.kitOne K (.ref t.1) (.ref u.1) = some (decide (i = j)))
  | _, _ => true
def wordB (K : PySem.W.Frag) (a : Ad) : Bool := ((wTab a).all fun t => wordB1 K a t) && (List.range 13).all fun j => (List.range 13).all fun i => wordB2 K a j i
end Sp

set_option Elab.async false
set_option linter.all false
set_option maxRecDepth 100000
set_option maxHeartbeats 4000000
/-! try with a call in it; a table of the module, asked with get. -/
namespace SR
open PySem PySem.Spec PyProof.Rows L2 SM
section
variable {X : Cx} {k : Nat} {x m : Str} {ps : List Str} {sp : Sp} {W : WX} {C : Addr} {e o f : Expr} {es : List Expr} {t : TA} {ta td ty tx : TE} {p pos apos cpos : Pos}
/-- the program's tables -/
def sizesP : List (Str × Int) := [("find", 1), ("look", 1), ("put", 2), ("take", 1), ("mark", 0), ("next", 1), ("relay", 1), ("stop", 1), ("mend", 0)]
/-- a table of the module: texts, numbers -/
def DctI (K : PySem.W.Frag) (w : World) (a : Addr) (kvs : List (Str × Int)) : Prop := (∃ es n, KDict K w a es n) ∧ ∀ x, ∃ r, PySem.W.nsIn K a x = some r ∧ match kvs.lookup x with
  | some i => ∃ t, r = some (Value.int i t)
  | none => r = none
def tKGet2 (a : Addr) (kvs : List (Str × Int)) (td ty tx : TE) : TE := fun σ H Q => td σ H fun x H1 => x = .ref a ∧ ty σ H1 fun y H2 => tx σ H2 fun z H3 => ∃ s : Str, y = .str s ∧ Q (match kvs.lookup s with
  | some i => .int i
  | none => z) H3
theorem pe_kget2 {a : Addr} {kvs : List (Str × Int)} (D : DctI X.K X.w a kvs) (ho : PE X o td) (he : PE X e ty) (hf : PE X f tx) (m : M2 X o "get" apos e f cpos) : PE X (.Call (.Attribute o "get" apos) [e, f] [] cpos) (tKGet2 a kvs td ty tx) := by
  obtain ⟨⟨es, n, kd⟩, hv⟩ := D
  refine ⟨fun pins s σ H Q I h => ?_⟩
  refine wpAny_Call_method m.base m.few m.line PySem.F.plainAttrs_dict PySem.F.slot_dict_get PySem.F.type_dict_get (thn (ho.run pins s σ H _ I h) fun u s1 ⟨x, H1, I1, rx, ex, q1⟩ => ?_)
  subst ex
  obtain rfl : u = Value.ref a := rx
  have mo := PySem.W.mapOf_K (prog := X.prog) (w := X.w) I1.kIn kd.at_ kd.lit
  refine ⟨mo.typeIs, mo.noDict, ?_⟩
  rw [m.trees]
  refine Calls.callWith_builtin rfl (Calls.evalArgs_plain (Calls.spliced_cons (thn (he.run pins s1 σ H1 _ I1 q1) fun iv s2 ⟨y, H2, I2, ry, q2⟩ =>
    Calls.spliced_cons (thn (hf.run pins s2 σ H2 _ I2 q2) fun fv s3 ⟨z, H3, I3, rz, s0, ey, q3⟩ => Calls.spliced_nil ?_))))
  subst ey
  obtain ⟨tk, rfl⟩ : ∃ tk, iv = Value.str s0 tk := ry
  have mo3 := PySem.W.mapOf_K (prog := X.prog) (w := X.w) I3.kIn kd.at_ kd.lit
  obtain ⟨r, hr, hm⟩ := hv s0
  refine call_meetsIn PySem.F.slot_dict_get mo3.typeIs PySem.F.entry_dict_get (PySem.F.args_dict_get_3 _ _ _) (meets_dict_get_default (strKind X.prog X.w) a (strKind_is X.prog X.w s0 tk) kd.low fv) ⟨_, mo3, ?_⟩
  rw [PySem.W.find_K kd.at_ hr]
  cases hl : kvs.lookup s0 with
  | some i =>
    rw [hl] at hm q3
    obtain ⟨t, rfl⟩ := hm
    exact ⟨.int i, H3, I3.tok _, ⟨t, rfl⟩, q3⟩
  | none =>
    rw [hl] at hm q3
    subst hm
    exact ⟨z, H3, I3.tok _, rz, q3⟩
/-! a table by looks -/
def tabB (K : PySem.W.Frag) (a : Addr) (kvs : List (Str × Int)) : Bool := kvs.all fun q => match PySem.W.nsIn K a q.1 with
  | some (some (.int j _)) => decide (j = q.2)
  | _ => false
theorem lookup_mem : ∀ {kvs : List (Str × Int)} {x : Str} {i : Int}, kvs.lookup x = some i → (x, i) ∈ kvs
  | [], _, _, h => by cases h
  | (y, j) :: r, x, i, h => by
    unfold List.lookup at h
    split at h
    · rename_i e
      cases h
      have : x = y := by simpa using e
      subst this
      exact List.mem_cons_self
    · exact List.mem_cons_of_mem _ (lookup_mem h)
theorem lookup_no : ∀ {kvs : List (Str × Int)} {x : Str}, kvs.lookup x = none → ∀ q ∈ kvs, q.1 ≠ x
  | [], _, _, _, h => by cases h
  | (y, j) :: r, x, h, q, hq => by
    unfold List.lookup at h
    split at h
    · cases h
    · rename_i e
      rcases List.mem_cons.mp hq with rfl | hq
      · intro z
        have z : y = x := z
        subst z
        simp at e
      · exact lookup_no h q hq
theorem dct_ok {K : PySem.W.Frag} {w : World} {a : Addr} {kvs : List (Str × Int)} (h1 : He.dicW K a = some (He.keysIn w.params (kvs.map (·.1)))) (h2 : tabB K a kvs = true) : DctI K w a kvs := by
  obtain ⟨es, n, kd⟩ := He.dicW_ok h1
  refine ⟨⟨es, n, kd⟩, fun x => ?_⟩
  cases hl : kvs.lookup x with
  | some i =>
    have := List.all_eq_true.mp h2 (x, i) (lookup_mem hl)
    split at this
    · rename_i j t e
      have := of_decide_eq_true this
      subst this
      exact ⟨_, e, t, rfl⟩
    · cases this
  | none =>
    refine ⟨none, ?_, rfl⟩
    have hne := lookup_no hl
    have hk : es.toList.map He.keyOf = He.keysIn w.params (kvs.map (·.1)) := by
      unfold He.dicW at h1
      rw [kd.at_] at h1
      dsimp only at h1
      rw [kd.low] at h1
      exact Option.some.inj h1
    unfold PySem.W.nsIn
    rw [kd.at_]
    dsimp only
    have each : ∀ d ∈ es.toList, ∃ z t, d.key = .str z t ∧ z ≠ x := fun d hd => by
      obtain ⟨z, t, e1, _⟩ := kd.lit.all d hd
      refine ⟨z, t, e1, fun ez => ?_⟩
      have : He.keyOf d ∈ es.toList.map He.keyOf := List.mem_map.mpr ⟨d, hd, rfl⟩
      rw [hk] at this
      obtain ⟨k, hk2, e2⟩ := List.mem_map.mp this
      obtain ⟨q, hq, rfl⟩ := List.mem_map.mp hk2
      have e3 : He.keyOf d = some (z, d.hash) := by
        unfold He.keyOf
        rw [e1]
      rw [e3] at e2
      have := congrArg Prod.fst (Option.some.inj e2)
      exact hne q hq (this.trans ez)
    have hf : es.toList.find? (fun d => d.key.isStr x) = none := List.find?_eq_none.mpr fun d hd => by
      obtain ⟨z, t, e1, ne⟩ := each d hd
      rw [e1]
      simp [Value.isStr, ne]
    have ha : es.toList.any (fun d => d.refKey) = false := List.any_eq_false.mpr fun d hd => by
      obtain ⟨z, t, e1, ne⟩ := each d hd
      simp [DictEntry.refKey, e1]
    rw [hf, ha]
    rfl
end
end SR

set_option Elab.async false
set_option linter.all false
set_option maxRecDepth 100000
set_option maxHeartbeats 4000000
/-! What the excepts say, by looks. -/
namespace Sp
open PySem L2 SM SR SD SE
/-- what the excepts say of the classes -/
def errs (a : Ad) : List Addr := [a.BadKey, a.BadWorth, a.NoRow, a.Full, a.NoMark, a.Stopped, a.BadCount]
structure TryOk (K : PySem.W.Frag) (a : Ad) : Prop where
  st : ∀ c ∈ errs a, PySem.W.exmOne K (.ref c) (.ref a.Stopped) = some (decide (c = a.Stopped))
  sp : ∀ c ∈ errs a, PySem.W.exmOne K (.ref c) (.ref a.SpillError) = some true
  nr : PySem.W.exmOne K (.ref a.NoRow) (.ref a.NoRow) = some true
  fu : PySem.W.exmOne K (.ref a.Full) (.ref a.Full) = some true
end Sp

set_option Elab.async false
set_option linter.all false
set_option maxRecDepth 100000
set_option maxHeartbeats 4000000
/-! The hook, with tables of the module. -/
namespace Sp
open PySem PySem.Spec PyProof.Rows L2 SM SR SD SE
def obsZ (n : Nat) (fa : List He.Fa) (fn : List He.DefD) (ts : List He.Tab) (tf : List He.Defn) (ex : PySem.W.Frag → Bool) (g : Addr → Option Obj) : He.AlX := (He.obsT fa fn ts (frY g n), ex (frY g n) && He.tabsB g tf (frY g n))
theorem saysZ_of {n : Nat} {fa : List He.Fa} {fn : List He.DefD} {ts : List He.Tab} {tf : List He.Defn} {ex : PySem.W.Frag → Bool} {w : World} {h : Heap} (e : obsZ n fa fn ts tf ex h.get? = He.valX fn ts w) : He.SaysX fa fn ts tf ex w h (frY h.get? n) := by
  obtain ⟨K, hK⟩ : ∃ K, frY h.get? n = K := ⟨_, rfl⟩
  have e1 : He.obsT fa fn ts K = He.valT fn ts w := hK ▸ congrArg (fun z : He.AlX => z.1) e
  have e2 : (ex K && He.tabsB h.get? tf K) = true := hK ▸ congrArg (fun z : He.AlX => z.2) e
  obtain ⟨h1, h2⟩ := He.ba e2
  have look : ∀ p ∈ tf, PySem.W.codeHdIn K (He.cT K p).1 (He.cT K p).2 = true ∧ ∃ o, h.get? (He.cT K p).2 = some o ∧ He.emptyTab o = true := fun p hp => by
    obtain ⟨h3, h4⟩ := He.ba (List.all_eq_true.mp h2 p hp)
    refine ⟨h3, ?_⟩
    cases q : h.get? (He.cT K p).2 with
    | none => simp [q] at h4
    | some o => exact ⟨o, rfl, by simpa [q] using h4⟩
  rw [hK]
  refine ⟨e1, h1, fun p hp => (look p hp).1, fun p hp => ?_, fun p hp => ?_⟩
  · obtain ⟨_, o, q, z⟩ := look p hp
    rw [← hK] at q ⊢
    exact He.frT_none q z
  · obtain ⟨_, o, q, z⟩ := look p hp
    rw [q, He.emptyTab_eq z]
def hookZ (n : Nat) (fa : List He.Fa) (fn : List He.DefD) (ts : List He.Tab) (tf : List He.Defn) (ex : PySem.W.Frag → Bool) : PySem.W.Hook where
  α := He.AlX
  obs := fun s => obsZ n fa fn ts tf ex s.heap.get?
  val := fun w => He.valX fn ts w
  says := fun w h => ∃ K : PySem.W.Frag, K.In h ∧ He.SaysX fa fn ts tf ex w h K
  of := fun _ _ e => ⟨_, He.frT_in, saysZ_of e⟩
  keeps := fun _ _ _ ⟨K, kin, c⟩ k => ⟨K, PySem.W.Frag.In.keeps kin k, c.t, c.more, c.hd, c.out, fun p hp => k _ _ (c.empty p hp)⟩
theorem obsZ_eq {n : Nat} {fa : List He.Fa} {fn : List He.DefD} {ts : List He.Tab} {tf : List He.Defn} {ex : PySem.W.Frag → Bool} {g : Addr → Option Obj} {s : Shared} (h : ∀ a, g a = s.heap.get? a) : obsZ n fa fn ts tf ex g = (hookZ n fa fn ts tf ex).obs s := by
  obtain rfl : g = s.heap.get? := funext h
  rfl
theorem tab_eq {fa : List He.Fa} {fn : List He.DefD} {ts : List He.Tab} {w : World} {K : PySem.W.Frag} (c : He.SaysT fa fn ts w K) (i : Nat) {t : He.Tab} (h : ts[i]? = some t := by rfl) : He.dicW K (t.1 K) = some (He.keysIn w.params t.2) := by
  have e : ts.map (fun t => He.dicW K (t.1 K)) = ts.map fun t => some (He.keysIn w.params t.2) := congrArg (fun z : He.AlT => z.2) c
  have e2 : (ts.map fun t => He.dicW K (t.1 K))[i]? = (ts.map fun t => some (He.keysIn w.params t.2))[i]? := by rw [e]
  rw [List.getElem?_map, List.getElem?_map, h] at e2
  exact Option.some.inj e2
end Sp

set_option Elab.async false
set_option linter.all false
set_option maxRecDepth 100000
set_option maxHeartbeats 8000000
/-! The head, printed by mkend.py. -/
namespace Sp
open PySem PySem.Spec PyProof.Rows L2 SM SR SD SE
def top (i : Nat) : Stmt := PySem.Challenge.pw_spillrows_k21_texts_refused.main.body.getD i (.Pass ⟨0, 0, 0, 0⟩)
abbrev s_BadText___init : Stmt := inClass (top 14) 0
abbrev s_number_of : Stmt := top 19
abbrev s_read : Stmt := top 20
abbrev s_law_taken : Stmt := top 22
abbrev s_law_alike : Stmt := top 23
abbrev s_law_key : Stmt := top 25
abbrev s_law_laid : Stmt := top 26
abbrev s_law_made : Stmt := top 27
abbrev s_law_chain : Stmt := top 28
abbrev s_law_all : Stmt := top 29
abbrev s_law_step : Stmt := top 30
abbrev s_law_read : Stmt := top 31
abbrev s_law_spoilt : Stmt := top 32
abbrev s_law : Stmt := top 33
abbrev s_law_word : Stmt := top 24
def d_BadText___init : He.DefD := ⟨("BadText", some "__init__"), "__init__", "BadText.__init__", defArgs s_BadText___init, defBody s_BadText___init, defScope s_BadText___init, [], []⟩
def d_number_of : He.DefD := ⟨("number_of", none), "number_of", "number_of", defArgs s_number_of, defBody s_number_of, defScope s_number_of, [], []⟩
def d_read : He.DefD := ⟨("read", none), "read", "read", defArgs s_read, defBody s_read, defScope s_read, [], []⟩
def d_law_taken : He.DefD := ⟨("_law_taken", none), "_law_taken", "_law_taken", defArgs s_law_taken, defBody s_law_taken, defScope s_law_taken, [], []⟩
def d_law_alike : He.DefD := ⟨("_law_alike", none), "_law_alike", "_law_alike", defArgs s_law_alike, defBody s_law_alike, defScope s_law_alike, [], []⟩
def d_law_key : He.DefD := ⟨("_law_key", none), "_law_key", "_law_key", defArgs s_law_key, defBody s_law_key, defScope s_law_key, [], []⟩
def d_law_laid : He.DefD := ⟨("_law_laid", none), "_law_laid", "_law_laid", defArgs s_law_laid, defBody s_law_laid, defScope s_law_laid, [], []⟩
def d_law_made : He.DefD := ⟨("_law_made", none), "_law_made", "_law_made", defArgs s_law_made, defBody s_law_made, defScope s_law_made, [], []⟩
def d_law_chain : He.DefD := ⟨("_law_chain", none), "_law_chain", "_law_chain", defArgs s_law_chain, defBody s_law_chain, defScope s_law_chain, [], []⟩
def d_law_all : He.DefD := ⟨("_law_all", none), "_law_all", "_law_all", defArgs s_law_all, defBody s_law_all, defScope s_law_all, [], []⟩
def d_law_step : He.DefD := ⟨("_law_step", none), "_law_step", "_law_step", defArgs s_law_step, defBody s_law_step, defScope s_law_step, [], []⟩
def d_law_read : He.DefD := ⟨("_law_read", none), "_law_read", "_law_read", defArgs s_law_read, defBody s_law_read, defScope s_law_read, [], []⟩
def d_law_spoilt : He.DefD := ⟨("_law_spoilt", none), "_law_spoilt", "_law_spoilt", defArgs s_law_spoilt, defBody s_law_spoilt, defScope s_law_spoilt, [], []⟩
def d_law : He.DefD := ⟨("law", none), "law", "law", defArgs s_law, defBody s_law, defScope s_law, [], []⟩
def d_law_word : He.DefD := ⟨("_law_word", none), "_law_word", "_law_word", defArgs s_law_word, defBody s_law_word, defScope s_law_word, [], []⟩
def fn : List He.DefD := [d_BadText___init, d_number_of, d_read, d_law_taken, d_law_alike, d_law_key, d_law_laid, d_law_made, d_law_chain, d_law_all, d_law_step, d_law_read, d_law_spoilt, d_law, d_law_word]
def fa : List He.Fa := [.glo "BadCount", .glo "BadDeeds", .glo "BadFile", .glo "BadKey", .glo "BadPicture", .glo "BadRows", .glo "BadStep", .glo "BadText", .glo "BadWorth", .str "FIGURES" "0123456789", .glo "Full", .int "MOST_STEPS" 300, .glo "NoMark", .glo "NoRow", .glo "SIZES", .glo "SpillError", .glo "Stopped", .free "len", .free "range", .free "enumerate", .free "list", .free "tuple", .free "dict", .free "int", .free "str", .free "bool", .free "isinstance", .free "min", .free "max", .free "sum", .free "sorted", .free "reversed", .free "set", .free "ValueError", .glo "law", .glo "_law_taken", .glo "_law_laid", .glo "_law_chain", .glo "_law_read", .glo "_law_key", .glo "_law_made", .glo "_law_all", .glo "_law_spoilt", .glo "number_of", .glo "_law_step", .glo "read", .glo "_law_alike", .glo "_law_word"]
def tfs : List (He.Defn × Str) := [(("law", none), ("law" : Str) ++ ".<locals>." ++ "<lambda>")]
def adOf (K : PySem.W.Frag) : Ad := { File := He.ga K "File", Store := He.ga K "Store", SpillError := He.ga K "SpillError", BadFile := He.ga K "BadFile", BadKey := He.ga K "BadKey", BadWorth := He.ga K "BadWorth", NoRow := He.ga K "NoRow", Full := He.ga K "Full", NoMark := He.ga K "NoMark", Stopped := He.ga K "Stopped", BadCount := He.ga K "BadCount", BadRows := He.ga K "BadRows", BadDeeds := He.ga K "BadDeeds", BadPicture := He.ga K "BadPicture", BadStep := He.ga K "BadStep", BadText := He.ga K "BadText", T := tfs.map fun z => ((He.cT K z.1).2, z.2), tP := He.ga K "SIZES" }
def tabsL : List He.Tab := [(fun K => He.ga K "SIZES", sizesP.map (·.1))]
def ex (K : PySem.W.Frag) : Bool := xsB K (He.ga K "SpillError") && (xfB K (He.ga K "BadText") "row" && (wordB K (adOf K) && (tabB K (adOf K).tP sizesP)))
abbrev R : PySem.W.OpenRow := PySem.W.OpenLaw.row PySem.Challenge.rw_spillrows_k21_texts_refused
abbrev hk : PySem.W.Hook := hookZ 5 fa fn tabsL [("law", none)] ex
def ob (s : PySem.W.SharedT) : He.AlX := obsZ 5 fa fn tabsL [("law", none)] ex (HandSHeadRun.getT s)
theorem ob_eq (s : PySem.W.SharedT) : ob s = hk.obs s.abs := obsZ_eq (HandSHeadRun.getT_eq s)
def loose : List PySem.Str := (["SpillError", "BadFile", "BadRows", "BadKey", "BadWorth", "NoRow", "Full", "NoMark", "Stopped", "BadCount", "BadDeeds", "BadPicture", "BadStep", "BadText", "MOST_STEPS", "SIZES", "FIGURES", "number_of", "read", "_law_taken", "_law_alike", "_law_word", "_law_key", "_law_laid", "_law_made", "_law_chain", "_law_all", "_law_step", "_law_read", "_law_spoilt"] : List PySem.Str)
theorem runF (w : World) : HandSHeadRun.RunEq R (PySem.W.view R.prog [33]) hk ob 20000 loose (w.withFollow "special-get-raises" false) := by
  intro os
  kernel_rfl
theorem runT (w : World) : HandSHeadRun.RunEq R (PySem.W.view R.prog [33]) hk ob 20000 loose (w.withFollow "special-get-raises" true) := by
  intro os
  kernel_rfl
theorem run (w : World) : HandSHeadRun.RunEq R (PySem.W.view R.prog [33]) hk ob 20000 loose w := PySem.W.byRow2 "special-get-raises" (P := fun w => HandSHeadRun.RunEq R (PySem.W.view R.prog [33]) hk ob 20000 loose w) runF runT w
end Sp

set_option Elab.async false
set_option linter.all false
set_option maxRecDepth 100000
set_option maxHeartbeats 4000000
/-! isinstance of a caught exception, with fields or without; list.count. -/
namespace SR
open PySem PySem.Spec PySem.W PySem.Calls PyProof.Rows L2
section
variable {prog : Program} {w : World} {A : Around} {E : Value → Shared → Prop} {s : Shared} {K : PySem.W.Frag} {x D : Addr} {ox : Obj} {od : Option Obj}
theorem findObj_dataO {C : Addr} {name : Str} {a g : Value} (hc : (clsIn K C).isSome = true) (ha : findIn K (.ref C) name = some (some a)) (hg : specialIn K a "__get__" = some (some g)) (ht : takesIn K a = some true) : findObj K C od name = some (.bind g a) := by
  obtain ⟨cd, hc⟩ := Option.isSome_iff_exists.mp hc
  unfold findObj
  rw [hc, Option.bind_some, ha, Option.bind_some]
  simp [hg, ht]
theorem kin_classO {Q : Option Value → Shared → Prop} (C : ExcC K D) (X : K.In s.heap) (I : PySem.W.InstAt s.heap x ox D od) (h : Q (some (.ref D)) { s with toks := s.toks + 1 }) : wpAny (model prog w) A (getAttr? (.ref x) "__class__") Q E s := by
  have hf : findObj K D od "__class__" = some (.bind (.builtin "getset_descriptor.__get__") (.builtin "object.__class__")) := findObj_dataO (by obtain ⟨cd, hc, _⟩ := any_some C.hd; rw [hc]; rfl) C.ha C.hn C.ht
  obtain ⟨hp, g, d, t, os⟩ := s
  have L0 := I.type (M := model prog w)
  have L1 := looks_findIn (M := model prog w) X C.hg
  have L2 := looks_findIn (M := model prog w) X C.hk
  have L3 := looks_find (M := model prog w) X I hf
  have sub : Looks (model prog w) hp (isInstance (.ref x) (.type "BaseException")) true := L0.andThen (looks_subIn X C.hs)
  have hx0 : (false && onTheHeap (Value.builtin "BaseException.__getattribute__")) = false := rfl
  have hx2 : (Value.builtin "BaseException.__getattribute__" == Value.builtin "object.__getattribute__") = false := by decide +kernel
  have hx1 : (onTheHeap (Value.ref D) && Value.builtin "BaseException.__getattribute__" == Value.builtin "object.__getattribute__") = false := by rw [hx2]; rfl
  unfold getAttr? getAttrBy? getAttrBy
  refine wpAny_bind (wpAny_mkText (wpAny_bind (wpAny_attempt (wpAny_holding (wpAny_bind (L0.at (wpAny_bind (L1.at ?_))))))))
  show wpAny _ _ (if (onTheHeap (Value.ref D) && Value.builtin "BaseException.__getattribute__" == Value.builtin "object.__getattribute__") = true then _ else _) _ _ _
  rw [hx1, if_neg Bool.false_ne_true]
  unfold getAttrByItsOwn hookBefore
  refine wpAny_bind ?_
  rw [if_pos (show onTheHeap (Value.ref D) = true from rfl)]
  refine L2.at ?_
  refine wpAny_bind (wpAny_attempt (wpAny_holding ?_))
  unfold callGetattribute
  rw [hx0, if_neg Bool.false_ne_true]
  unfold boundAndCalled
  rw [PySem.F.excAttr_ValueError.ga.bind (.ref x)]
  refine wpAny_bind (wpAny_pure ?_)
  show wpAny _ _ (call (.builtin "BaseException.__getattribute__") [.ref x, .str "__class__" t]) _ _ _
  refine wpAny_call (codeAny_call_builtin PySem.F.excAttr_ValueError.ga.plain PySem.F.entry_bexc_ga ?_)
  refine @check_slot (model prog w) _ _ ⟨hp, g, d, t + 1, os⟩ "BaseException.__getattribute__" "BaseException" "__getattribute__" (.ref x) [.str "__class__" t] [] _ (by decide +kernel) (by decide +kernel) sub (PySem.F.args_bexc_ga (.ref x) (.str "__class__" t)) ?_
  unfold Builtin.«object.__getattribute__»
  refine wpAny_bind (wpAny_of_eq (a := ((Value.ref x : Value), [Value.str "__class__" t])) (by first | rfl | (simp only [slotArgs]; rfl)) ?_)
  refine wpAny_bind (wpAny_pure (wpAny_bind (L0.at (wpAny_bind (L3.at ?_)))))
  show wpAny _ _ (holding [Value.builtin "object.__class__"] (call (.builtin "getset_descriptor.__get__") [.builtin "object.__class__", .ref x, .ref D]) >>= ret) _ _ _
  refine wpAny_bind (wpAny_holding (wpAny_call (class_get (s := ⟨hp, g, d, t + 1, os⟩) (ox := ox) (od := od) X I C.hm ?_)))
  refine wpAny_pure ?_
  show wpAny _ _ (handedOut (.ref D)) _ _ _
  rw [handedOut_of (v := .ref D) rfl]
  first
    | exact wpAny_pure (wpAny_pure h)
    | exact wpAny_pure h
    | exact wpAny_pure (wpAny_bind (wpAny_pure (wpAny_pure h)))
theorem kitx_excO (C : ExcC K D) : KitX K (.ref x) (.ref D) (fun h => PySem.W.InstAt h x ox D od) where
  ty := fun _ _ _ I => I.type
  it := fun _ _ X _ => by
    obtain ⟨cdD, hcD, _⟩ := any_some C.hd
    unfold clsIn at hcD
    split at hcD
    · rename_i c' d' cd' sl' ho
      intro A' Q' E' s' k q
      unfold isType loadHead
      exact wpAny_bind (wpAny_loadPart (k _ _ (X _ _ ho)) (wpAny_pure q))
    · cases hcD
  ne := fun h tp dd its n sl X htp => by
    obtain ⟨cdD, hcD, _⟩ := any_some C.hd
    refine Bool.eq_false_iff.mpr fun q => ?_
    have e : D = tp := Value.ref.inj (beq_iff_eq.mp q)
    subst e
    unfold clsIn at hcD
    split at hcD
    · rename_i c' d' cd' sl' ho
      have z := (X _ _ ho).symm.trans htp
      cases z
    · cases hcD
  ca := fun X I k => kin_classO C X I k
end
/-- isinstance(e, c), e the exception that the suite holds, its dict being d -/
def rIsO (K : PySem.W.Frag) (a : Addr) (cls : Value) (d : Option Addr) : List V → Hp → VK → Prop := fun xs H Q => ∃ (D : Addr) (c : V) (cv : Value) (b : Bool), cls = .ref D ∧ ExcC K D ∧ xs = [.ref a, c] ∧ (∀ u, RelV c u → u = cv) ∧ (∀ dd, d = some dd → ∃ fs, H dd = some (.xd fs)) ∧ PySem.W.kitOne K (.ref D) cv = some b ∧ Q (.bl b) H
theorem call_isO {X : Cx} {a : Addr} {oe : Obj} {cls : Value} {d : Option Addr} {pn : List (Addr × Obj)} (hz : Zc cls d oe) (hf : ∃ vs, oe.data = .fields vs) : CallR (X.suite a ((a, oe) :: pn)) (.builtin "isinstance") (rIsO X.K a cls d) := by
  intro pins s σ H xs us Q I r h
  obtain ⟨D, c, cv, b, rfl, C, rfl, hcv, hdd, e, q⟩ := h
  cases r with
  | cons rx rr =>
    cases rr with
    | cons rt rr =>
      cases rr
      cases rx
      have ec := hcv _ rt
      subst ec
      obtain ⟨hget, _⟩ := I.pin (a, oe) (List.mem_append.mpr (.inl List.mem_cons_self))
      obtain ⟨vs, hv⟩ := hf
      have J : ∃ od, PySem.W.InstAt s.heap a oe D od := by
        cases hd : d with
        | none =>
          refine ⟨none, ?_⟩
          subst hd
          obtain ⟨oc, od, oda, osl⟩ := oe
          obtain ⟨h1, h2⟩ := hz
          dsimp only at h1 h2 hv
          subst h1 h2 hv
          exact ⟨hget, rfl, rfl, trivial⟩
        | some dd =>
          subst hd
          obtain ⟨fs, ea⟩ := hdd dd rfl
          have hx : ObjOk X.prog X.w H s.heap dd (.xd fs) := I.hok dd _ ea
          obtain ⟨mA, hns, hr⟩ := hx
          obtain ⟨od, ho, hl⟩ := lookIn_ns hns
          exact ⟨some od, hget, hz.1, by unfold PySem.W.notCls; rw [hv] <;> rfl, by rw [hz.2]; exact ho⟩
      obtain ⟨od, J⟩ := J
      exact PySem.W.kia_one (kitx_excO C) I.kIn J e (fun z => nomatch z) fun tk => ⟨.bl b, H, I.kept (t' := tk) fun _ _ z => z, rfl, q⟩
/-- e.f, of any class that has the field in its instances alone -/
def tXo (K : PySem.W.Frag) (b : Addr) (cls : Value) (d : Option Addr) (f : Str) (te : TE) : TE := fun σ H Q => te σ H fun x H1 => x = .ref b ∧ ∃ (C dd : Addr) (fs : List (Str × V)) (v : V), cls = .ref C ∧ XfC K C ∧ PySem.W.findIn K (.ref C) f = some none ∧ d = some dd ∧ H1 dd = some (.xd fs) ∧ fs.lookup f = some v ∧ Q v H1
theorem pe_xo {X : Cx} {b : Addr} {oe : Obj} {cls : Value} {d : Option Addr} {pn : List (Addr × Obj)} {e : Expr} {te : TE} {pos : Pos} {n : Str} (hz : Zc cls d oe) (hf : ∃ vs, oe.data = .fields vs) (he : PE (X.suite b ((b, oe) :: pn)) e te) (hb : attributeBase e n X.env (eval e X.env) = eval e X.env := by rfl) :
    PE (X.suite b ((b, oe) :: pn)) (.Attribute e n pos) (tXo X.K b cls d n te) := by
  refine ⟨fun pins s σ H Q I h => attr_of hb (thn (he.run pins s σ H _ I h) fun u s1 hh => ?_)⟩
  obtain ⟨x, H1, I1, rx, rfl, C, dd, fs, v, rfl, T, hno, rfl, ea, l, q⟩ := hh
  cases (show u = Value.ref b from rx)
  obtain ⟨hg, _⟩ := I1.pin (b, oe) (List.mem_append_left _ List.mem_cons_self)
  obtain ⟨mA, hns, hr⟩ := (show ObjOk X.prog X.w H1 s1.heap dd (.xd fs) from I1.hok dd _ ea)
  obtain ⟨od, ho, hl⟩ := lookIn_ns hns
  obtain ⟨z, hzu, rz⟩ := RelO.some_of (v := v) (o := mA n) (by rw [← l]; exact hr n)
  obtain ⟨vs, hv⟩ := hf
  exact HandSPX.exc_get I1.kIn ⟨hg, hz.1, by unfold PySem.W.notCls; rw [hv] <;> rfl, by rw [hz.2]; exact ho⟩ T.ga T.gg T.exC (PySem.W.findObj_own T.hdC hno rfl (by rw [hl, hzu])) (handed_of rz) ⟨v, H1, I1.tok _, rz, q⟩
/-- l.count(x) -/
def rCountD (K : PySem.W.Frag) : V → List V → Hp → VK → Prop := fun x xs H Q => ∃ (a : Addr) (ys : List V) (y : V) (d : PyData) (ds : List PyData), x = V.ref a ∧ xs = [y] ∧ SqL K H a ys ∧ DpAll K H ys ds ∧ Dp K H y d ∧ PyData.plainAll ds = true ∧ d.plain = true ∧ d.depth ≤ 60 ∧ Q (.int ((ds.countP fun z => PyData.eqv z d : Nat) : Int)) H
theorem mt_countD {X : Cx} (hu : X.A.units + 65 < cLine) : MtR X "list.count" (rCountD X.K) := by
  intro pins s σ H x vs v us Q I rx rv h
  obtain ⟨a, ys, y, d, ds, rfl, rfl, hq, hds, hd, p1, p2, p3, q⟩ := h
  cases rx
  obtain ⟨u, rfl, ru⟩ := rv.one
  obtain ⟨its, rvs, pl, hz⟩ := I.list hq
  obtain ⟨as, r1⟩ := Dp.readsAll I ds ys its hds rvs
  obtain ⟨bs, r2⟩ := Dp.reads I d y u hd ru
  refine PySem.SeqAt.count_list_data pl.isList (by simpa using r1) r2 p1 p2 ?_ ⟨.int _, H, I.tok _, ⟨_, rfl⟩, q⟩
  have : min (PyData.depthAll ds) d.depth ≤ 60 := Nat.le_trans (Nat.min_le_right _ _) p3
  omega
end SR

set_option Elab.async false
set_option linter.all false
set_option maxRecDepth 100000
set_option maxHeartbeats 4000000
/-! isinstance over trees; numbers, rows. -/
namespace Sp
open PySem L2 SM SR SD SE
def tyD : D → String
  | .none => "NoneType"
  | .bool _ => "bool"
  | .int _ => "int"
  | .str _ => "str"
  | .list _ => "list"
  | .tuple _ => "tuple"
  | .dict _ => "dict"
/-- isinstance(x, T) -/
def isTy (d : D) (T : String) : Bool := tyD d == T || (T == "int" && tyD d == "bool")
section
variable {X : Wd} {Φ : Iv} {H : Hp} {Γ : Gm} {L : Lo} {σ : L2.St} {d e : D} {v : V} {K : PySem.W.Frag}
theorem dt_ty {N : Ads} (h : Dt (hid N H) v d) : TyX K H v (.type (tyD d)) := by
  cases h with
  | non => exact .base .non
  | bl b => exact .base (.bl b)
  | int i => exact .base (.int i)
  | str x => exact .base (.str x)
  | lst h1 _ => exact .base (.lst (hid_le _ _ h1))
  | @tup _ _ ds h1 _ =>
    generalize rowsy ds = b at h1
    cases b with
    | true =>
      obtain ⟨o, _, h⟩ := h1
      exact .fTuple (hid_le _ _ h)
    | false => exact .base (.tup (hid_le _ _ h1))
theorem kit_names : ∀ s ∈ ["NoneType", "bool", "int", "str", "list", "tuple", "dict"], ∀ T ∈ ["int", "bool", "str", "tuple", "list"], kitB s T = some (s == T || (T == "int" && s == "bool")) := by decide +kernel
theorem kit_all {T : String} (hT : T = "int" ∨ T = "bool" ∨ T = "str" ∨ T = "tuple" ∨ T = "list") : kitB (tyD d) T = some (isTy d T) :=
  kit_names (tyD d) (by cases d <;> simp [tyD]) T (by simpa using hT)
theorem ev_isi {ta : TE} {T : String} (h : Ev X Φ ta Γ d) (hT : T = "int" ∨ T = "bool" ∨ T = "str" ∨ T = "tuple" ∨ T = "list" := by simp) : Ev X Φ (tCB (rIsU K) (tCons ta (tCons (tC (.ty T)) tNil))) Γ (.bool (isTy d T)) := fun L H σ c g Q q =>
  h L H σ c g _ fun v H1 e1 r1 => .inl ⟨v, .ty T, _, _, isTy d T, rfl, .ty T, dt_ty r1, kit_ty (kit_all hT), q _ H1 e1 (.bl _)⟩
theorem ev_isi2 {ta : TE} {T U : String} (h : Ev X Φ ta Γ d) (hT : T = "int" ∨ T = "bool" ∨ T = "str" ∨ T = "tuple" ∨ T = "list" := by simp) (hU : U = "int" ∨ U = "bool" ∨ U = "str" ∨ U = "tuple" ∨ U = "list" := by simp) :
    Ev X Φ (tCB (rIsU K) (tCons ta (tCons (tTupB (tCons (tC (.ty T)) (tCons (tC (.ty U)) tNil))) tNil))) Γ (.bool (isTy d T || isTy d U)) := fun L H σ c g Q q =>
  h L H σ c g _ fun v H1 e1 r1 => ⟨by show 2 ≤ sizeLine; decide, .inl fun p hp => .inr ⟨v, p, _, _, _, isTy d T || isTy d U, rfl, upd_same, .cons (.ty T) (.cons (.ty U) .nil), dt_ty (r1.mono (Same.s (Same.hid (new_same hp)))), by
      refine kitAny_cons (kit_ty (kit_all hT)) (fun e => ?_) (fun e => by rw [e]; rfl)
      rw [e, Bool.false_or]
      exact kitAny_cons (kit_ty (kit_all hU)) (fun e => by rw [e]; exact kitAny_nil) (fun e => e), q _ _ (e1.trans (new_same hp)) (.bl _)⟩⟩
end
/-- a number from lo to hi -/
def isNum (d : D) (lo hi : Int) : Bool := match d with
  | .int i => decide (lo ≤ i) && decide (i ≤ hi)
  | _ => false
end Sp

set_option Elab.async false
set_option linter.all false
set_option maxRecDepth 100000
set_option maxHeartbeats 4000000
/-! Files as plain lists: definitions. -/
namespace Sp
abbrev Row := Int × Int
abbrev Pg := List Row × Option Nat
abbrev Cl := Row × Option Nat
structure FS where
  room : Nat
  spare : Nat
  which : Nat
  fences : List Int
  pages : List Pg
  spills : List (Option Cl)
  many : Int
  left : Option Int
  down : Bool
  marks : List (Int × Int)
  count : Nat
/-- a chain of spare cells -/
inductive Ch (sp : List (Option Cl)) : Option Nat → List Nat → Prop
  | nil : Ch sp none []
  | cons {n : Nat} {r : Row} {l : Option Nat} {ns : List Nat} : sp[n]? = some (some (r, l)) → Ch sp l ns → Ch sp (some n) (n :: ns)
def chainF (sp : List (Option Cl)) : Nat → Option Nat → List Nat
  | 0, _ => []
  | _, none => []
  | k + 1, some n => match sp[n]? with
    | some (some (_, l)) => n :: chainF sp k l
    | _ => []
def chainOf (S : FS) (pg : Pg) : List Nat := chainF S.spills (S.spills.length + 1) pg.2
/-- the chains of all pages come to an end, over cells that aren't free -/
structure WFc (S : FS) : Prop where
  ch : ∀ pg ∈ S.pages, Ch S.spills pg.2 (chainOf S pg)
  sz : ∀ pg ∈ S.pages, pg.1.length ≤ 4
  np : S.pages.length ≤ 1000
def cellRow (S : FS) (n : Nat) : Row := match S.spills[n]? with
  | some (some (r, _)) => r
  | _ => (0, 0)
def rowsOf (S : FS) (pg : Pg) : List Row := pg.1 ++ (chainOf S pg).map (cellRow S)
def allRows (S : FS) : List Row := S.pages.flatMap (rowsOf S)
def atP (fs : List Int) (key : Int) : Nat := (fs.filter fun f => decide (f < key)).length
def pageAt (S : FS) (key : Int) : Pg := S.pages.getD (atP S.fences key) ([], none)
/-- the last worth of a key -/
def lastVal (rs : List Row) (key : Int) : Option Int := rs.foldl (fun o r => if r.1 = key then some r.2 else o) none
def looksOf (S : FS) (key : Int) : Nat := match (pageAt S key).1.getLast? with
  | none => 1
  | some r => if key ≤ r.1 then 1 else
    1 + min (((chainOf S (pageAt S key)).filter fun n => decide ((cellRow S n).1 < key)).length + 1) (chainOf S (pageAt S key)).length
def freeCells (S : FS) : List Nat := (List.range S.spare).filter fun n => (S.spills.getD n none).isNone
/-- rows by so many to a page -/
def parts (n : Nat) : Nat → List Row → List (List Row)
  | 0, _ => []
  | _, [] => []
  | k + 1, r :: rs => (r :: rs).take n :: parts n k ((r :: rs).drop n)
def partsOf (fill : Nat) (rs : List Row) : List (List Row) := if rs = [] then [[]] else parts fill rs.length rs
def fencesOf (ps : List (List Row)) : List Int := ps.dropLast.map fun p => match p.getLast? with
  | some r => r.1
  | none => 0
/-- a new file -/
def mkFS (room fill spare : Nat) (rs : List Row) : FS := { room := room, spare := spare, which := 0, fences := fencesOf (partsOf fill rs), pages := (partsOf fill rs).map fun p => (p, none), spills := List.replicate spare none, many := 0, left := none, down := false, marks := [], count := 0 }
/-- rows as they are drawn -/
structure RowsOk (rs : List Row) : Prop where
  rise : rs.Pairwise fun x y => x.1 < y.1
  num : ∀ r ∈ rs, 0 ≤ r.1 ∧ r.1 ≤ 999 ∧ 0 ≤ r.2 ∧ r.2 ≤ 999
end Sp

set_option Elab.async false
set_option linter.all false
set_option maxRecDepth 100000
set_option maxHeartbeats 4000000
/-! The store and the file over the heap. -/
namespace Sp
open PySem L2 SM SR SD SE
abbrev dRow (r : Row) : D := .tuple [.int r.1, .int r.2]
abbrev dRows (rs : List Row) : D := .tuple (rs.map dRow)
abbrev dLink : Option Nat → D
  | none => .none
  | some n => .int (n : Nat)
abbrev dPage (p : Pg) : D := .tuple [dRows p.1, dLink p.2]
abbrev dCell : Option Cl → D
  | none => .none
  | some c => .tuple [dRow c.1, dLink c.2]
abbrev dRoot (w : Nat) (fs : List Int) : D := .tuple [.int (w : Nat), .tuple (fs.map .int)]
abbrev kRoot : MKey := .inl "root"
abbrev kPage (w n : Nat) : MKey := .inr [.inr "page", .inl (w : Nat), .inl (n : Nat)]
abbrev kSpill (n : Nat) : MKey := .inr [.inr "spill", .inl (n : Nat)]
/-! ### the store -/
structure SS where
  cells : List (MKey × D)
  many : Int
  left : Option Int
  down : Bool
def cellAt (cs : List (MKey × D)) (k : MKey) : Option D := (cs.find? fun c => decide (c.1 = k)).map (·.2)
def putC (cs : List (MKey × D)) (k : MKey) (d : D) : List (MKey × D) :=
  if (cs.any fun c => decide (c.1 = k)) = true then cs.map (fun c => if c.1 = k then (c.1, d) else c) else cs ++ [(k, d)]
def oI : Option Int → V
  | none => .non
  | some i => .int i
def fS (c : Addr) (many : Int) (left : Option Int) (down : Bool) : List (Str × V) := [("cells", .ref c), ("many", .int many), ("left", oI left), ("down", .bl down)]
def fF (room spare : Int) (s mk : Addr) (count : Int) : List (Str × V) := [("room", .int room), ("spare", .int spare), ("store", .ref s), ("marks", .ref mk), ("count", .int count)]
abbrev CP (G : Hp) : List (MKey × V) → List (MKey × D) → Prop := Paired fun p q => p.1 = q.1 ∧ Dt G p.2 q.2
def StAt (P : Program) (w : World) (a : Ad) (M : Ads) (H : Hp) (s c : Addr) (S : SS) : Prop :=
  ∃ dx kvs, H s = some (.ins a.Store dx (fS c S.many S.left S.down)) ∧ DM P w H c kvs ∧ CP (hid M H) kvs S.cells
theorem CP.at_ {G : Hp} {kvs : List (MKey × V)} {cs : List (MKey × D)} (h : CP G kvs cs) {k : MKey} {d : D} (e : cellAt cs k = some d) : ∃ v, valV kvs k = some v ∧ Dt G v d := by
  induction h with
  | nil => cases e
  | @cons p q l m h t ih =>
    by_cases hk : p.1 = k
    · rw [valV_pos hk]
      have hq : q.1 = k := h.1 ▸ hk
      unfold cellAt at e
      rw [List.find?_cons, decide_eq_true hq] at e
      cases e
      exact ⟨_, rfl, h.2⟩
    · rw [valV_neg hk]
      have hq : ¬ q.1 = k := h.1 ▸ hk
      unfold cellAt at e
      rw [List.find?_cons, decide_eq_false hq] at e
      exact ih e
theorem CP.keys {G : Hp} {kvs : List (MKey × V)} {cs : List (MKey × D)} (h : CP G kvs cs) : kvs.map (·.1) = cs.map (·.1) := by
  induction h with
  | nil => rfl
  | cons h t ih => rw [List.map_cons, List.map_cons, ih, h.1]
theorem CP.any {G : Hp} {kvs : List (MKey × V)} {cs : List (MKey × D)} (h : CP G kvs cs) (k : MKey) : (kvs.any fun kv => decide (kv.1 = k)) = cs.any fun c => decide (c.1 = k) := by
  have e1 : (kvs.any fun kv => decide (kv.1 = k)) = (kvs.map (·.1)).any fun x => decide (x = k) := by rw [List.any_map]; rfl
  have e2 : (cs.any fun c => decide (c.1 = k)) = (cs.map (·.1)).any fun x => decide (x = k) := by rw [List.any_map]; rfl
  rw [e1, e2, h.keys]
theorem CP.put {G : Hp} {kvs : List (MKey × V)} {cs : List (MKey × D)} (h : CP G kvs cs) {k : MKey} {v : V} {d : D} (r : Dt G v d) : CP G (putK kvs k v) (putC cs k d) := by
  unfold putK putC
  rw [h.any]
  split
  · rename_i hs
    clear hs
    induction h with
    | nil => exact .nil
    | @cons p q l m h t ih =>
      rw [List.map_cons, List.map_cons]
      refine .cons ?_ ih
      by_cases e : p.1 = k
      · rw [if_pos e, if_pos (h.1 ▸ e)]
        exact ⟨h.1, r⟩
      · rw [if_neg e, if_neg (h.1 ▸ e)]
        exact h
  · exact app h (.cons ⟨rfl, r⟩ .nil)
where
  app : ∀ {a b : List (MKey × V)} {c e : List (MKey × D)}, CP G a c → CP G b e → CP G (a ++ b) (c ++ e)
    | _, _, _, _, .nil, s => s
    | _, _, _, _, .cons r t, s => .cons r (app t s)
theorem CP.mono {G G' : Hp} (e : SameS G G') {kvs : List (MKey × V)} {cs : List (MKey × D)} (h : CP G kvs cs) : CP G' kvs cs := Paired.mapP h fun _ _ z => ⟨z.1, z.2.mono e⟩
theorem dm_but {P : Program} {w : World} {A : List Addr} {H H' : Hp} {d : Addr} {kvs : List (MKey × V)} (x : But A H H') (n : NoSeq A H) (h : d ∉ A) (r : DM P w H d kvs) : DM P w H' d kvs := by
  obtain ⟨xs, h1, h2, h3⟩ := r
  refine ⟨xs, x.keep _ _ h h1, MPair.mono (fun b ys q => ?_) h2, h3⟩
  refine x.keep _ _ (fun y => ?_) q
  have := n b y _ q
  cases this
theorem StAt.noseq {P : Program} {w : World} {a : Ad} {M : Ads} {H : Hp} {s c : Addr} {S : SS} (h : StAt P w a M H s c S) : NoSeq [s, c] H := by
  obtain ⟨dx, kvs, h1, ⟨xs, h2, _⟩, _⟩ := h
  intro b hb o e
  rcases List.mem_cons.mp hb with rfl | hb
  · rw [h1] at e
    cases e
    rfl
  · have : b = c := by simpa using hb
    subst this
    rw [h2] at e
    cases e
    rfl
theorem StAt.up {P : Program} {w : World} {a : Ad} {M N : Ads} {H H' : Hp} {s c : Addr} {S : SS} (e : Same H H') (m : SameS (hid M H) (hid N H')) (h : StAt P w a M H s c S) : StAt P w a N H' s c S := by
  obtain ⟨dx, kvs, h1, h2, h3⟩ := h
  exact ⟨dx, kvs, e _ _ h1, h2.mono e, h3.mono m⟩
/-! ### the file -/
def keyOk (k : MKey) : Prop := k = kRoot ∨ (∃ w n : Nat, w < 2 ∧ n < 1100 ∧ k = kPage w n) ∨ ∃ n : Nat, n < 20 ∧ k = kSpill n
structure Rep (cs : List (MKey × D)) (S : FS) : Prop where
  root : cellAt cs kRoot = some (dRoot S.which S.fences)
  page : ∀ (n : Nat) pg, S.pages[n]? = some pg → cellAt cs (kPage S.which n) = some (dPage pg)
  spill : ∀ (n : Nat) cl, S.spills[n]? = some cl → cellAt cs (kSpill n) = some (dCell cl)
  np : S.pages.length = S.fences.length + 1
  ns : S.spills.length = S.spare
  sp : S.spare ≤ 20
  wh : S.which < 2
  keys : ∀ p ∈ cs, keyOk p.1
  nl : ∀ p ∈ cs, noL p.2 = true
  nd : (cs.map (·.1)).Nodup
/-- a file's places: itself, its store, the store's dict, its marks' dict -/
structure FA where
  (f s c m : Addr)
def FA.foot (F : FA) : List Addr := [F.f, F.s, F.c, F.m]
def FileAt (P : Program) (w : World) (a : Ad) (M : Ads) (H : Hp) (F : FA) (S : FS) : Prop :=
  ∃ dx cs, H F.f = some (.ins a.File dx (fF S.room S.spare F.s F.m S.count)) ∧ H F.m = some (.dK (S.marks.map fun m => (Sum.inl m.1, V.int m.2))) ∧ StAt P w a M H F.s F.c ⟨cs, S.many, S.left, S.down⟩ ∧ Rep cs S
theorem FileAt.up {P : Program} {w : World} {a : Ad} {M N : Ads} {H H' : Hp} {F : FA} {S : FS} (e : Same H H') (m : SameS (hid M H) (hid N H')) (h : FileAt P w a M H F S) : FileAt P w a N H' F S := by
  obtain ⟨dx, cs, h1, h2, h3, h4⟩ := h
  exact ⟨dx, cs, e _ _ h1, e _ _ h2, h3.up e m, h4⟩
theorem FileAt.noseq {P : Program} {w : World} {a : Ad} {M : Ads} {H : Hp} {F : FA} {S : FS} (h : FileAt P w a M H F S) : NoSeq F.foot H := by
  obtain ⟨dx, cs, h1, h2, h3, h4⟩ := h
  intro b hb o e
  have hb : b = F.f ∨ b = F.s ∨ b = F.c ∨ b = F.m := by simpa [FA.foot] using hb
  rcases hb with rfl | rfl | rfl | rfl
  · rw [h1] at e
    cases e
    rfl
  · exact h3.noseq _ (by simp) o e
  · exact h3.noseq _ (by simp) o e
  · rw [h2] at e
    cases e
    rfl
/-- other places are changed -/
theorem FileAt.but {P : Program} {w : World} {a : Ad} {M : Ads} {A : List Addr} {H H' : Hp} {F : FA} {S : FS} (x : But A H H') (m : SameS (hid M H) (hid M H')) (n : NoSeq A H) (d : ∀ b ∈ F.foot, b ∉ A) (h : FileAt P w a M H F S) : FileAt P w a M H' F S := by
  obtain ⟨dx, cs, h1, h2, ⟨dy, kvs, h3, h4, h5⟩, h6⟩ := h
  exact ⟨dx, cs, x.keep _ _ (d _ (by simp [FA.foot])) h1, x.keep _ _ (d _ (by simp [FA.foot])) h2, ⟨dy, kvs, x.keep _ _ (d _ (by simp [FA.foot])) h3, dm_but x n (d _ (by simp [FA.foot])) h4, h5.mono m⟩, h6⟩
/-! ### a file as something that is held -/
theorem dm_keep {P : Program} {w : World} {H H' : Hp} {Z : List Addr} {d : Addr} {kvs : List (MKey × V)} (k : ∀ b o, b ∉ Z → H b = some o → H' b = some o) (n : ∀ z ∈ Z, ∀ xs, H z ≠ some (.tup xs)) (h : d ∉ Z) (r : DM P w H d kvs) : DM P w H' d kvs := by
  obtain ⟨xs, h1, h2, h3⟩ := r
  exact ⟨xs, k _ _ h h1, MPair.mono (fun b ys q => k _ _ (fun y => n b y ys q) q) h2, h3⟩
theorem hid_tup1 {M A : Ads} {H : Hp} (n : ∀ l ∈ A, ∃ xs, H l = some (.lst xs)) {b : Addr} {o : HO} (ho : ∀ ys, o ≠ .lst ys) (h : hid M H b = some o) : hid (HAppend.hAppend M A) H b = some o := by
  obtain ⟨m, h⟩ := hid_some h
  refine (hid_out ?_).trans h
  rintro (y | y)
  · exact m y
  · obtain ⟨ys, e⟩ := n b y
    rw [e] at h
    exact ho ys (Option.some.inj h).symm
theorem hid_tups {M A : Ads} {H : Hp} (n : ∀ l ∈ A, ∃ xs, H l = some (.lst xs)) : ∀ b xs c, TupAt (hid M H) b xs c → TupAt (hid (HAppend.hAppend M A) H) b xs c := fun b xs c h => by
  cases c with
  | true =>
    obtain ⟨o, h1, h2⟩ := h
    exact ⟨o, h1, hid_tup1 n nofun h2⟩
  | false => exact hid_tup1 n nofun h
theorem CP.nol {M A : Ads} {H : Hp} {kvs : List (MKey × V)} {cs : List (MKey × D)} (n : ∀ l ∈ A, ∃ xs, H l = some (.lst xs)) (h : CP (hid M H) kvs cs) (z : ∀ p ∈ cs, noL p.2 = true) : CP (hid (HAppend.hAppend M A) H) kvs cs := by
  induction h with
  | nil => exact .nil
  | cons h t ih => exact .cons ⟨h.1, h.2.nol (hid_tups n) (z _ List.mem_cons_self)⟩ (ih fun p hp => z p (List.mem_cons_of_mem _ hp))
def ivF (P : Program) (w : World) (a : Ad) (F : FA) (S : FS) : Iv where
  fp := F.foot
  p := fun M H => FileAt P w a M H F S
  up := by
    intro M N H H' Z k n s h
    have out : ∀ b ∈ F.foot, b ∉ Z := fun b hb hz => (n b hz).1 hb
    obtain ⟨dx, cs, h1, h2, ⟨dy, kvs, h3, h4, h5⟩, h6⟩ := h
    exact ⟨dx, cs, k _ _ (out _ (by simp [FA.foot])) h1, k _ _ (out _ (by simp [FA.foot])) h2, ⟨dy, kvs, k _ _ (out _ (by simp [FA.foot])) h3, dm_keep k (fun z hz => (n z hz).2.1) (out _ (by simp [FA.foot])) h4, h5.mono s⟩, h6⟩
  nol := by
    intro M H A n h
    obtain ⟨dx, cs, h1, h2, ⟨dy, kvs, h3, h4, h5⟩, h6⟩ := h
    exact ⟨dx, cs, h1, h2, ⟨dy, kvs, h3, h4, h5.nol (fun l hl => (n l hl).2) h6.nl⟩, h6⟩
theorem FileAt.at0 {P : Program} {w : World} {a : Ad} {M : Ads} {H : Hp} {F : FA} {S : FS} (h : FileAt P w a M H F S) : At0 (ivF P w a F S) M H := by
  refine ⟨fun b hb => ?_, hid_noseq h.noseq, h⟩
  obtain ⟨dx, cs, h1, h2, ⟨dy, kvs, h3, ⟨xs, h4, _⟩, h5⟩, h6⟩ := h
  have hb : b = F.f ∨ b = F.s ∨ b = F.c ∨ b = F.m := by simpa [ivF, FA.foot] using hb
  rcases hb with rfl | rfl | rfl | rfl
  · rw [h1]; nofun
  · rw [h3]; nofun
  · rw [h4]; nofun
  · rw [h2]; nofun
end Sp

set_option Elab.async false
set_option linter.all false
set_option maxRecDepth 100000
set_option maxHeartbeats 4000000
/-! Promises of words.py and store.py. -/
namespace Sp
open PySem L2 SM SR SD SE
/-! ### the store -/
end Sp

set_option Elab.async false
set_option linter.all false
set_option maxRecDepth 100000
set_option maxHeartbeats 4000000
/-! What a file's readers tell, over plain lists. -/
namespace Sp
open PySem L2 SM SR SD SE
abbrev dInt (n : Nat) : D := .int (n : Nat)
abbrev dO : Option Int → D
  | none => .none
  | some i => .int i
abbrev dList (rs : List Row) : D := .list (rs.map dRow)
/-! ### the promises -/
/-- Stopped, then a key that is none, then what is told -/
def asked (a : Ad) (S : FS) (d : D) (r : Int → Rs) : Rs := if S.down then .er a.Stopped else match d with
  | .int k => if isNum d 0 999 then r k else .er a.BadKey
  | _ => .er a.BadKey
def f_found (a : Ad) (S : FS) : List D → Option Rs
  | [d] => some (asked a S d fun k => .ok (dO (lastVal (rowsOf S (pageAt S k)) k)))
  | _ => none
/-! ### laying -/
def rowD : D → Option Row
  | .tuple [.int k, .int w] => some (k, w)
  | _ => none
def rowsD : List D → Option (List Row)
  | [] => some []
  | d :: ds => match rowD d, rowsD ds with
    | some r, some rs => some (r :: rs)
    | _, _ => none
end Sp

set_option Elab.async false
set_option linter.all false
set_option maxRecDepth 100000
set_option maxHeartbeats 4000000
/-! Calls of methods over trees; the file's fields and cells. -/
namespace Sp
open PySem L2 SM SR SD SE
/-- what the written part says of the two classes -/
structure Kc (K : PySem.W.Frag) (a : Ad) : Prop where
  ne : a.File ≠ a.Store
  fc : Cls K a.File
  sc : Cls K a.Store
  room : NoAttr K a.File "room"
  spare : NoAttr K a.File "spare"
  store : NoAttr K a.File "store"
  marks : NoAttr K a.File "marks"
  count : NoAttr K a.File "count"
  cells : NoAttr K a.Store "cells"
  many : NoAttr K a.Store "many"
  left : NoAttr K a.Store "left"
  down : NoAttr K a.Store "down"
section
variable {P : Program} {w : World} {K : PySem.W.Frag} {a : Ad} {X : Wd} {Φ : Iv} {H : Hp} {Γ : Gm} {L : Lo} {σ : L2.St} {d : D} {E : XK} {te to : TE} {ta : TA} {o C : Addr} {m : Str} {ds : List D} {r : Rs}
/-! ### the file -/
variable {F : FA} {S : FS}
/-- Φ holds the file -/
abbrev FIn (P : Program) (w : World) (a : Ad) (Φ : Iv) (F : FA) (S : FS) : Prop := ∀ N G, Φ.p N G → FileAt P w a N G F S
theorem Rep.any {cs : List (MKey × D)} (r : Rep cs S) : (cs.any fun c => match c.1 with | .inr _ => true | _ => false) = true := by
  have hl : 0 < S.pages.length := by rw [r.np]; omega
  have h0 : S.pages[0]? = some (S.pages[0]'hl) := by simp
  have := r.page 0 _ h0
  unfold cellAt at this
  cases q : cs.find? fun c => decide (c.1 = kPage S.which 0) with
  | none =>
    rw [q] at this
    cases this
  | some c =>
    rw [List.any_eq_true]
    have hc := List.find?_some q
    refine ⟨c, List.mem_of_find?_eq_some q, ?_⟩
    have hc : c.1 = kPage S.which 0 := of_decide_eq_true hc
    rw [hc]
theorem FIn.store (h : FIn P w a Φ F S) (N : Ads) (G : Hp) (p : Φ.p N G) : ∃ cs dy, Rep cs S ∧ G F.s = some (.ins a.Store dy (fS F.c S.many S.left S.down)) ∧ StAt P w a N G F.s F.c ⟨cs, S.many, S.left, S.down⟩ := by
  obtain ⟨dx, cs, h1, h2, h3, h4⟩ := h N G p
  obtain ⟨dy, kvs, h5, h6, h7⟩ := id h3
  exact ⟨cs, dy, h4, h5, h3⟩
end
/-! ### shapes -/
def Shd (k : Nat) (d : D) : Prop := PyData.canLay0 d = true ∧ PyData.depth d ≤ k
theorem Shd.mono {j k : Nat} {d : D} (h : Shd j d) (e : j ≤ k) : Shd k d := ⟨h.1, Nat.le_trans h.2 e⟩
theorem Shd.ok {k : Nat} {d : D} (h : Shd k d) (e : k ≤ 64 := by decide) : SeqAt.shaped d = true := by
  unfold SeqAt.shaped
  rw [h.1, decide_eq_true (Nat.le_trans h.2 e)]
  rfl
theorem shd_int {k : Nat} {i : Int} : Shd k (.int i) := ⟨by simp [PyData.canLay0], by simp [PyData.depth]⟩
theorem shd_non {k : Nat} : Shd k .none := ⟨by simp [PyData.canLay0], by simp [PyData.depth]⟩
theorem shd_bl {k : Nat} {b : Bool} : Shd k (.bool b) := ⟨by simp [PyData.canLay0], by simp [PyData.depth]⟩
theorem shd_all {k : Nat} : ∀ {ds : List D}, (∀ d ∈ ds, Shd k d) → PyData.canLayAll0 ds = true ∧ PyData.depthAll ds ≤ k
  | [], _ => ⟨by simp [PyData.canLayAll0], by simp [PyData.depthAll]⟩
  | d :: ds, h => by
    have h1 := h d List.mem_cons_self
    have h2 := shd_all (ds := ds) fun x m => h x (List.mem_cons_of_mem _ m)
    exact ⟨by simp [PyData.canLayAll0, h1.1, h2.1], by simp only [PyData.depthAll]; exact Nat.max_le.mpr ⟨h1.2, h2.2⟩⟩
theorem shd_tup {k : Nat} {ds : List D} (h : ∀ d ∈ ds, Shd k d) : Shd (k + 1) (.tuple ds) := ⟨by simp [PyData.canLay0, (shd_all h).1], by simp only [PyData.depth]; exact Nat.succ_le_succ (shd_all h).2⟩
theorem shd_lst {k : Nat} {ds : List D} (h : ∀ d ∈ ds, Shd k d) : Shd (k + 1) (.list ds) := ⟨by simp [PyData.canLay0, (shd_all h).1], by simp only [PyData.depth]; exact Nat.succ_le_succ (shd_all h).2⟩
theorem shd_row {r : Row} : Shd 1 (dRow r) := shd_tup fun d h => by
  rcases List.mem_cons.mp h with rfl | h
  · exact shd_int
  · rcases List.mem_cons.mp h with rfl | h
    · exact shd_int
    · cases h
theorem shd_rows {rs : List Row} : Shd 2 (dRows rs) := shd_tup fun d h => by
  obtain ⟨r, _, rfl⟩ := List.mem_map.mp h
  exact shd_row
theorem eqv_int {i j : Int} : PyData.eqv (.int i) (.int j) = decide (i = j) := by
  simp only [PyData.eqv]
  rfl
theorem eqv_nilL {ds : List D} : PyData.eqv (.list ds) (.list []) = ds.isEmpty := by cases ds <;> simp [PyData.eqv, PyData.eqvAll]
end Sp

set_option Elab.async false
set_option linter.all false
set_option maxRecDepth 100000
set_option maxHeartbeats 4000000
/-! Readings, printed by gen.py. -/
namespace Sp
open PySem L2 SM SR SD SE
end Sp

set_option Elab.async false
set_option linter.all false
set_option maxRecDepth 100000
set_option maxHeartbeats 4000000
/-! words.py: what its defs come to. -/
namespace Sp
open PySem L2 SM SR SD SE
local macro_rules | `(tactic| walk_at "sp ev") => `(tactic| (repeat' (first | exact ea_nil | refine ea_cons ?_ ?_ | exact ev_var rfl | exact ev_int _ | exact ev_str _ | exact ev_non | exact ev_bl _ | exact ev_isi (ev_var rfl) | refine ev_tup ?_ (by decide) | refine ev_neg ?_ | refine ev_op ?_ ?_ ?_ | exact od_addI | exact od_subI | exact od_lt | exact od_le | exact od_gt | exact od_ge | exact od_isN | exact od_notN | exact od_ixT rfl)))
/-! ### small facts -/
theorem atI_nat {l : List D} {i : Int} {n : Nat} (h : i = (n : Nat)) (hl : n < l.length) : L2.atI l i = l[n]? := by
  subst h
  unfold L2.atI ixN
  rw [if_pos (by omega), if_pos (by omega)]
  simp
theorem find_range {p : Nat → Bool} {n k : Nat} (hk : k < n) (h : p k = true) (hI : ∀ j, j < k → p j = false) : (List.range n).find? p = some k := by
  rw [List.find?_range_eq_some]
  exact ⟨h, List.mem_range.mpr hk, fun j hj => by simp [hI j hj]⟩
theorem log_small {n : Int} (h : n.natAbs < 2 ^ 900) : n.natAbs.log2 < 1000 := by
  rcases Nat.eq_zero_or_pos n.natAbs with e | e
  · rw [e]
    decide
  · have := (Nat.log2_lt (by omega)).mpr h
    omega
section
variable {P : Program} {w : World} {K : PySem.W.Frag} {a : Ad}
end
end Sp

set_option Elab.async false
set_option linter.all false
set_option maxRecDepth 100000
set_option maxHeartbeats 4000000
/-! store.py. -/
namespace Sp
open PySem L2 SM SR SD SE
section
variable {P : Program} {w : World} {K : PySem.W.Frag} {a : Ad}
end
end Sp

set_option Elab.async false
set_option linter.all false
set_option maxRecDepth 100000
set_option maxHeartbeats 4000000
/-! files.py: what the readers tell. -/
namespace Sp
open PySem L2 SM SR SD SE
section
variable {P : Program} {w : World} {K : PySem.W.Frag} {a : Ad}
def ownLen (Γ : Gm) (i : Nat) : Nat := match Γ[i]? with
  | some (.own l) => l.length
  | _ => 0
theorem FileAt.rep {M : Ads} {H : Hp} {F : FA} {S : FS} (h : FileAt P w a M H F S) : ∃ cs, Rep cs S := by
  obtain ⟨dx, cs, _, _, _, h4⟩ := h
  exact ⟨cs, h4⟩
theorem FileAt.np {M : Ads} {H : Hp} {F : FA} {S : FS} (h : FileAt P w a M H F S) : S.pages.length = S.fences.length + 1 := let ⟨_, r⟩ := h.rep; r.np
theorem FileAt.ns {M : Ads} {H : Hp} {F : FA} {S : FS} (h : FileAt P w a M H F S) : S.spills.length ≤ 20 := let ⟨_, r⟩ := h.rep; by rw [r.ns]; exact r.sp
end
end Sp

set_option Elab.async false
set_option linter.all false
set_option maxRecDepth 100000
set_option maxHeartbeats 4000000
/-! files.py: the further readers, parted. -/
namespace Sp
open PySem L2 SM SR SD SE
section
variable {P : Program} {w : World} {K : PySem.W.Frag} {a : Ad}
/-! ### sum, dict -/
theorem dts_ints {G : Hp} : ∀ {vs : List V} {ns : List Int}, Dts G vs (ns.map PyData.int) → vs = ns.map V.int
  | [], [], _ => rfl
  | v :: vs, n :: ns, .cons h t => by
    cases h
    rw [dts_ints t]
    rfl
/-- rows as a dict's items -/
abbrev rowKV (r : Row) : Key × V := (.inl r.1, .int r.2)
/-! ### the readers -/
end
end Sp

set_option Elab.async false
set_option linter.all false
set_option maxRecDepth 100000
set_option maxHeartbeats 4000000
/-! files.py: looks, parted. -/
namespace Sp
open PySem L2 SM SR SD SE
theorem atI_last {α : Type} {l : List α} {enc : α → D} {r : α} (h : l.getLast? = some r) : L2.atI (l.map enc) (-1) = some (enc r) := by
  have hne : l ≠ [] := fun z => by
    rw [z] at h
    cases h
  have hp : 0 < l.length := List.length_pos_iff.mpr hne
  unfold L2.atI ixN
  rw [List.length_map, if_neg (by decide), if_pos (by omega)]
  show (l.map enc)[((-1 : Int) + l.length).toNat]? = _
  have e : ((-1 : Int) + l.length).toNat = l.length - 1 := by omega
  rw [e, List.getElem?_map, ← List.getLast?_eq_getElem?, h]
  rfl
section
variable {P : Program} {w : World} {K : PySem.W.Frag} {a : Ad}
/-! ### parted -/
def nParts (len n : Nat) : Nat := if len = 0 then 0 else (len - 1) / n + 1
theorem parts_eq {n : Nat} (hn : 0 < n) : ∀ (k : Nat) (rs : List Row), rs.length ≤ k → parts n k rs = (List.range (nParts rs.length n)).map fun j => (rs.drop (j * n)).take n
  | 0, rs, h => by
    have : rs = [] := List.length_eq_zero_iff.mp (by omega)
    subst this
    simp [parts, nParts]
  | k + 1, [], h => by simp [parts, nParts]
  | k + 1, r :: rs, h => by
    have hd : ((r :: rs).drop n).length ≤ k := by
      simp only [List.length_drop, List.length_cons] at h ⊢
      omega
    unfold parts
    rw [parts_eq hn k _ hd]
    have e : nParts (r :: rs).length n = nParts ((r :: rs).drop n).length n + 1 := by
      unfold nParts
      rw [List.length_drop]
      have h1 : (r :: rs).length ≠ 0 := by simp
      rw [if_neg h1]
      by_cases h2 : (r :: rs).length - n = 0
      · rw [if_pos h2, Nat.div_eq_of_lt (by omega)]
      · rw [if_neg h2]
        have h3 : (r :: rs).length - 1 = ((r :: rs).length - n - 1) + n := by omega
        rw [h3, Nat.add_div_right _ hn]
    rw [e, List.range_succ_eq_map, List.map_cons, List.map_map, Nat.zero_mul, List.drop_zero]
    congr 1
    refine List.map_congr_left fun j _ => ?_
    show (((r :: rs).drop n).drop (j * n)).take n = ((r :: rs).drop ((j + 1) * n)).take n
    rw [List.drop_drop]
    congr 2
    rw [Nat.add_mul, Nat.one_mul, Nat.add_comm]
theorem rgC_up {n c : Nat} (hn : n ≤ 1000000) (h1 : 1 ≤ c) (h2 : c ≤ 1000000) : RgC 0 (n : Nat) (c : Nat) (nParts n c) := by
  have hsz : Builtin.Range.rangeSize 0 (n : Nat) (c : Nat) = (nParts n c : Nat) := by
    unfold Builtin.Range.rangeSize nParts
    rw [if_pos (by omega)]
    by_cases h : n = 0
    · subst h
      simp
    · rw [if_pos (by omega), if_neg h]
      have : ((n : Int) - 0 - 1) = ((n - 1 : Nat) : Int) := by omega
      rw [this, Int.natCast_add, Int.natCast_ediv]
      simp
  have hb : nParts n c ≤ 1000001 := by
    unfold nParts
    split
    · omega
    · have := Nat.div_le_self (n - 1) c
      omega
  refine ⟨by omega, by omega, ?_, hsz⟩
  unfold Builtin.Range.small
  rw [hsz]
  have hc : (c : Int) > 0 := by omega
  simp only [Builtin.Range.rangeFitsLong, Bool.and_eq_true, Bool.or_eq_true, decide_eq_true_eq, beq_iff_eq, if_pos hc]
  omega
theorem cut_nat {ds : List D} {i j : Nat} (h : i ≤ j) : cut ds (some (i : Nat)) (some (j : Nat)) = (ds.drop i).take (j - i) := by
  unfold cut
  rw [HT.sIx_nat, HT.sIx_nat]
  by_cases hi : i ≤ ds.length
  · rw [Nat.min_eq_left hi]
    by_cases hj : j ≤ ds.length
    · rw [Nat.min_eq_left hj]
    · rw [Nat.min_eq_right (by omega)]
      rw [List.take_of_length_le (by simp), List.take_of_length_le (by simp; omega)]
  · rw [Nat.min_eq_right (by omega), Nat.min_eq_right (by omega), List.drop_eq_nil_of_le (by omega), List.drop_eq_nil_of_le (by omega)]
    simp
theorem rowsD_map : ∀ {ds : List D} {rs : List Row}, rowsD ds = some rs → ds = rs.map dRow
  | [], rs, h => by
    cases h
    rfl
  | d :: ds, rs, h => by
    unfold rowsD at h
    split at h
    · rename_i r rs' h1 h2
      cases h
      rw [rowsD_map h2]
      unfold rowD at h1
      split at h1
      · cases h1
        rfl
      · cases h1
    · cases h
theorem rowsD_of : ∀ (rs : List Row), rowsD (rs.map dRow) = some rs
  | [] => rfl
  | r :: rs => by
    rw [List.map_cons]
    unfold rowsD
    rw [rowsD_of rs]
    rfl
end
end Sp

set_option Elab.async false
set_option linter.all false
set_option maxRecDepth 100000
set_option maxHeartbeats 4000000
/-! Defs that write a file. -/
namespace Sp
open PySem L2 SM SR SD SE
/-- a file as it lies -/
structure RS where
  (room spare : Nat)
  st : SS
  marks : List (Int × Int)
  count : Nat
def RawAt (P : Program) (w : World) (a : Ad) (M : Ads) (H : Hp) (F : FA) (R : RS) : Prop :=
  ∃ dx, H F.f = some (.ins a.File dx (fF R.room R.spare F.s F.m R.count)) ∧ H F.m = some (.dK (R.marks.map fun m => (Sum.inl m.1, V.int m.2))) ∧ StAt P w a M H F.s F.c R.st ∧ ∀ p ∈ R.st.cells, noL p.2 = true
def FS.raw (S : FS) (cs : List (MKey × D)) : RS := ⟨S.room, S.spare, ⟨cs, S.many, S.left, S.down⟩, S.marks, S.count⟩
/-- a write: the store behind it, whether it was stopped -/
def wr (S : SS) (k : MKey) (d : D) : SS × Bool :=
  if S.down then (S, true) else if S.left = some 0 then ({ S with down := true, left := none }, true) else ({ S with cells := putC S.cells k d, many := S.many + 1, left := S.left.map (· - 1) }, false)
section
variable {P : Program} {w : World} {K : PySem.W.Frag} {a : Ad} {M N : Ads} {H H' : Hp} {F : FA} {S : FS} {R : RS}
theorem FileAt.raw (h : FileAt P w a M H F S) : ∃ cs, Rep cs S ∧ RawAt P w a M H F (S.raw cs) := by
  obtain ⟨dx, cs, h1, h2, h3, h4⟩ := h
  exact ⟨cs, h4, dx, h1, h2, h3, h4.nl⟩
theorem RawAt.noseq (h : RawAt P w a M H F R) : NoSeq F.foot H := by
  obtain ⟨dx, h1, h2, h3, _⟩ := h
  intro b hb o e
  have hb : b = F.f ∨ b = F.s ∨ b = F.c ∨ b = F.m := by simpa [FA.foot] using hb
  rcases hb with rfl | rfl | rfl | rfl
  · rw [h1] at e
    cases e
    rfl
  · exact h3.noseq _ (by simp) o e
  · exact h3.noseq _ (by simp) o e
  · rw [h2] at e
    cases e
    rfl
theorem RawAt.keep {Z : List Addr} (k : ∀ b o, b ∉ Z → H b = some o → H' b = some o) (n : ∀ z ∈ Z, z ∉ F.foot ∧ ∀ xs, H z ≠ some (.tup xs)) (s : SameS (hid M H) (hid N H')) (h : RawAt P w a M H F R) : RawAt P w a N H' F R := by
  have out : ∀ b ∈ F.foot, b ∉ Z := fun b hb hz => (n b hz).1 hb
  obtain ⟨dx, h1, h2, ⟨dy, kvs, h3, h4, h5⟩, h6⟩ := h
  exact ⟨dx, k _ _ (out _ (by simp [FA.foot])) h1, k _ _ (out _ (by simp [FA.foot])) h2, ⟨dy, kvs, k _ _ (out _ (by simp [FA.foot])) h3, dm_keep k (fun z hz => (n z hz).2) (out _ (by simp [FA.foot])) h4, h5.mono s⟩, h6⟩
theorem RawAt.lvf (h : RawAt P w a M H F R) : ∀ b ∈ F.foot, H b ≠ none := by
  obtain ⟨dx, h1, h2, ⟨dy, kvs, h3, ⟨xs, h4, _⟩, h5⟩, _⟩ := h
  intro b hb
  have hb : b = F.f ∨ b = F.s ∨ b = F.c ∨ b = F.m := by simpa [FA.foot] using hb
  rcases hb with rfl | rfl | rfl | rfl
  · rw [h1]; nofun
  · rw [h3]; nofun
  · rw [h4]; nofun
  · rw [h2]; nofun
/-- the places are four -/
theorem RawAt.ne (kc : Kc K a) (h : RawAt P w a M H F R) : F.f ≠ F.s ∧ F.f ≠ F.c ∧ F.m ≠ F.s ∧ F.m ≠ F.c ∧ F.f ≠ F.m ∧ F.s ≠ F.c := by
  obtain ⟨dx, h1, h2, ⟨dy, kvs, h3, ⟨xs, h4, _⟩, h5⟩, _⟩ := h
  refine ⟨fun z => ?_, fun z => ?_, fun z => ?_, fun z => ?_, fun z => ?_, fun z => ?_⟩
  · rw [z, h3] at h1
    simp only [Option.some.injEq, HO.ins.injEq] at h1
    exact kc.ne h1.1.symm
  · rw [z, h4] at h1
    cases h1
  · rw [z, h3] at h2
    cases h2
  · rw [z, h4] at h2
    cases h2
  · rw [z, h2] at h1
    cases h1
  · rw [z, h4] at h3
    cases h3
theorem RawAt.nol {A : Ads} (n : ∀ l ∈ A, l ∉ F.foot ∧ ∃ xs, H l = some (.lst xs)) (h : RawAt P w a M H F R) : RawAt P w a (HAppend.hAppend M A) H F R := by
  obtain ⟨dx, h1, h2, ⟨dy, kvs, h3, h4, h5⟩, h6⟩ := h
  exact ⟨dx, h1, h2, ⟨dy, kvs, h3, h4, h5.nol (fun l hl => (n l hl).2) h6⟩, h6⟩
def ivR (P : Program) (w : World) (a : Ad) (F : FA) (R : RS) : Iv := ⟨F.foot, fun M H => RawAt P w a M H F R, fun Z k n s h => h.keep k (fun z hz => ⟨(n z hz).1, (n z hz).2.1⟩) s, fun A n h => h.nol n⟩
theorem RawAt.at0 (h : RawAt P w a M H F R) : At0 (ivR P w a F R) M H := ⟨h.lvf, hid_noseq h.noseq, h⟩
end
/-! ### steps that change the held -/
section
variable {X : Wd} {Φ Φ' : Iv} {L : Lo} {H H' : Hp} {σ : L2.St} {Γ : Gm} {B : List Addr}
theorem EnvD.chg (c : Cur X Φ L H) (g : EnvD X Φ L H σ Γ) (b : But B H H') (hB : ∀ x ∈ B, x ∈ Φ.fp) (fpe : Φ'.fp = Φ.fp) (s : SameS (hd X Φ L H) (hd X Φ' L H')) : EnvD X Φ' L H' σ Γ := by
  refine ⟨g.len, fun i t e => ?_⟩
  have q := g.ok i t e
  cases t with
  | no => trivial
  | dat d =>
    obtain ⟨v, h1, h2⟩ := q
    exact ⟨v, h1, h2.mono s⟩
  | val v => exact q
  | own ds =>
    obtain ⟨l, vs, h1, h2, h3, h4⟩ := q
    exact ⟨l, vs, h1, h2, b.keep _ _ (fun z => c.dj _ h2 (hB _ z)) h3, h4.mono s⟩
  | tre d =>
    obtain ⟨v, A, h1, h2, h4, h3⟩ := q
    exact ⟨v, A, h1, h2, fun l hl => (h4 l hl).imp fun _ e => b.keep l _ (fun z => c.dj _ (h2 l hl) (hB _ z)) e, h3.mono (tgv_mono (fun l hl o e => b.keep l o (fun z => c.dj _ (h2 l hl) (hB _ z)) e) s)⟩
theorem Cur.chg (c : Cur X Φ L H) (b : But B H H') (hA : ∀ x ∈ B, x ∈ X.A) (ns : NoSeq B H) (fpe : Φ'.fp = Φ.fp) (p : Φ'.p (hdn X Φ L) H') : Cur X Φ' L H' ∧ SameS (hd X Φ L H) (hd X Φ' L H') := by
  have e : hdn X Φ' L = hdn X Φ L := by
    unfold hdn fnn
    rw [fpe]
  refine ⟨⟨c.but.trans (b.mono hA), ?_, c.new, c.om, c.nd, ?_, ?_, fun q hq => (c.ls q hq).imp fun _ z => b.keep _ _ (fun y => by have := ns _ y _ z; cases this) z⟩, ?_⟩
  · rw [e]
    exact b.lv c.lv
  · rw [fpe]
    exact c.dj
  · rw [e]
    exact p
  · show SameS (hid _ _) (hid _ _)
    rw [e]
    exact b.s ns
end
section
variable {P : Program} {w : World} {K : PySem.W.Frag} {a : Ad} {X : Wd} {F : FA} {R : RS} {Γ : Gm} {N : Gm → Iv → Prop} {Rt : Ro → Iv → Prop} {E : XK} {ta : TA} {te : TE} {k : MKey} {kd d : D}
/-! ### promises of writers -/
variable {M : Ads} {H : Hp} {Q : VK}
end
end Sp

set_option Elab.async false
set_option linter.all false
set_option maxRecDepth 100000
set_option maxHeartbeats 4000000
/-! Promises: laying, making a file. -/
namespace Sp
open PySem L2 SM SR SD SE
end Sp

set_option Elab.async false
set_option linter.all false
set_option maxRecDepth 100000
set_option maxHeartbeats 4000000
/-! Readings, printed by gen.py. -/
namespace Sp
open PySem L2 SM SR SD SE
end Sp

set_option Elab.async false
set_option linter.all false
set_option maxRecDepth 100000
set_option maxHeartbeats 4000000
/-! File.lay. -/
namespace Sp
open PySem L2 SM SR SD SE
/-! ### writes one behind the other -/
theorem noLs_of {α : Type} {f : α → D} (h : ∀ x, noL (f x) = true) : ∀ xs : List α, noL.noLs (xs.map f) = true
  | [] => rfl
  | x :: xs => by
    rw [List.map_cons, noL.noLs, h x, noLs_of h xs]
    rfl
theorem noLs_rows (rs : List Row) : noL.noLs (rs.map dRow) = true := noLs_of (fun r => rfl) rs
theorem cut_dropLast (ds : List D) : cut ds none (some (-1)) = ds.dropLast := by
  unfold cut HT.sIx
  simp only
  rw [if_pos (by decide), List.dropLast_eq_take, List.drop_zero]
  congr 1
  omega
theorem parts_ne {n : Nat} {rs p : List Row} (hn : 0 < n) (h : rs ≠ []) (hp : p ∈ partsOf n rs) : p ≠ [] := by
  unfold partsOf at hp
  rw [if_neg h, parts_eq hn _ _ (Nat.le_refl _)] at hp
  obtain ⟨j, hj, rfl⟩ := List.mem_map.mp hp
  have hl : 0 < rs.length := List.length_pos_iff.mpr h
  have hj : j < nParts rs.length n := by simpa using hj
  unfold nParts at hj
  rw [if_neg (by omega)] at hj
  have h2 : j ≤ (rs.length - 1) / n := by omega
  have h3 : j * n ≤ rs.length - 1 := (Nat.le_div_iff_mul_le hn).mp h2
  intro z
  have := congrArg List.length z
  simp at this
  omega
theorem parts_len {n : Nat} {rs : List Row} (hn : 0 < n) : (partsOf n rs).length ≤ rs.length + 1 ∧ 1 ≤ (partsOf n rs).length := by
  unfold partsOf
  split
  · simp
  · rename_i h
    rw [parts_eq hn _ _ (Nat.le_refl _)]
    have hl : 0 < rs.length := List.length_pos_iff.mpr h
    have := Nat.div_le_self (rs.length - 1) n
    simp only [List.length_map, List.length_range]
    unfold nParts
    rw [if_neg (by omega)]
    generalize (rs.length - 1) / n = q at this
    omega
section
variable {P : Program} {w : World} {K : PySem.W.Frag} {a : Ad}
end
end Sp

set_option Elab.async false
set_option linter.all false
set_option maxRecDepth 100000
set_option maxHeartbeats 4000000
/-! Cells; calls of writers; File.__init__. -/
namespace Sp
open PySem L2 SM SR SD SE
/-! ### cells -/
/-! ### calls of writers -/
section
variable {X : Wd} {Φ Φ' : Iv} {Γ : Gm} {N : Gm → Iv → Prop} {Rt : Ro → Iv → Prop} {E : XK} {ta : TA} {te : TE} {r : Rs} {ds : List D} {m : Str}
variable {P : Program} {w : World} {K : PySem.W.Frag} {a : Ad} {F : FA} {R R' : RS}
end
end Sp

set_option Elab.async false
set_option linter.all false
set_option maxRecDepth 100000
set_option maxHeartbeats 4000000
/-! File.__init__. -/
namespace Sp
open PySem L2 SM SR SD SE
section
variable {P : Program} {w : World} {K : PySem.W.Frag} {a : Ad}
end
end Sp

set_option Elab.async false
set_option linter.all false
set_option maxRecDepth 100000
set_option maxHeartbeats 4000000
/-! Expressions that may change what is held, and whose worth is one of several. -/
namespace SE
open PySem L2 SM SR SD Sp
/-- own lists stay -/
def Kp (L : Lo) (H H2 : Hp) : Prop := ∀ p ∈ L, H2 p.2 = H p.2
section
variable {X : Wd} {Φ Φ2 : Iv} {H H1 H2 H3 : Hp} {L : Lo} {σ : L2.St} {Γ Γ' : Gm} {v : V} {d e : D} {i j : Nat} {ta tb te : TE} {tt tu : TT} {S : D → Iv → Prop}
theorem Kp.same (c : Cur X Φ L H) (e : Same H H2) : Kp L H H2 := fun p hp => by
  cases q : H p.2 with
  | none => exact absurd q (c.lv _ (Or.inl (List.mem_map.mpr ⟨p, hp, rfl⟩)))
  | some o => exact e _ _ q
theorem Kp.trans (a : Kp L H H1) (b : Kp L H1 H2) : Kp L H H2 := fun p hp => (b p hp).trans (a p hp)
theorem Kp.refl : Kp L H H := fun _ _ => rfl
theorem EnvD.kp (g : EnvD X Φ L H σ Γ) (s : SameS (hd X Φ L H) (hd X Φ2 L H2)) (k : Kp L H H2) : EnvD X Φ2 L H2 σ Γ := ⟨g.len, fun i t e => by
  have q := g.ok i t e
  cases t with
  | no => trivial
  | dat d =>
    obtain ⟨v, h1, h2⟩ := q
    exact ⟨v, h1, h2.mono s⟩
  | val v => exact q
  | own ds =>
    obtain ⟨l, vs, h1, h2, h3, h4⟩ := q
    exact ⟨l, vs, h1, h2, (k _ h2).trans h3, h4.mono s⟩
  | tre d =>
    obtain ⟨v, A, h1, h2, h4, h3⟩ := q
    exact ⟨v, A, h1, h2, fun l hl => (h4 l hl).imp fun _ e => (k _ (h2 l hl)).trans e, h3.mono (tgv_mono (fun l hl o e => (k _ (h2 l hl)).trans e) s)⟩⟩
def Eg (X : Wd) (Φ : Iv) (te : TE) (Γ : Gm) (S : D → Iv → Prop) : Prop := ∀ L H σ, Cur X Φ L H → EnvD X Φ L H σ Γ → ∀ Q : VK,
  (∀ v H2 d Φ2, Cur X Φ2 L H2 → SameS (hd X Φ L H) (hd X Φ2 L H2) → Kp L H H2 → S d Φ2 → Dt (hd X Φ2 L H2) v d → Q v H2) → te σ H Q
def EgA (X : Wd) (Φ : Iv) (ta : TA) (Γ : Gm) (S : List D → Iv → Prop) : Prop := ∀ L H σ, Cur X Φ L H → EnvD X Φ L H σ Γ → ∀ Q : List V → Hp → Prop,
  (∀ vs H2 ds Φ2, Cur X Φ2 L H2 → SameS (hd X Φ L H) (hd X Φ2 L H2) → Kp L H H2 → S ds Φ2 → Dts (hd X Φ2 L H2) vs ds → Q vs H2) → ta σ H Q
def EgT (X : Wd) (Φ : Iv) (tt : TT) (Γ : Gm) (S : Bool → Iv → Prop) : Prop := ∀ L H σ, Cur X Φ L H → EnvD X Φ L H σ Γ → ∀ Q : Bool → Hp → Prop,
  (∀ b H2 Φ2, Cur X Φ2 L H2 → SameS (hd X Φ L H) (hd X Φ2 L H2) → Kp L H H2 → S b Φ2 → Q b H2) → tt σ H Q
def EgI (X : Wd) (Φ : Iv) (wi : TI) (Γ : Gm) (S : List D → Iv → Prop) : Prop := ∀ L H σ, Cur X Φ L H → EnvD X Φ L H σ Γ → ∀ R : It → Hp → Prop,
  (∀ J H2 ds Φ2, Cur X Φ2 L H2 → SameS (hd X Φ L H) (hd X Φ2 L H2) → Kp L H H2 → Wk (hdn X Φ2 L) H2 J ds → S ds Φ2 → R J H2) → wi σ H R
theorem eg_of (h : Ev X Φ te Γ d) (s : S d Φ) : Eg X Φ te Γ S := fun L H σ c g Q q => h L H σ c g Q fun v H2 e r => q v H2 d Φ (c.up e) (Same.s (Same.hid e)) (Kp.same c e) s r
theorem ega_of {ta : TA} {ds : List D} {S : List D → Iv → Prop} (h : EvA X Φ ta Γ ds) (s : S ds Φ) : EgA X Φ ta Γ S := fun L H σ c g Q q => h L H σ c g Q fun vs H2 e r => q vs H2 ds Φ (c.up e) (Same.s (Same.hid e)) (Kp.same c e) s r
theorem ega_nil {S : List D → Iv → Prop} (s : S [] Φ) : EgA X Φ tNil Γ S := ega_of ea_nil s
theorem ega_cons {tr : TA} {S : List D → Iv → Prop} (h : Eg X Φ ta Γ fun d Φ1 => EgA X Φ1 tr Γ fun ds Φ2 => S (d :: ds) Φ2) : EgA X Φ (tCons ta tr) Γ S := fun L H σ c g Q q =>
  h L H σ c g _ fun v H1 d Φ1 c1 s1 k1 x r1 => x L H1 σ c1 (g.kp s1 k1) _ fun vs H2 ds Φ2 c2 s2 k2 y r2 => q _ H2 _ Φ2 c2 (s1.trans s2) (k1.trans k2) y (.cons (r1.mono s2) r2)
theorem eg_op {r : R2} (h : Eg X Φ ta Γ fun d Φ1 => Eg X Φ1 tb Γ fun e Φ2 => ∃ f, OpD r d e f ∧ S f Φ2) : Eg X Φ (tOp r ta tb) Γ S := fun L H σ c g Q q =>
  h L H σ c g _ fun v H1 d Φ1 c1 s1 k1 x r1 => x L H1 σ c1 (g.kp s1 k1) _ fun u H2 e Φ2 c2 s2 k2 y r2 => by
    obtain ⟨f, o, z⟩ := y
    exact o _ H2 v u c2.lv (r1.mono s2) r2 Q fun z' H3 e3 r3 => q z' H3 f Φ2 (c2.up e3) ((s1.trans s2).trans (Same.s (Same.hid e3))) ((k1.trans k2).trans (Kp.same c2 e3)) z r3
theorem eg_lst {ta : TA} (h : EgA X Φ ta Γ fun ds Φ2 => ds.length ≤ 100000 ∧ S (.list ds) Φ2) : Eg X Φ (tLst ta) Γ S := fun L H σ c g Q q =>
  h L H σ c g _ fun vs H1 ds Φ1 c1 s1 k1 x r1 => ⟨by rw [r1.len]; exact Nat.le_trans x.1 (by decide), fun p hp => q _ _ _ Φ1 (c1.up (new_same hp)) (s1.trans (Same.s (Same.hid (new_same hp)))) (k1.trans (Kp.same c1 (new_same hp))) x.2 (.lst (new_at c1.lv hp) (r1.mono (Same.s (Same.hid (new_same hp)))))⟩
theorem egt_test {S : Bool → Iv → Prop} (h : Eg X Φ te Γ fun d Φ2 => ∃ b, d = .bool b ∧ S b Φ2) : EgT X Φ (tTest te) Γ S := fun L H σ c g Q q => h L H σ c g _ fun v H1 d Φ1 c1 s1 k1 x r1 => by
  obtain ⟨b, rfl, z⟩ := x
  cases r1
  exact ⟨b, rfl, q b H1 Φ1 c1 s1 k1 z⟩
theorem egi_range1 {ta : TA} {S : List D → Iv → Prop} (h : EgA X Φ ta Γ fun ds Φ2 => ∃ n : Int, ds = [.int n] ∧ -(2 ^ 62) ≤ n ∧ n < 2 ^ 62 ∧ S (rgD 0 1 n.toNat) Φ2) : EgI X Φ (iRng1 ta) Γ S := fun L H σ c g R q => h L H σ c g _ fun vs H1 ds Φ1 c1 s1 k1 x r1 => by
  obtain ⟨n, rfl, h1, h2, z⟩ := x
  cases r1 with
  | cons r r2 =>
    cases r2
    cases r
    exact ⟨n, rfl, h1, h2, q _ H1 _ Φ1 c1 s1 k1 wk_range z⟩
/-! ### statements -/
variable {t u : TS} {N : Gm → Iv → Prop} {R : Ro → Iv → Prop}
theorem fg_asg (h : Eg X Φ te Γ fun d Φ2 => N (Γ.set i (.dat d)) Φ2) : FW X (tAsg te (gName i)) Γ Φ N R := fun L H σ D c g k r => h L H σ c g _ fun v H1 d Φ1 c1 s1 k1 x r1 => k L H1 _ _ Φ1 c1 s1 ((g.kp s1 k1).dat r1) x
theorem fg_ret (h : Eg X Φ te Γ fun d Φ2 => R (.dat d) Φ2) : FW X (tRet te) Γ Φ N R := fun L H σ D c g k r => h L H σ c g _ fun v H1 d Φ1 c1 s1 k1 x r1 => r v (.dat d) H1 Φ1 c1.but c1.end_ (r1.mono (Same.s c1.sub)) x
theorem fg_if (h : EgT X Φ tt Γ fun b Φ1 => (b = true → FW X t Γ Φ1 N R) ∧ (b = false → FW X u Γ Φ1 N R)) : FW X (tIfS tt t u) Γ Φ N R := fun L H σ D c g k r => h L H σ c g _ fun b H1 Φ1 c1 s1 k1 x => by
  cases b with
  | true => exact x.1 rfl L H1 σ D c1 (g.kp s1 k1) (fun L' H' σ' Γ' Φ' c' s' => k L' H' σ' Γ' Φ' c' (s1.trans s')) r
  | false => exact x.2 rfl L H1 σ D c1 (g.kp s1 k1) (fun L' H' σ' Γ' Φ' c' s' => k L' H' σ' Γ' Φ' c' (s1.trans s')) r
theorem fg_for {wi : TI} {gt : TG} {tb : TS} (I : List D → Nat → Gm → Iv → Prop) (hi : EgI X Φ wi Γ fun ds Φ2 => I ds 0 Γ Φ2)
    (hs : ∀ ds (k : Nat) d Γ1 Φ1, ds[k]? = some d → I ds k Γ1 Φ1 → ∃ Γ2, Tg X Φ1 gt d Γ1 Γ2 ∧ FW X tb Γ2 Φ1 (I ds (k + 1)) R) (hn : ∀ ds Γ1 Φ1, I ds ds.length Γ1 Φ1 → N Γ1 Φ1) : FW X (tFor wi gt tb) Γ Φ N R := fun L H σ D c gg k r =>
  hi L H σ c gg _ fun J Ha ds Φa ca sa ka wk h0 => by
    refine ⟨fun i m σ1 H1 => m = ds.length - i ∧ i ≤ ds.length ∧ ∃ L1 Γ1 Φ1, Cur X Φ1 L1 H1 ∧ SameS (hd X Φa L Ha) (hd X Φ1 L1 H1) ∧ EnvD X Φ1 L1 H1 σ1 Γ1 ∧ I ds i Γ1 Φ1, ⟨ds.length, by simp, Nat.zero_le _, L, Γ, Φa, ca, SameS.refl _, gg.kp sa ka, h0⟩, ?_⟩
    rintro i m σ1 H1 ⟨rfl, hle, L1, Γ1, Φ1, c1, s1, g1, i1⟩
    obtain ⟨go, stop⟩ := wk _ H1 s1 c1.lv
    by_cases hlt : i < ds.length
    · obtain ⟨y1, y2⟩ := go i ds[i] (by simp [hlt])
      obtain ⟨Γ2, ht, hb⟩ := hs ds i ds[i] Γ1 Φ1 (by simp [hlt]) i1
      refine .inr ⟨y1, fun σ' H' => ∃ L' Γ' Φ', Cur X Φ' L' H' ∧ SameS (hd X Φa L Ha) (hd X Φ' L' H') ∧ EnvD X Φ' L' H' σ' Γ' ∧ I ds (i + 1) Γ' Φ', fun σ' H' z => ⟨_, by omega, rfl, hlt, z⟩, fun x H' y => ?_⟩
      obtain ⟨e2, rx⟩ := y2 x H' y
      refine ht L1 H' σ1 x (g1.up e2) rx _ fun σ2 g2 => ?_
      refine hb L1 H' σ2 _ (c1.up e2) g2 (fun L3 H3 σ3 Γ3 Φ3 c3 s3 g3 n3 => ⟨L3, Γ3, Φ3, c3, (s1.trans (Same.s (Same.hid e2))).trans s3, g3, n3⟩) r
    · have e : i = ds.length := by omega
      subst e
      exact .inl ⟨stop, k L1 H1 σ1 Γ1 Φ1 c1 (sa.trans s1) g1 (hn ds Γ1 Φ1 i1)⟩
/-! ### comprehensions -/
inductive All2 {α : Type} (A : α → D → Prop) : List α → List D → Prop
  | nil : All2 A [] []
  | cons {x : α} {d : D} {xs : List α} {ds : List D} : A x d → All2 A xs ds → All2 A (x :: xs) (d :: ds)
theorem All2.snoc {α : Type} {A : α → D → Prop} {xs : List α} {ds : List D} {x : α} {d : D} (h : All2 A xs ds) (a : A x d) : All2 A (xs ++ [x]) (ds ++ [d]) := by
  induction h with
  | nil => exact .cons a .nil
  | cons b _ ih => exact .cons b ih
theorem All2.len {α : Type} {A : α → D → Prop} {xs : List α} {ds : List D} (h : All2 A xs ds) : ds.length = xs.length := by
  induction h with
  | nil => rfl
  | cons _ _ ih => rw [List.length_cons, List.length_cons, ih]
/-- [e for x in xs], Φ staying as it is told -/
theorem eg_lcm {α : Type} {wi : TI} {gt : TG} {vs : List Nat} {xs : List α} {enc : α → D} (A : α → D → Prop) (hi : EvI X Φ wi Γ (xs.map enc)) (hz : xs.length < 100000)
    (hs : ∀ x ∈ xs, ∃ Γ2, TgW X Φ gt vs (enc x) (wipeG Γ vs) Γ2 ∧ Eg X Φ te Γ2 fun d Φ2 => A x d ∧ Φ2 = Φ) (hq : ∀ ds, All2 A xs ds → S (.list ds) Φ) : Eg X Φ (tLc wi gt tYes te vs) Γ S := fun L H σ c gg Q q =>
  hi L H σ c gg _ fun J Ha e1 wk => by
    intro D hD
    have c1 := c.up e1
    have g1 := gg.up e1
    have sD := new_same (o := .lst []) hD
    have nD : D ∉ hdn X Φ L := c1.lv.out hD
    obtain ⟨c0, s0, _⟩ := own_new (i := 0) (vs := []) (ds := []) c1 g1 hD .nil
    have gD : ∀ H1, SameS (hd X Φ L Ha) (hd X Φ ((0, D) :: L) H1) → Kp L Ha H1 → EnvD X Φ ((0, D) :: L) H1 σ Γ := fun H1 s1 k1 => ⟨g1.len, fun j t hj => by
      have z := g1.ok j t hj
      cases t with
      | no => trivial
      | dat d =>
        obtain ⟨v, h1, h2⟩ := z
        exact ⟨v, h1, h2.mono s1⟩
      | val v => exact z
      | own ds =>
        obtain ⟨l', vs2, a1, a2, a3, a4⟩ := z
        exact ⟨l', vs2, a1, List.mem_cons_of_mem _ a2, (k1 _ a2).trans a3, a4.mono s1⟩
      | tre d =>
        obtain ⟨v, A1, a1, a2, a4, a3⟩ := z
        exact ⟨v, A1, a1, fun l hl => List.mem_cons_of_mem _ (a2 l hl), fun l hl => (a4 l hl).imp fun _ e => (k1 _ (a2 l hl)).trans e, a3.mono (tgv_mono (fun l hl o e => (k1 _ (a2 l hl)).trans e) s1)⟩⟩
    refine ⟨fun i m H1 => m = xs.length - i ∧ i ≤ xs.length ∧ Cur X Φ ((0, D) :: L) H1 ∧ SameS (hd X Φ L Ha) (hd X Φ ((0, D) :: L) H1) ∧ Kp L Ha H1 ∧ ∃ us ds, H1 D = some (.lst us) ∧ Dts (hd X Φ ((0, D) :: L) H1) us ds ∧ All2 A (xs.take i) ds, ⟨xs.length, by simp, Nat.zero_le _, c0, s0, Kp.same c1 sD, [], [], upd_same, .nil, by simpa using All2.nil⟩, ?_⟩
    rintro i m H1 ⟨rfl, hle, cD, s1, k1, us, ds, hus, rus, hA⟩
    obtain ⟨go, stop⟩ := wk _ H1 s1 cD.lv
    rw [List.length_map] at stop
    by_cases hlt : i < xs.length
    · obtain ⟨y1, y2⟩ := go i (enc xs[i]) (by simp [hlt])
      obtain ⟨Γ2, ht, ht3⟩ := hs xs[i] (List.getElem_mem hlt)
      have tk : xs.take (i + 1) = xs.take i ++ [xs[i]] := by rw [List.take_add_one]; simp [hlt]
      refine .inr ⟨y1, fun H' => Cur X Φ ((0, D) :: L) H' ∧ SameS (hd X Φ L Ha) (hd X Φ ((0, D) :: L) H') ∧ Kp L Ha H' ∧ ∃ us ds, H' D = some (.lst us) ∧ Dts (hd X Φ ((0, D) :: L) H') us ds ∧ All2 A (xs.take (i + 1)) ds, fun H' z => ⟨_, by omega, rfl, hlt, z⟩, fun x H' y => ?_⟩
      obtain ⟨e2, rx⟩ := y2 x H' y
      refine ht ((0, D) :: L) H' (L2.wipe σ vs) x (((gD H1 s1 k1).up e2).wipe vs) rx _ fun σ2 g2 w2 => ⟨?_, ?_⟩
      · rw [w2]
        exact SE.ev_lc0.wipe_wipe (xs := xs) σ vs
      show te σ2 H' _
      refine ht3 _ H' σ2 (cD.up e2) g2 _ fun v H4 d Φ4 c4 s4 k4 z r4 => ?_
      obtain ⟨z, rfl⟩ := z
      have hus4 : H4 D = some (.lst us) := (k4 (0, D) List.mem_cons_self).trans (e2 _ _ hus)
      have rus4 := (rus.mono (Same.s (Same.hid e2))).mono s4
      have zl : us.length < sizeLine := by
        have h2 := hA.len
        have h1 := Dts.len rus
        rw [List.length_take] at h2
        exact Nat.lt_of_lt_of_le (by omega) (by decide : 100000 ≤ sizeLine)
      have g4 := g2.kp s4 k4
      have hput : Cur X Φ4 ((0, D) :: L) (upd H4 D (.lst (us ++ [v]))) ∧ SameS (hd X Φ4 ((0, D) :: L) H4) (hd X Φ4 ((0, D) :: L) (upd H4 D (.lst (us ++ [v])))) := put0 c4 hus4
      refine ⟨us, hus4, zl, hput.1, (((s1.trans (Same.s (Same.hid e2))).trans s4).trans hput.2), fun p hp => ?_, us ++ [v], ds ++ [d], upd_same, ((rus4.app (.cons r4 .nil)).mono hput.2), ?_⟩
      · have hne : p.2 ≠ D := fun z => nD (by rw [← z]; exact Or.inl (List.mem_map.mpr ⟨p, hp, rfl⟩))
        rw [upd_ne hne, k4 p (List.mem_cons_of_mem _ hp), Kp.same cD e2 p (List.mem_cons_of_mem _ hp), k1 p hp]
      · rw [tk]
        exact hA.snoc z
    · have e : i = xs.length := by omega
      subst e
      rw [List.take_length] at hA
      have sub : Same (hd X Φ ((0, D) :: L) H1) (hd X Φ L H1) := hid_sub fun a ha => mem_cons_hdn.mpr (.inr ha)
      refine .inl ⟨stop, q _ H1 _ Φ ⟨cD.but, fun a m => cD.lv a (mem_cons_hdn.mpr (.inr m)), fun p hp => cD.new p (List.mem_cons_of_mem _ hp), fun p hp => cD.om p (List.mem_cons_of_mem _ hp), ?_, fun p hp => cD.dj p (List.mem_cons_of_mem _ hp), Iv.same (Same.refl _) (Same.s sub) cD.at_, fun p hp => cD.ls p (List.mem_cons_of_mem _ hp)⟩ ((Same.s (Same.hid e1)).trans (s1.trans (Same.s sub))) ((Kp.same c e1).trans k1) (hq ds hA) (.lst ?_ (rus.mono (Same.s sub)))⟩
      · have := cD.nd
        rw [List.map_cons, List.nodup_cons] at this
        exact this.2
      · exact (hid_out nD).trans hus
where
  put0 {Φ : Iv} {L : Lo} {H : Hp} {D : Addr} {us us' : List V} (c : Cur X Φ ((0, D) :: L) H) (h : H D = some (.lst us)) : Cur X Φ ((0, D) :: L) (upd H D (.lst us')) ∧ SameS (hd X Φ ((0, D) :: L) H) (hd X Φ ((0, D) :: L) (upd H D (.lst us'))) := by
    have g : EnvD X Φ ((0, D) :: L) H [some (.ref D)] [.own (us.map fun _ => PyData.none)] → True := fun _ => trivial
    have e : hd X Φ ((0, D) :: L) (upd H D (.lst us')) = hd X Φ ((0, D) :: L) H := hid_upd (mem_cons_hdn.mpr (.inl rfl))
    have s0 : SameS (hd X Φ ((0, D) :: L) H) (hd X Φ ((0, D) :: L) (upd H D (.lst us'))) := by
      rw [e]
      exact SameS.refl _
    refine ⟨⟨⟨fun a o n q => ?_, fun a q z => ?_⟩, fun a m z => ?_, c.new, c.om, c.nd, c.dj, Φ.up [D] (fun b o nb q => ?_) (fun z hz => ?_) s0 c.at_, fun p hp => ?_⟩, s0⟩
    · rw [upd_ne fun z => by
        have := c.new (0, D) List.mem_cons_self
        rw [← z, q] at this
        cases this]
      exact c.but.keep a o n q
    · by_cases e : a = D
      · rw [e, upd_same] at z
        cases z
      · rw [upd_ne e] at z
        exact c.but.live a q z
    · by_cases q : a = D
      · rw [q, upd_same] at z
        cases z
      · rw [upd_ne q] at z
        exact c.lv a m z
    · rw [upd_ne (by simpa using nb)]
      exact q
    · have : z = D := by simpa using hz
      rw [this, h]
      exact ⟨c.dj (0, D) List.mem_cons_self, (fun xs z => by cases z), (fun o u z => by cases z), fun e z => by cases z⟩
    · by_cases q : p.2 = D
      · exact ⟨_, by rw [q, upd_same]⟩
      · obtain ⟨xs, hx⟩ := c.ls p hp
        exact ⟨xs, by rw [upd_ne q]; exact hx⟩
end
end SE

set_option Elab.async false
set_option linter.all false
set_option maxRecDepth 100000
set_option maxHeartbeats 4000000
/-! Trees whose lists are one's own: made, looked at, changed. -/
namespace SE
open PySem L2 SM SR SD Sp
section
variable {X : Wd} {Φ Φ2 : Iv} {H H1 H2 H3 : Hp} {L L' : Lo} {σ : L2.St} {Γ Γ' : Gm} {v : V} {d e : D} {i j : Nat} {ta tb te : TE} {tt tu : TT} {N : Gm → Iv → Prop} {R : Ro → Iv → Prop}
theorem EnvD.grow (g : EnvD X Φ L H σ Γ) (sub : ∀ p ∈ L, p ∈ L') (e : Same H H2) (s : SameS (hd X Φ L H) (hd X Φ L' H2)) : EnvD X Φ L' H2 σ Γ := ⟨g.len, fun j t hj => by
  have q := g.ok j t hj
  cases t with
  | no => trivial
  | dat d =>
    obtain ⟨v, h1, h2⟩ := q
    exact ⟨v, h1, h2.mono s⟩
  | val v => exact q
  | own ds =>
    obtain ⟨l, vs, h1, h2, h3, h4⟩ := q
    exact ⟨l, vs, h1, sub _ h2, e _ _ h3, h4.mono s⟩
  | tre d =>
    obtain ⟨v, A, h1, h2, h4, h3⟩ := q
    exact ⟨v, A, h1, fun l hl => sub _ (h2 l hl), fun l hl => (h4 l hl).imp fun _ z => e _ _ z, h3.mono (tgv_mono (fun l _ o h => e l o h) s)⟩⟩
theorem tgv_H {A : List Addr} {N : Ads} {H : Hp} {a : Addr} {o : HO} (h : tgv A N H a = some o) : H a = some o := hid_le _ _ (tgv_le _ _ h)
end
end SE

set_option Elab.async false
set_option linter.all false
set_option maxRecDepth 100000
set_option maxHeartbeats 4000000
/-! d.update(e). -/
namespace SR
open PySem PySem.Spec PyProof.Rows L2 SM
def tDUpd (td ty : TE) : TE := fun σ H Q => td σ H fun x H1 => ∃ a, x = .ref a ∧ IsD H1 a ∧ ty σ H1 fun y H2 => ∃ b kvs more, y = .ref b ∧ a ≠ b ∧ H2 a = some (.dK kvs) ∧ H2 b = some (.dK more) ∧ kvs.length + more.length ≤ 1000 ∧ Q .non (upd H2 a (.dK (mergeK kvs more)))
section
variable {X : Cx} {pins : List (Addr × Obj)} {σ : L2.St} {H : Hp} {s : Shared} {a b : Addr} {kvs more : List (Key × V)} {A : Around} {E : Value → Shared → Prop}
theorem d_update {Q : Value → Shared → Prop} (I : Inv X pins σ H s) (ea : H a = some (.dK kvs)) (eb : H b = some (.dK more)) (ne : a ≠ b) (hz : kvs.length + more.length ≤ 1000)
    (h : ∀ s', Inv X pins σ (upd H a (.dK (mergeK kvs more))) s' → Q .none s') : wpAny (model X.prog X.w) A (call (.builtin "dict.update") [.ref a, .ref b]) Q E s := by
  obtain ⟨z1, d1, vs, rel, dd⟩ := dk_of I.hok ea
  obtain ⟨z2, d2, ws, rel2, dd2⟩ := dk_of I.hok eb
  have zz : (1000 : Nat) ≤ sizeLine := by decide
  refine call_meetsIn PySem.F.slot_dict_update dd.typeIs PySem.F.entry_dict_update (PySem.F.args_dict_update_2 _ _) (meets_dict_update (mixKind X.prog X.w) a b ne d2)
    ⟨vs, ws, dd, dd2, by rw [← rel.length, ← rel2.length]; omega, fun h' dd' _ hs => h _ ?_⟩
  have he : ∃ q, h'.get? a = some q := let ⟨q, _, _, hq, _⟩ := dd'; ⟨q, hq⟩
  have hl := length_mergeK more kvs
  exact d_write I (by rw [ea]; exact True.intro) hs he (dk_new (by omega) d1 (KV.merge rel2 rel) dd')
variable {o e : Expr} {apos cpos : Pos} {td ty : TE}
theorem pe_dupd (ho : PE X o td) (he : PE X e ty) (m : M1 X o "update" apos e cpos) : PE X (.Call (.Attribute o "update" apos) [e] [] cpos) (tDUpd td ty) := by
  refine ⟨fun pins s σ H Q I h => ?_⟩
  refine wpAny_Call_method m.base m.few m.line PySem.F.plainAttrs_dict PySem.F.slot_dict_update PySem.F.type_dict_update (thn (ho.run pins s σ H _ I h) fun u s1 ⟨x, H1, I1, rx, a, ex, d, q1⟩ => ?_)
  subst ex
  cases (show u = Value.ref a from rx)
  obtain ⟨t1, t2, _⟩ := isD_at I1 d
  refine ⟨t1, t2, ?_⟩
  rw [m.trees]
  refine Calls.callWith_builtin rfl (Calls.evalArgs_plain (Calls.spliced_cons (thn (he.run pins s1 σ H1 _ I1 q1) fun iv s2 ⟨y, H2, I2, ry, b, kvs, more, ey, ne, ea, eb, hz, q2⟩ => Calls.spliced_nil ?_)))
  subst ey
  cases (show iv = Value.ref b from ry)
  exact d_update I2 ea eb ne hz fun s3 I3 => ⟨.non, _, I3, rfl, q2⟩
end
end SR

set_option Elab.async false
set_option linter.all false
set_option maxRecDepth 100000
set_option maxHeartbeats 4000000
/-! The laws' row of numbers, and what is drawn from it; alike; promises. -/
namespace Sp
open PySem L2 SM SR SD SE
/-- a list that nothing may change -/
def SqF (K : PySem.W.Frag) (H : Hp) (b : Addr) (xs : List V) : Prop := (∃ o, H b = some (.frz o (.lst xs))) ∨ ∃ (o : Obj) (its : Array Value) (n : Nat), K.lookup b = some o ∧ o.cls = .type "list" ∧ o.dict = none ∧ o.data = .seq its n ∧ its.size ≤ sizeLine ∧ Vals xs its.toList
theorem SqF.l {K : PySem.W.Frag} {H : Hp} {b : Addr} {xs : List V} (h : SqF K H b xs) : SqL K H b xs := h.elim (fun z => .inl (.inr z)) .inr
theorem SqF.keep {K : PySem.W.Frag} {H H' : Hp} {b : Addr} {xs : List V} (k : ∀ o, H b = some (.frz o (.lst xs)) → H' b = some (.frz o (.lst xs))) (h : SqF K H b xs) : SqF K H' b xs := h.imp (fun ⟨o, z⟩ => ⟨o, k o z⟩) id
def RowAt (K : PySem.W.Frag) (H : Hp) (r scr : Addr) : Prop := ∃ (ns : List Int) (p s c : Int), H r = some (.lst [.ref scr, .int p, .int s, .int c]) ∧ SqF K H scr (ns.map V.int) ∧ 0 ≤ p ∧ 0 ≤ s ∧ s < 2147483647
def ivRow (K : PySem.W.Frag) (r scr : Addr) : Iv := ⟨[r], fun _ H => RowAt K H r scr, fun Z k n _ h => by
  obtain ⟨ns, p, s, c, h1, h2, h3⟩ := h
  exact ⟨ns, p, s, c, k _ _ (fun z => (n _ z).1 (by simp)) h1, h2.keep fun o z => k _ _ (fun y => (n _ y).2.2.1 _ _ z) z, h3⟩, fun _ _ h => h⟩
/-- a number below n is drawn -/
def sp_law_taken (P : Program) (w : World) (K : PySem.W.Frag) (a : Ad) : Sp := fun vs H Q E => ∃ r scr n, vs = [.ref r, .int n] ∧ 1 ≤ n ∧ n < 1000000000 ∧ RowAt K H r scr ∧ ∀ k H', 0 ≤ k → k < n → But [r] H H' → RowAt K H' r scr → Q (.int k) H'
/-- a def that draws, and what it may come to -/
def SpRow (K : PySem.W.Frag) (f : List D → D → Prop) : Sp := fun vs H Q E => ∃ (M : Ads) (r scr : Addr) (us : List V) (ds : List D), vs = .ref r :: us ∧ Lv M H ∧ r ∈ M ∧ RowAt K H r scr ∧ Dts (hid M H) us ds ∧ (∃ d, f ds d) ∧ ∀ v d H', f ds d → But [r] H H' → RowAt K H' r scr → Dt (hid M H') v d → Q v H'
/-! ### alike -/
def plainD : Nat → D → Bool
  | 0, _ => false
  | n + 1, .tuple ds => decide (ds.length ≤ 10000) && ds.all (plainD n)
  | n + 1, .list ds => decide (ds.length ≤ 10000) && ds.all (plainD n)
  | _ + 1, .dict _ => false
  | _ + 1, .str x => decide (x.length ≤ 10000) && PyData.canLay0 (.str x)
  | _ + 1, _ => true
open Classical in
noncomputable def f_alike (n : Nat) : List D → Option Rs
  | [x, y] => if x = y ∧ plainD n x = true then some (.ok (.bool true)) else none
  | _ => none
noncomputable def sp_alikeN (n : Nat) : Sp := SpP (f_alike n)
/-- the depth that the laws need -/
noncomputable def sp_law_alike (P : Program) (w : World) (K : PySem.W.Frag) (a : Ad) : Sp := sp_alikeN 16
end Sp

set_option Elab.async false
set_option linter.all false
set_option maxRecDepth 100000
set_option maxHeartbeats 4000000
/-! Readings, printed by gen.py: what all laws share. -/
namespace Sp
open PySem L2 SM SR SD SE
def t_law_taken (P : Program) (w : World) (K : PySem.W.Frag) (a : Ad) (E : XK) : TS :=
  (tSeq (tIfS (tTest (tOp rGtI (tOp (rIxU P w K) (tVar 0) (tC (.int 3))) (tC (.int 0)))) (tSeq (tAsg (tOp rModI (tOp (rIxU P w K) (tVar 0) (tC (.int 3))) (tVar 1)) (gName 2)) (tSeq (tAsg (tOp rDivI (tOp (rIxU P w K) (tVar 0) (tC (.int 3))) (tVar 1)) (gSub (tVar 0) (tC (.int 3)) (rSetU P w))) (tRet (tVar 2)))) tNext) (tSeq (tAsg (tOp (rAddU K) (tOp (rIxU P w K) (tVar 0) (tC (.int 1))) (tC (.int 1))) (gSub (tVar 0) (tC (.int 1)) (rSetU P w))) (tSeq (tIfS (tTest (tOp rGtI (tOp (rIxU P w K) (tVar 0) (tC (.int 1))) (tCB (rLenU K) (tCons (tOp (rIxU P w K) (tVar 0) (tC (.int 0))) tNil)))) (tSeq (tAsg (tOp rModI (tOp (rAddU K) (tOp (rMulU K) (tOp (rIxU P w K) (tVar 0) (tC (.int 2))) (tC (.int 48271))) (tC (.int 11))) (tC (.int 2147483647))) (gSub (tVar 0) (tC (.int 2)) (rSetU P w))) (tRet (tOp rModI (tOp rDivI (tOp (rIxU P w K) (tVar 0) (tC (.int 2))) (tC (.int 7))) (tVar 1)))) tNext) (tSeq (tAsg (tOp (rIxU P w K) (tOp (rIxU P w K) (tVar 0) (tC (.int 0))) (tOp rSubI (tOp (rIxU P w K) (tVar 0) (tC (.int 1))) (tC (.int 1)))) (gName 3)) (tSeq (tAsg (tOp rModI (tOp (rAddU K) (tOp (rAddU K) (tOp (rMulU K) (tOp (rIxU P w K) (tVar 0) (tC (.int 2))) (tC (.int 48271))) (tVar 3)) (tC (.int 11))) (tC (.int 2147483647))) (gSub (tVar 0) (tC (.int 2)) (rSetU P w))) (tSeq (tIfS (tTest (tOp rGeI (tVar 3) (tOp rPowI (tC (.int 10)) (tC (.int 18))))) (tAsg (tOp rDivI (tVar 3) (tVar 1)) (gSub (tVar 0) (tC (.int 3)) (rSetU P w))) tNext) (tRet (tOp rModI (tVar 3) (tVar 1)))))))))
abbrev n_law_taken : List Str := ["_law_row", "_law_many", "_law_found", "_law_cell"]
def t_law_alike (P : Program) (w : World) (K : PySem.W.Frag) (a : Ad) (spA : Sp) (E : XK) : TS :=
  (tSeq (tIfS (tOr (tB (tCB (rIsU K) (tCons (tVar 1) (tCons (tC (.ty "tuple")) tNil)))) (tB (tCB (rIsU K) (tCons (tVar 1) (tCons (tC (.ty "list")) tNil))))) (tSeq (tIfS (tOr (tTest (tOp (rNeD K) (tCB (rIsU K) (tCons (tVar 0) (tCons (tC (.ty "tuple")) tNil))) (tCB (rIsU K) (tCons (tVar 1) (tCons (tC (.ty "tuple")) tNil))))) (tNot (tB (tCB (rIsU K) (tCons (tVar 0) (tCons (tTupB (tCons (tC (.ty "tuple")) (tCons (tC (.ty "list")) tNil))) tNil)))))) (tRet (tC (.bl false))) tNext) (tSeq (tIfS (tTest (tOp (rNeD K) (tCB (rLenU K) (tCons (tVar 0) tNil)) (tCB (rLenU K) (tCons (tVar 1) tNil)))) (tRet (tC (.bl false))) tNext) (tRet (tOp (rEqD K) (tLc (iRng1 (tCons (tCB (rLenU K) (tCons (tVar 1) tNil)) tNil)) (gName 2) (tNot (tB (tCall spA [] E0 (tCons (tOp (rIxU P w K) (tVar 0) (tVar 2)) (tCons (tOp (rIxU P w K) (tVar 1) (tVar 2)) tNil))))) (tVar 2) [2]) (tLst tNil))))) tNext) (tSeq (tIfS (tOr (tTest (tOp rIsNone (tVar 1) (tC .non))) (tTest (tOp rIsNone (tVar 0) (tC .non)))) (tRet (tAndV (tOp rIsNone (tVar 1) (tC .non)) (tOp rIsNone (tVar 0) (tC .non)))) tNext) (tSeq (tIfS (tOr (tB (tCB (rIsU K) (tCons (tVar 1) (tCons (tC (.ty "bool")) tNil)))) (tB (tCB (rIsU K) (tCons (tVar 0) (tCons (tC (.ty "bool")) tNil))))) (tRet (tAndV (tCB (rIsU K) (tCons (tVar 1) (tCons (tC (.ty "bool")) tNil))) (tAndV (tCB (rIsU K) (tCons (tVar 0) (tCons (tC (.ty "bool")) tNil))) (tOp (rEqD K) (tVar 0) (tVar 1))))) tNext) (tSeq (tIfS (tB (tCB (rIsU K) (tCons (tVar 1) (tCons (tC (.ty "str")) tNil)))) (tRet (tAndV (tCB (rIsU K) (tCons (tVar 0) (tCons (tC (.ty "str")) tNil))) (tOp (rEqD K) (tVar 0) (tVar 1)))) tNext) (tRet (tAndV (tCB (rIsU K) (tCons (tVar 0) (tCons (tC (.ty "int")) tNil))) (tOp (rEqD K) (tVar 0) (tVar 1))))))))
abbrev n_law_alike : List Str := ["_law_found", "_law_due", "_law_k"]
end Sp

set_option Elab.async false
set_option linter.all false
set_option maxRecDepth 100000
set_option maxHeartbeats 4000000
/-! _law_taken, _law_alike. -/
namespace Sp
open PySem L2 SM SR SD SE
section
variable {P : Program} {w : World} {K : PySem.W.Frag} {a : Ad}
theorem sqF_upd {H : Hp} {r scr : Addr} {ns : List Int} {xs : List V} {o : HO} (h1 : H r = some (.lst xs)) (h2 : SqF K H scr (ns.map V.int)) : SqF K (upd H r o) scr (ns.map V.int) := h2.keep fun u z => by
  rw [upd_ne fun y => by rw [y, h1] at z; cases z]
  exact z
theorem rowAt_upd {H : Hp} {r scr : Addr} {ns : List Int} {p s c : Int} {xs : List V} (h1 : H r = some (.lst xs)) (h2 : SqF K H scr (ns.map V.int)) (hp : 0 ≤ p) (hs : 0 ≤ s) (hs2 : s < 2147483647) : RowAt K (upd H r (.lst [.ref scr, .int p, .int s, .int c])) r scr :=
  ⟨ns, p, s, c, upd_same, sqF_upd h1 h2, hp, hs, hs2⟩
theorem ix_row {H : Hp} {r : Addr} {xs : List V} {k : Int} {v : V} {Q : VK} (h : H r = some (.lst xs)) (e : L2.atI xs k = some v) (q : Q v H) : rIxU P w K (.ref r) (.int k) H Q := .inl (.inl ⟨r, xs, k, v, rfl, rfl, SqL.of h, e, q⟩)
theorem ix_sq {H : Hp} {r : Addr} {xs : List V} {k : Int} {v : V} {Q : VK} (h : SqL K H r xs) (e : L2.atI xs k = some v) (q : Q v H) : rIxU P w K (.ref r) (.int k) H Q := .inl (.inl ⟨r, xs, k, v, rfl, rfl, h, e, q⟩)
theorem pure_law_taken (vs : List V) (H : Hp) (Q : VK) (E : XK) (h : sp_law_taken P w K a vs H Q E) : t_law_taken P w K a E { nx := fun _ H' => Q .non H', rt := Q } (L2.start n_law_taken vs) H := by
  obtain ⟨r, scr, n, rfl, n1, n2, ⟨ns, p, s, c, h1, h2, hp, hs, hs2⟩, q⟩ := h
  have hd : 0 < n := by omega
  have st : ∀ {G : Hp} {o : HO} {x y : V} {k : Int} {xs : List V} {i : Nat} {R : Hp → Prop}, G r = some (.lst xs) → True := fun _ => trivial
  refine ⟨_, rfl, ix_row h1 rfl ⟨c, 0, rfl, rfl, _, rfl, ?_⟩⟩
  by_cases hc : 0 < c
  · show if decide (0 < c) = true then _ else _
    rw [if_pos (decide_eq_true hc)]
    refine ⟨_, rfl, ix_row h1 rfl ⟨_, rfl, c, n, rfl, rfl, hd, ?_⟩⟩
    refine ⟨_, rfl, ix_row h1 rfl ⟨_, rfl, c, n, rfl, rfl, ⟨hd, by omega⟩, ?_⟩⟩
    refine ⟨_, rfl, .inl ⟨r, _, 3, 3, rfl, rfl, h1, rfl, ?_⟩⟩
    refine ⟨_, rfl, q _ _ (Int.emod_nonneg _ (by omega)) (Int.emod_lt_of_pos _ hd) (But.upd (by simp)) (rowAt_upd h1 h2 hp hs hs2)⟩
  · show if decide (0 < c) = true then _ else _
    rw [if_neg (by simpa using hc)]
    refine ⟨_, rfl, ix_row h1 rfl (.inl ⟨p, 1, rfl, rfl, _, rfl, .inl ⟨r, _, 1, 1, rfl, rfl, h1, rfl, ?_⟩⟩)⟩
    have b1 : But [r] H (upd H r (.lst [.ref scr, .int (p + 1), .int s, .int c])) := But.upd (by simp)
    have g1 : upd H r (.lst [.ref scr, .int (p + 1), .int s, .int c]) r = some (.lst [.ref scr, .int (p + 1), .int s, .int c]) := upd_same
    have g2 : SqF K (upd H r (.lst [.ref scr, .int (p + 1), .int s, .int c])) scr (ns.map V.int) := sqF_upd h1 h2
    show tSeq _ _ _ _ (upd H r (.lst [.ref scr, .int (p + 1), .int s, .int c]))
    generalize upd H r (.lst [.ref scr, .int (p + 1), .int s, .int c]) = H1 at b1 g1 g2
    have hlen : LenV K (.ref scr) H1 (ns.map V.int).length := .inl ⟨_, g2.l, rfl⟩
    have cm : CMul s 48271 := .inr (by decide)
    have hm : (0 : Int) < 2147483647 := by decide
    refine ⟨_, rfl, ix_row g1 rfl ⟨_, rfl, ix_row g1 rfl ⟨_, _, rfl, hlen, p + 1, _, rfl, rfl, _, rfl, ?_⟩⟩⟩
    by_cases hl : ((ns.map V.int).length : Int) < p + 1
    · show if decide _ = true then _ else _
      rw [if_pos (decide_eq_true hl)]
      refine ⟨_, rfl, ix_row g1 rfl (.inl ⟨s, 48271, rfl, rfl, cm, .inl ⟨_, 11, rfl, rfl, _, 2147483647, rfl, rfl, hm, _, rfl, .inl ⟨r, _, 2, 2, rfl, rfl, g1, rfl, ?_⟩⟩⟩)⟩
      refine ⟨_, rfl, ix_row upd_same rfl ⟨_, 7, rfl, rfl, ⟨by decide, by decide⟩, _, rfl, _, n, rfl, rfl, hd, q _ _ (Int.emod_nonneg _ (by omega)) (Int.emod_lt_of_pos _ hd) (b1.trans (But.upd (by simp))) (rowAt_upd g1 g2 (by omega) (Int.emod_nonneg _ (by decide)) (Int.emod_lt_of_pos _ (by decide)))⟩⟩
    · show if decide _ = true then _ else _
      rw [if_neg (by simpa using hl)]
      rw [List.length_map] at hl
      have hpl : p.toNat < ns.length := by omega
      have hat : L2.atI (ns.map V.int) (p + 1 - 1) = some (.int ns[p.toNat]) := by
        have e : p + 1 - 1 = (p.toNat : Nat) := by omega
        rw [e]
        unfold L2.atI ixN
        rw [if_pos (by omega), if_pos (by rw [List.length_map]; omega)]
        show (ns.map V.int)[((p.toNat : Nat) : Int).toNat]? = _
        rw [Int.toNat_natCast]
        simp [hpl]
      refine ⟨_, rfl, ix_row g1 rfl ⟨_, rfl, ix_row g1 rfl ⟨p + 1, 1, rfl, rfl, ix_sq g2.l hat ?_⟩⟩⟩
      generalize ns[p.toNat] = cell
      refine ⟨_, rfl, ix_row g1 rfl (.inl ⟨s, 48271, rfl, rfl, cm, _, rfl, .inl ⟨_, cell, rfl, rfl, .inl ⟨_, 11, rfl, rfl, _, 2147483647, rfl, rfl, hm, _, rfl, .inl ⟨r, _, 2, 2, rfl, rfl, g1, rfl, ?_⟩⟩⟩⟩)⟩
      have b2 : But [r] H1 (upd H1 r (.lst [.ref scr, .int (p + 1), .int ((s * 48271 + cell + 11) % 2147483647), .int c])) := But.upd (by simp)
      have k1 : upd H1 r (.lst [.ref scr, .int (p + 1), .int ((s * 48271 + cell + 11) % 2147483647), .int c]) r = some (.lst [.ref scr, .int (p + 1), .int ((s * 48271 + cell + 11) % 2147483647), .int c]) := upd_same
      have k2 : SqF K (upd H1 r (.lst [.ref scr, .int (p + 1), .int ((s * 48271 + cell + 11) % 2147483647), .int c])) scr (ns.map V.int) := sqF_upd g1 g2
      show tSeq _ _ _ _ (upd H1 r (.lst [.ref scr, .int (p + 1), .int ((s * 48271 + cell + 11) % 2147483647), .int c]))
      generalize upd H1 r (.lst [.ref scr, .int (p + 1), .int ((s * 48271 + cell + 11) % 2147483647), .int c]) = H2 at b2 k1 k2
      have hs3 : 0 ≤ (s * 48271 + cell + 11) % 2147483647 := Int.emod_nonneg _ (by decide)
      have hs4 : (s * 48271 + cell + 11) % 2147483647 < 2147483647 := Int.emod_lt_of_pos _ (by decide)
      generalize (s * 48271 + cell + 11) % 2147483647 = s2 at k1 hs3 hs4
      refine ⟨_, rfl, 10, 18, rfl, rfl, ⟨by decide, by decide, by decide⟩, cell, _, rfl, rfl, _, rfl, ?_⟩
      by_cases hb : (10 : Int) ^ (18 : Int).toNat ≤ cell
      · show if decide _ = true then _ else _
        rw [if_pos (decide_eq_true hb)]
        refine ⟨_, rfl, _, rfl, cell, n, rfl, rfl, ⟨hd, by omega⟩, _, rfl, .inl ⟨r, _, 3, 3, rfl, rfl, k1, rfl, ?_⟩⟩
        exact ⟨_, rfl, _, rfl, cell, n, rfl, rfl, hd, q _ _ (Int.emod_nonneg _ (by omega)) (Int.emod_lt_of_pos _ hd) ((b1.trans b2).trans (But.upd (by simp))) (rowAt_upd k1 k2 (by omega) hs3 hs4)⟩
      · show if decide _ = true then _ else _
        rw [if_neg (by simpa using hb)]
        exact ⟨_, rfl, _, rfl, cell, n, rfl, rfl, hd, q _ _ (Int.emod_nonneg _ (by omega)) (Int.emod_lt_of_pos _ hd) (b1.trans b2) ⟨ns, p + 1, s2, c, k1, k2, by omega, hs3, hs4⟩⟩
/-! ### alike -/
theorem plain_shd : ∀ {n : Nat} {d : D}, plainD n d = true → Shd n d
  | 0, _, h => by cases h
  | n + 1, .tuple ds, h => by
    simp only [plainD, Bool.and_eq_true, List.all_eq_true] at h
    exact shd_tup fun d hd => plain_shd (h.2 d hd)
  | n + 1, .list ds, h => by
    simp only [plainD, Bool.and_eq_true, List.all_eq_true] at h
    exact shd_lst fun d hd => plain_shd (h.2 d hd)
  | n + 1, .str x, h => by
    simp only [plainD, Bool.and_eq_true] at h
    exact ⟨h.2, by simp [PyData.depth]⟩
  | n + 1, .none, _ => shd_non
  | n + 1, .bool _, _ => shd_bl
  | n + 1, .int _, _ => shd_int
theorem eqv_refl {d : D} (h : PyData.canLay0 d = true) : PyData.eqv d d = true := SeqAt.eqv_refl d h
open Classical in
theorem f_alike_of {n : Nat} {x : D} (h : plainD n x = true) : f_alike n [x, x] = some (.ok (.bool true)) := by
  show (if x = x ∧ plainD n x = true then some (Rs.ok (.bool true)) else none) = _
  rw [if_pos ⟨rfl, h⟩]
section
variable {X : Wd} {Φ : Iv} {E : XK} {Γ : Gm} {n : Nat}
theorem seq_alike {N : Gm → Prop} {R : D → Prop} {ds : List D} {d : D} {mk : TE} (hd : d = .tuple ds ∨ d = .list ds) (h : plainD (n + 1) d = true) (hR : R (.bool true)) :
    SW X Φ (tSeq (tIfS (tOr (tTest (tOp (rNeD K) (tCB (rIsU K) (tCons (tVar 0) (tCons (tC (.ty "tuple")) tNil))) (tCB (rIsU K) (tCons (tVar 1) (tCons (tC (.ty "tuple")) tNil))))) (tNot (tB (tCB (rIsU K) (tCons (tVar 0) (tCons (tTupB (tCons (tC (.ty "tuple")) (tCons (tC (.ty "list")) tNil))) tNil)))))) (tRet (tC (.bl false))) tNext) (tSeq (tIfS (tTest (tOp (rNeD K) (tCB (rLenU K) (tCons (tVar 0) tNil)) (tCB (rLenU K) (tCons (tVar 1) tNil)))) (tRet (tC (.bl false))) tNext) (tRet (tOp (rEqD K) (tLc (iRng1 (tCons (tCB (rLenU K) (tCons (tVar 1) tNil)) tNil)) (gName 2) (tNot (tB (tCall (sp_alikeN n) [] E0 (tCons (tOp (rIxU P w K) (tVar 0) (tVar 2)) (tCons (tOp (rIxU P w K) (tVar 1) (tVar 2)) tNil))))) (tVar 2) [2]) (tLst tNil))))) [Sl.dat d, Sl.dat d, Sl.no] N R := by
  have hlen : ds.length ≤ 10000 ∧ ∀ x ∈ ds, plainD n x = true := by
    rcases hd with rfl | rfl <;> · simp only [plainD, Bool.and_eq_true, List.all_eq_true, decide_eq_true_eq] at h; exact h
  have hl : Ev X Φ (tCB (rLenU K) (tCons (tVar 1) tNil)) [Sl.dat d, Sl.dat d, Sl.no] (.int ds.length) := by
    rcases hd with rfl | rfl
    · exact ev_cb (ea_cons (ev_var rfl) ea_nil) cb_lenT
    · exact ev_cb (ea_cons (ev_var rfl) ea_nil) cb_lenL
  have hl0 : Ev X Φ (tCB (rLenU K) (tCons (tVar 0) tNil)) [Sl.dat d, Sl.dat d, Sl.no] (.int ds.length) := by
    rcases hd with rfl | rfl
    · exact ev_cb (ea_cons (ev_var rfl) ea_nil) cb_lenT
    · exact ev_cb (ea_cons (ev_var rfl) ea_nil) cb_lenL
  refine sw_then (sw_if (b := false) (et_eq (et_or (et_test (ev_op (ev_isi (ev_var rfl)) (ev_isi (ev_var rfl)) (od_ne (by rfl) (by rfl)))) fun _ => et_not (et_B (ev_isi2 (ev_var rfl)))) ?_) nofun fun _ => sw_next rfl) ?_
  · rcases hd with rfl | rfl <;> simp [isTy, tyD, PyData.eqv]
  refine sw_then (sw_if (b := false) (et_eq (et_test (ev_op hl0 hl (od_ne (by rfl) (by rfl)))) ?_) nofun fun _ => sw_next rfl) ?_
  · rw [eqv_int]
    simp
  refine sw_ret (ev_eq (ev_op (ev_eq (e := .list []) (ev_lc (xs := List.range ds.length) (enc := dInt) (fun _ => false) (fun _ => .none) (ei_eq (ei_range1 (ea_cons hl ea_nil) (by omega) (by omega)) (by simp [rgD])) (by simp; omega) fun k hk => ⟨_, tgw_name, ?_, nofun⟩) ?_) (ev_lst ea_nil (by simp)) (od_eq (by rfl) (by rfl))) ?_) hR
  · have hk : k < ds.length := by simpa using hk
    have hat : L2.atI ds ((k : Nat) : Int) = some ds[k] := by
      rw [atI_nat rfl hk]
      simp [hk]
    refine et_eq (et_not (et_B (ev_callP (f := f_alike n) (ea_cons (ev_op (ev_var rfl) (ev_var rfl) ?_) (ea_cons (ev_op (ev_var rfl) (ev_var rfl) ?_) ea_nil)) (f_alike_of (hlen.2 ds[k] (List.getElem_mem hk)))))) rfl
    · rcases hd with rfl | rfl
      · exact od_ixT hat
      · exact od_ixL hat
    · rcases hd with rfl | rfl
      · exact od_ixT hat
      · exact od_ixL hat
  · rw [List.filter_eq_nil_iff.mpr (by simp)]
    rfl
  · simp [PyData.eqv, PyData.eqvAll]
end
open Classical in
theorem pure_law_alike {n : Nat} (vs : List V) (H : Hp) (Q : VK) (E : XK) (h : sp_alikeN (n + 1) vs H Q E) : t_law_alike P w K a (sp_alikeN n) E { nx := fun _ H' => Q .non H', rt := Q } (L2.start n_law_alike vs) H := by
  obtain ⟨M, ds, lv, r, hr⟩ := h
  match ds, r, hr with
  | [x, y], r, hr =>
    by_cases hc : x = y ∧ plainD (n + 1) x = true
    · obtain ⟨rfl, hpl⟩ := hc
      have hfa := f_alike_of hpl
      refine sw_fin lv At0.nil (env_start At0.nil r (by simp)) ?_ hr
      rw [hfa]
      have hsh := plain_shd hpl
      by_cases hseq : ∃ ds, x = .tuple ds ∨ x = .list ds
      · obtain ⟨ds, hd⟩ := hseq
        refine sw_seq (N1 := fun _ => False) (sw_if (b := true) (et_eq (et_or (b := true) (et_B (ev_isi (ev_var rfl))) fun z => et_eq (et_B (ev_isi (ev_var rfl))) ?_) (by simp)) (fun _ => seq_alike (mk := tC .non) hd hpl rfl) nofun) fun _ z => z.elim
        rcases hd with rfl | rfl
        · simp [isTy, tyD] at z
        · rfl
      · refine sw_then (sw_if (b := false) (et_eq (et_or (et_B (ev_isi (ev_var rfl))) fun _ => et_B (ev_isi (ev_var rfl))) ?_) nofun fun _ => sw_next rfl) ?_
        · cases x <;> simp_all [isTy, tyD]
        cases x with
        | none => exact sw_seq (N1 := fun _ => False) (sw_if (b := true) (et_eq (et_or (b := true) (et_test (ev_op (ev_var rfl) ev_non od_isN)) nofun) rfl) (fun _ => sw_ret (ev_andV (ev_op (ev_var rfl) ev_non od_isN) fun _ => ev_op (ev_var rfl) ev_non od_isN) rfl) nofun) fun _ z => z.elim
        | bool b =>
          refine sw_then (sw_if (b := false) (et_eq (et_or (et_test (ev_op (ev_var rfl) ev_non od_isN)) fun _ => et_test (ev_op (ev_var rfl) ev_non od_isN)) rfl) nofun fun _ => sw_next rfl) ?_
          refine sw_seq (N1 := fun _ => False) (sw_if (b := true) (et_eq (et_or (b := true) (et_B (ev_isi (ev_var rfl))) nofun) rfl) (fun _ => sw_ret (ev_eq (ev_andV (ev_isi (ev_var rfl)) fun _ => ev_andV (ev_isi (ev_var rfl)) fun _ => ev_op (ev_var rfl) (ev_var rfl) (od_eq (by rfl) (by rfl))) ?_) rfl) nofun) fun _ z => z.elim
          rw [eqv_refl hsh.1]
          rfl
        | int i =>
          refine sw_then (sw_if (b := false) (et_eq (et_or (et_test (ev_op (ev_var rfl) ev_non od_isN)) fun _ => et_test (ev_op (ev_var rfl) ev_non od_isN)) rfl) nofun fun _ => sw_next rfl) ?_
          refine sw_then (sw_if (b := false) (et_eq (et_or (et_B (ev_isi (ev_var rfl))) fun _ => et_B (ev_isi (ev_var rfl))) rfl) nofun fun _ => sw_next rfl) ?_
          refine sw_then (sw_if (b := false) (et_eq (et_B (ev_isi (ev_var rfl))) rfl) nofun fun _ => sw_next rfl) ?_
          refine sw_ret (ev_eq (ev_andV (ev_isi (ev_var rfl)) fun _ => ev_op (ev_var rfl) (ev_var rfl) (od_eq (by rfl) (by rfl))) ?_) rfl
          rw [eqv_refl hsh.1]
          rfl
        | str z =>
          have hz : SeqAt.shaped (.str z) = true := Shd.ok (k := 0) ⟨hsh.1, by simp [PyData.depth]⟩
          refine sw_then (sw_if (b := false) (et_eq (et_or (et_test (ev_op (ev_var rfl) ev_non od_isN)) fun _ => et_test (ev_op (ev_var rfl) ev_non od_isN)) rfl) nofun fun _ => sw_next rfl) ?_
          refine sw_then (sw_if (b := false) (et_eq (et_or (et_B (ev_isi (ev_var rfl))) fun _ => et_B (ev_isi (ev_var rfl))) rfl) nofun fun _ => sw_next rfl) ?_
          refine sw_seq (N1 := fun _ => False) (sw_if (b := true) (et_eq (et_B (ev_isi (ev_var rfl))) rfl) (fun _ => sw_ret (ev_eq (ev_andV (ev_isi (ev_var rfl)) fun _ => ev_op (ev_var rfl) (ev_var rfl) (od_eq hz hz)) ?_) rfl) nofun) fun _ z => z.elim
          rw [eqv_refl hsh.1]
          rfl
        | tuple ds => exact absurd ⟨ds, .inl rfl⟩ hseq
        | list ds => exact absurd ⟨ds, .inr rfl⟩ hseq
        | dict ds => simp [plainD] at hpl
    · exfalso
      have : f_alike (n + 1) [x, y] = none := by
        show (if x = y ∧ plainD (n + 1) x = true then some (Rs.ok (.bool true)) else none) = _
        rw [if_neg hc]
      rw [this] at hr
      exact hr
end
end Sp

set_option Elab.async false
set_option linter.all false
set_option maxRecDepth 100000
set_option maxHeartbeats 4000000
/-! Drawing in expressions; shapes, rows. -/
namespace SE
open PySem L2 SM SR SD Sp
section
variable {X : Wd} {Φ Φ2 : Iv} {H H1 H2 H3 : Hp} {L L' : Lo} {σ : L2.St} {Γ Γ' : Gm} {v : V} {d e : D} {i j : Nat} {ta tb te tr tn : TE} {tt tu : TT} {S : D → Iv → Prop} {N : Gm → Iv → Prop} {R : Ro → Iv → Prop} {r scr : Addr} {E : XK} {P : Program} {w : World} {K : PySem.W.Frag} {a : Ad}
/-- Φ holds the row, and lets it be drawn from -/
structure RowOf (K : PySem.W.Frag) (X : Wd) (Φ : Iv) (r scr : Addr) : Prop where
  ir : r ∈ Φ.fp
  at_ : ∀ N G, Φ.p N G → RowAt K G r scr
  chg : ∀ N G G', r ∈ N → Φ.p N G → But [r] G G' → RowAt K G' r scr → Φ.p N G'
  ok : r ∈ X.A ∨ X.H0 r = none
theorem same_r {N : Ads} (m : r ∈ N) (b : But [r] H H2) : SameS (hid N H) (hid N H2) := fun a o h z => by
  obtain ⟨n, h⟩ := hid_some h
  exact (hid_out n).trans (b.keep a o (fun y => n (by rw [show a = r by simpa using y]; exact m)) h)
theorem Cur.row (ro : RowOf K X Φ r scr) (c : Cur X Φ L H) (b : But [r] H H2) (ra : RowAt K H2 r scr) : Cur X Φ L H2 ∧ SameS (hd X Φ L H) (hd X Φ L H2) ∧ Kp L H H2 := by
  have mr : r ∈ hdn X Φ L := Or.inr (Or.inr ro.ir)
  refine ⟨⟨?_, b.lv c.lv, c.new, c.om, c.nd, c.dj, ro.chg _ _ _ mr c.at_ b ra, fun p hp => (c.ls p hp).imp fun _ z => b.keep _ _ (fun y => c.dj p hp (by rw [show p.2 = r by simpa using y]; exact ro.ir)) z⟩, same_r mr b, fun p hp => ?_⟩
  · refine ⟨fun x o n h => b.keep x o (fun y => ?_) (c.but.keep x o n h), fun x h => b.live x (c.but.live x h)⟩
    have hx : x = r := by simpa using y
    subst hx
    rcases ro.ok with z | z
    · exact n z
    · rw [z] at h
      cases h
  · have hne : p.2 ∉ [r] := fun y => c.dj p hp (by rw [show p.2 = r by simpa using y]; exact ro.ir)
    cases q : H p.2 with
    | none => exact absurd q (c.lv _ (Or.inl (List.mem_map.mpr ⟨p, hp, rfl⟩)))
    | some o => exact b.keep _ _ hne q
theorem eg_taken {n : Int} (ro : RowOf K X Φ r scr) (hv : EvV X Φ tr Γ (.ref r)) (hn : Ev X Φ tn Γ (.int n)) (h1 : 1 ≤ n) (h2 : n < 1000000000) (s : ∀ k : Int, 0 ≤ k → k < n → S (.int k) Φ) : Eg X Φ (tCall (sp_law_taken P w K a) [] E (tCons tr (tCons tn tNil))) Γ S := fun L H σ c g Q q =>
  hv L H σ c g _ fun H1 e1 => hn L H1 σ (c.up e1) (g.up e1) _ fun v H2 e2 rv => by
    have c2 := c.up (e1.trans e2)
    cases rv
    refine ⟨r, scr, n, rfl, h1, h2, ro.at_ _ _ c2.at_, fun k H' k1 k2 b ra => ?_⟩
    obtain ⟨c3, s3, k3⟩ := Cur.row ro c2 b ra
    exact q _ H' _ Φ c3 ((Same.s (Same.hid (e1.trans e2))).trans s3) ((Kp.same c (e1.trans e2)).trans k3) (s k k1 k2) (.int k)
theorem eg_row {f : List D → D → Prop} {ta : TA} {ds : List D} (ro : RowOf K X Φ r scr) (hv : EvV X Φ tr Γ (.ref r)) (ha : EvA X Φ ta Γ ds) (hx : ∃ d, f ds d) (s : ∀ d, f ds d → S d Φ) : Eg X Φ (tCall (SpRow K f) [] E (tCons tr ta)) Γ S := fun L H σ c g Q q =>
  hv L H σ c g _ fun H1 e1 => ha L H1 σ (c.up e1) (g.up e1) _ fun vs H2 e2 rv => by
    have c2 := c.up (e1.trans e2)
    show SpRow K f ((V.ref r :: vs) ++ []) H2 Q E
    rw [List.append_nil]
    refine ⟨hdn X Φ L, r, scr, vs, ds, rfl, c2.lv, Or.inr (Or.inr ro.ir), ro.at_ _ _ c2.at_, rv, hx, fun v d H' fd b ra rd => ?_⟩
    obtain ⟨c3, s3, k3⟩ := Cur.row ro c2 b ra
    exact q v H' d Φ c3 ((Same.s (Same.hid (e1.trans e2))).trans s3) ((Kp.same c (e1.trans e2)).trans k3) (s d fd) rd
theorem rowOf_one {A : List Addr} {M : Ads} (h : r ∈ A) : RowOf K ⟨A, M, H⟩ (ivRow K r scr) r scr := ⟨by simp [ivRow], fun N G p => p, fun N G G' _ _ _ ra => ra, .inl h⟩
/-- from the walk to the reading, a def that draws -/
theorem fw_finRow {t : TS} {Ns : List Str} {vs : List V} {ds : List D} {f : List D → D → Prop} {Q : VK} (h : SpRow K f vs H Q E) (hs : ∀ (M : Ads) (r scr : Addr) (us : List V) ds, vs = .ref r :: us → Dts (hid M H) us ds → (∃ d, f ds d) → At0 (ivRow K r scr) M H → RowOf K ⟨[r], M, H⟩ (ivRow K r scr) r scr →
    ∃ Γ, EnvD ⟨[r], M, H⟩ (ivRow K r scr) [] H (L2.start Ns vs) Γ ∧ FW ⟨[r], M, H⟩ t Γ (ivRow K r scr) (fun _ _ => False) (fun ro Φ' => Φ' = ivRow K r scr ∧ ∃ d, ro = .dat d ∧ f ds d)) :
    t { nx := fun _ H' => Q .non H', rt := Q } (L2.start Ns vs) H := by
  obtain ⟨M, r, scr, us, ds, e, lv, mr, ra, rv, hx, q⟩ := h
  have h0 : At0 (ivRow K r scr) M H := by
    refine ⟨fun b hb => ?_, fun b o h z => ?_, ra⟩
    · obtain ⟨ns, p, s, c, a1, a2, _⟩ := ra
      have hb : b = r := by simpa [ivRow] using hb
      rw [hb, a1]
      nofun
    · obtain ⟨m, h⟩ := hid_some h
      refine (hid_out ?_).trans h
      rintro (y | y)
      · exact m y
      · have hb : b = r := by simpa [ivRow] using y
        exact m (by rw [hb]; exact mr)
  obtain ⟨Γ, g, hf⟩ := hs M r scr us ds e rv hx h0 (rowOf_one (by simp))
  refine hf [] H _ _ (h0.cur lv) g (fun _ _ _ _ _ _ _ _ z => z.elim) fun v ro H' Φ' b hp rd ed => ?_
  obtain ⟨rfl, d, rfl, fd⟩ := ed
  exact q v d H' fd b hp (Dt.mono (Same.s (hid_sub fun a ha => Or.inl ha)) rd)
theorem fg_par2 {t1 t2 : TE} (h : Eg X Φ t1 Γ fun d1 Φ1 => Eg X Φ1 t2 Γ fun d2 Φ2 => N ((Γ.set i (.dat d1)).set j (.dat d2)) Φ2) : FW X (tPar i j (tCons t1 (tCons t2 tNil))) Γ Φ N R := fun L H σ D c g k r =>
  h L H σ c g _ fun v1 H2 d1 Φ2 c2 s2 k2 x2 r2 => x2 L H2 σ c2 (g.kp s2 k2) _ fun v2 H3 d2 Φ3 c3 s3 k3 x3 r3 =>
    ⟨_, _, rfl, k L H3 _ _ Φ3 c3 (s2.trans s3) ((((g.kp s2 k2).kp s3 k3).dat (i := i) (r2.mono s3)).dat (i := j) r3) x3⟩
end
end SE
namespace Sp
open PySem L2 SM SR SD SE
def shapeD (room fill spare : Nat) : D := .tuple [dInt room, dInt fill, dInt spare]
end Sp

set_option Elab.async false
set_option linter.all false
set_option maxRecDepth 100000
set_option maxHeartbeats 4000000
/-! Readings, printed by gen.py. -/
namespace Sp
open PySem L2 SM SR SD SE
end Sp

set_option Elab.async false
set_option linter.all false
set_option maxRecDepth 100000
set_option maxHeartbeats 4000000
/-! _law_shape, _law_rows. -/
namespace Sp
open PySem L2 SM SR SD SE
section
variable {P : Program} {w : World} {K : PySem.W.Frag} {a : Ad}
end
end Sp

set_option Elab.async false
set_option linter.all false
set_option maxRecDepth 100000
set_option maxHeartbeats 4000000
/-! New trees; the laws' own file. -/
namespace SE
open PySem L2 SM SR SD Sp
section
variable {X : Wd} {Φ Φ2 : Iv} {H H1 H2 H3 : Hp} {L L' : Lo} {σ : L2.St} {Γ Γ' : Gm} {v : V} {d e : D} {i j : Nat} {ta tb te tr tn : TE} {tt tu : TT} {N : Gm → Iv → Prop} {R : Ro → Iv → Prop} {E : XK}
/-- a worth whose lists are all new -/
def EvF (X : Wd) (Φ : Iv) (te : TE) (Γ : Gm) (d : D) : Prop := ∀ L H σ, Cur X Φ L H → EnvD X Φ L H σ Γ → ∀ Q : VK, (∀ v A H2, Same H H2 → A.Nodup → (∀ l ∈ A, H l = none) → Dt (tgv A (hdn X Φ L) H2) v d → Q v H2) → te σ H Q
def EvFA (X : Wd) (Φ : Iv) (ta : TA) (Γ : Gm) (ds : List D) : Prop := ∀ L H σ, Cur X Φ L H → EnvD X Φ L H σ Γ → ∀ Q : List V → Hp → Prop, (∀ vs A H2, Same H H2 → A.Nodup → (∀ l ∈ A, H l = none ∧ H2 l ≠ none) → Dts (tgv A (hdn X Φ L) H2) vs ds → Q vs H2) → ta σ H Q
theorem tgv_tup {A : List Addr} {M N : Ads} (s : ∀ a ∈ N, a ∈ M) : ∀ a xs b, TupAt (hid M H) a xs b → TupAt (tgv A N H) a xs b := fun a xs b h => h.map fun o n _ h => by
  obtain ⟨m, h⟩ := hid_some h
  unfold tgv
  by_cases q : a ∈ A
  · rw [if_pos q]
    exact h
  · rw [if_neg q, if_neg fun z => m (s a z), h]
    cases o <;> first | rfl | exact absurd rfl (n _)
theorem tgv_sub {A B : List Addr} {N : Ads} (s : ∀ a ∈ A, a ∈ B) : SameS (tgv A N H) (tgv B N H) := fun a o h z => by
  unfold tgv at *
  by_cases q : a ∈ B
  · rw [if_pos q]
    by_cases m : a ∈ A
    · rw [if_pos m] at h
      exact h
    · rw [if_neg m] at h
      by_cases n : a ∈ N
      · rw [if_pos n] at h
        cases h
      · rw [if_neg n] at h
        cases q : H a with
        | none =>
          rw [q] at h
          cases h
        | some u =>
          rw [q] at h
          cases u <;> first | exact h | cases h
  · rw [if_neg fun m => q (s a m)] at h
    rw [if_neg q]
    exact h
theorem dts_nol {A : List Addr} {M N : Ads} {vs : List V} {ds : List D} (s : ∀ a ∈ N, a ∈ M) (r : Dts (hid M H) vs ds) (h : ∀ d ∈ ds, noL d = true) : Dts (tgv A N H) vs ds := by
  induction r with
  | nil => exact .nil
  | cons r t ih => exact .cons (r.nol (tgv_tup s) (h _ List.mem_cons_self)) (ih fun d hd => h d (List.mem_cons_of_mem _ hd))
theorem efa_nil : EvFA X Φ tNil Γ [] := fun L H σ c g Q q => q [] [] H (Same.refl H) List.nodup_nil nofun .nil
theorem efa_cons {tr : TA} {ds : List D} (h : EvF X Φ te Γ d) (hr : EvFA X Φ tr Γ ds) : EvFA X Φ (tCons te tr) Γ (d :: ds) := fun L H σ c g Q q =>
  h L H σ c g _ fun v A H1 e1 nd1 hA1 r1 => hr L H1 σ (c.up e1) (g.up e1) _ fun vs B H2 e2 nd2 hB r2 => by
    have lv : ∀ l ∈ A.filter (fun l => (H1 l).isSome), H1 l ≠ none := fun l hl z => by
      have := (List.mem_filter.mp hl).2
      rw [z] at this
      cases this
    refine q (v :: vs) (A.filter (fun l => (H1 l).isSome) ++ B) H2 (e1.trans e2) ?_ (fun l hl => ?_) (.cons ?_ (Dts.mono (tgv_sub fun a m => List.mem_append_right _ m) r2))
    · refine List.nodup_append.mpr ⟨nd1.sublist List.filter_sublist, nd2, fun x hx y hy z => ?_⟩
      subst z
      exact lv x hx (hB x hy).1
    · rcases List.mem_append.mp hl with hl | hl
      · refine ⟨hA1 l (List.mem_filter.mp hl).1, ?_⟩
        cases q : H1 l with
        | none => exact absurd q (lv l hl)
        | some o =>
          rw [e2 l o q]
          nofun
      · exact ⟨e1.free (hB l hl).1, (hB l hl).2⟩
    · have s1 : SameS (tgv A (hdn X Φ L) H1) (tgv (A.filter fun l => (H1 l).isSome) (hdn X Φ L) H1) := fun a o h z => by
        unfold tgv at *
        by_cases m : a ∈ A
        · rw [if_pos m] at h
          rw [if_pos (List.mem_filter.mpr ⟨m, by rw [h]; rfl⟩)]
          exact h
        · rw [if_neg m] at h
          rw [if_neg fun y => m (List.mem_filter.mp y).1]
          exact h
      exact ((r1.mono s1).mono (tgv_mono (fun l _ o h => e2 l o h) (Same.s (Same.hid e2)))).mono (tgv_sub fun a m => List.mem_append_left _ m)
theorem ef_tup {ta : TA} {ds : List D} (h : EvFA X Φ ta Γ ds) (hl : ds.length ≤ 100000) : EvF X Φ (tTupB ta) Γ (.tuple ds) := fun L H σ c g Q q =>
  h L H σ c g _ fun vs A H1 e1 nd hA r1 => ⟨by rw [Dts.len r1]; exact Nat.le_trans hl (by decide), newT_of (c.up e1).lv (rowsy ds) fun p o hp hs hn ht => by
    have cc := (c.up e1).lv
    have hp2 : p ∉ A := fun z => (hA p z).2 hp
    refine q _ A _ (e1.trans (new_same hp)) nd (fun l hl => (hA l hl).1) (.tup (tgv_tup (fun _ z => z) _ _ _ ht) (Dts.mono (tgv_mono (fun l _ o h => new_same hp l o h) (Same.s (Same.hid (new_same hp)))) r1))⟩
theorem ef_lc {α : Type} {wi : TI} {gt : TG} {vs : List Nat} {xs : List α} {enc : α → D} (p : α → Bool) (f : α → D) (hi : EvI X Φ wi Γ (xs.map enc)) (hz : xs.length < 100000)
    (hs : ∀ x ∈ xs, ∃ Γ2, TgW X Φ gt vs (enc x) (wipeG Γ vs) Γ2 ∧ EvT X Φ tt Γ2 (p x) ∧ (p x = true → Ev X Φ te Γ2 (f x))) (hn : ∀ x ∈ xs, noL (f x) = true) : EvF X Φ (tLc wi gt tt te vs) Γ (.list ((xs.filter p).map f)) := fun L H σ c gg Q q =>
  ev_lc0 p f (eis_of hi) hz hs L H σ c gg Q fun D us H1 e n nD h r => q _ [D] H1 e (by simp) (fun l hl => by rw [List.mem_singleton.mp hl]; exact n) (.lst (by unfold tgv; rw [if_pos (List.mem_singleton.mpr rfl)]; exact h) (dts_nol (fun a ha => mem_cons_hdn.mpr (.inr ha)) r fun d hd => by
    obtain ⟨x, hx, rfl⟩ := List.mem_map.mp hd
    exact hn x (List.mem_filter.mp hx).1))
theorem ef_lcm {α : Type} {wi : TI} {gt : TG} {vs : List Nat} {xs : List α} {enc : α → D} (f : α → D) (hi : EvI X Φ wi Γ (xs.map enc)) (hz : xs.length < 100000)
    (hs : ∀ x ∈ xs, ∃ Γ2, TgW X Φ gt vs (enc x) (wipeG Γ vs) Γ2 ∧ Ev X Φ te Γ2 (f x)) (hn : ∀ x ∈ xs, noL (f x) = true) : EvF X Φ (tLc wi gt tYes te vs) Γ (.list (xs.map f)) := by
  have h := ef_lc (tt := tYes) (p := fun _ => true) f hi hz (fun x hx => by
    obtain ⟨Γ2, h1, h2⟩ := hs x hx
    exact ⟨Γ2, h1, et_yes, fun _ => h2⟩) hn
  rwa [List.filter_eq_self.mpr fun _ _ => rfl] at h
theorem ef_eq (h : EvF X Φ te Γ d) (e' : d = e) : EvF X Φ te Γ e := e' ▸ h
theorem fw_retF (h : EvF X Φ te Γ d) (hr : R (.fr X.H0 d) Φ) : FW X (tRet te) Γ Φ N R := fun L H σ D c g k r =>
  h L H σ c g _ fun v A H1 e1 nd hA rd => r v (.fr X.H0 d) H1 Φ (c.up e1).but (c.up e1).end_ ⟨A, nd, fun l hl => c.but.free (hA l hl), rd.mono fun a o h z => by
    unfold tgv at *
    by_cases m : a ∈ A
    · rw [if_pos m] at h ⊢
      exact h
    · rw [if_neg m] at h ⊢
      by_cases n : a ∈ hdn X Φ L
      · rw [if_pos n] at h
        cases h
      · rw [if_neg n] at h
        rw [if_neg fun y => n (Or.inr y)]
        exact h⟩ hr
end
end SE
namespace Sp
open PySem L2 SM SR SD SE
/-- a def that writes nothing, and tells new lists only -/
def SpF (f : List D → Option D) : Sp := fun vs H Q E => ∃ M ds, Lv M H ∧ Dts (hid M H) vs ds ∧ ∃ d, f ds = some d ∧ ∀ v A H', Same H H' → A.Nodup → (∀ l ∈ A, H l = none) → Dt (tgv A M H') v d → Q v H'
section
variable {X : Wd} {Φ : Iv} {M : Ads} {H : Hp} {Γ : Gm} {E : XK} {ta : TA} {ds : List D} {d : D} {Q : VK}
theorem ef_callF {f : List D → Option D} (h : EvA X Φ ta Γ ds) (e : f ds = some d) : EvF X Φ (tCall (SpF f) [] E ta) Γ d := fun L H σ c g Q q => h L H σ c g _ fun vs H1 e1 r => by
  rw [List.append_nil]
  exact ⟨hdn X Φ L, ds, (c.up e1).lv, r, d, e, fun v A H' e2 nd hA rd => q v A H' (e1.trans e2) nd (fun l hl => e1.free (hA l hl)) rd⟩
theorem sf_fin {t : TS} {Ns : List Str} {vs : List V} (lv : Lv M H) (g : EnvD (wd M H) Iv.nil [] H (L2.start Ns vs) Γ) (hs : FW (wd M H) t Γ Iv.nil (fun _ _ => False) (fun ro Φ' => Φ' = Iv.nil ∧ ro = .fr H d)) (hq : ∀ v A H', Same H H' → A.Nodup → (∀ l ∈ A, H l = none) → Dt (tgv A M H') v d → Q v H') :
    t { nx := fun _ H' => Q .non H', rt := Q } (L2.start Ns vs) H := by
  refine hs [] H (L2.start Ns vs) _ (At0.nil.cur lv) g (fun _ _ _ _ _ _ _ _ z => z.elim) fun v ro H' Φ' b hp rd ed => ?_
  obtain ⟨rfl, rfl⟩ := ed
  obtain ⟨A, nd, hA, rd⟩ := rd
  refine hq v A H' b.same nd hA (rd.mono fun a o h z => ?_)
  unfold tgv at *
  by_cases m : a ∈ A
  · rw [if_pos m] at h ⊢
    exact h
  · rw [if_neg m] at h ⊢
    by_cases n : a ∈ M
    · rw [if_pos (show a ∈ fnn (wd M H) Iv.nil from Or.inl n)] at h
      cases h
    · rw [if_neg n]
      split at h
      · cases h
      · exact h
end
end Sp

set_option Elab.async false
set_option linter.all false
set_option maxRecDepth 100000
set_option maxHeartbeats 4000000
/-! The laws' own file: a dict of lists. -/
namespace Sp
open PySem L2 SM SR SD SE
/-- its places -/
structure MA where
  (m lf lp ls lm : Addr)
def MA.foot (G : MA) : List Addr := [G.m, G.lf, G.lp, G.ls, G.lm]
def mKvs (G : MA) (S : FS) : List (Key × V) := [(.inr "room", .int (S.room : Nat)), (.inr "fences", .ref G.lf), (.inr "pages", .ref G.lp), (.inr "spills", .ref G.ls), (.inr "many", .int S.many), (.inr "left", oI S.left), (.inr "down", .bl S.down), (.inr "marks", .ref G.lm)]
def ModAt (N : Ads) (H : Hp) (G : MA) (S : FS) : Prop := ∃ vps vss, H G.m = some (.dK (mKvs G S)) ∧ H G.lf = some (.lst (S.fences.map V.int)) ∧ H G.lp = some (.lst vps) ∧ Dts (hid N H) vps (S.pages.map dPage) ∧ H G.ls = some (.lst vss) ∧ Dts (hid N H) vss (S.spills.map dCell) ∧ H G.lm = some (.lst ((S.marks.map (·.2)).map V.int)) ∧ G.foot.Nodup
theorem noL_page (p : Pg) : noL (dPage p) = true := by
  obtain ⟨rs, l⟩ := p
  cases l <;> simp [noL, noL.noLs, noLs_rows]
theorem noL_cell (c : Option Cl) : noL (dCell c) = true := by
  cases c with
  | none => rfl
  | some c =>
    obtain ⟨r, l⟩ := c
    cases l <;> simp [noL, noL.noLs]
theorem dts_nolH {M A : Ads} {H : Hp} {vs : List V} {ds : List D} (n : ∀ l ∈ A, ∃ xs, H l = some (.lst xs)) (r : Dts (hid M H) vs ds) (h : ∀ d ∈ ds, noL d = true) : Dts (hid (HAppend.hAppend M A) H) vs ds := by
  induction r with
  | nil => exact .nil
  | cons r t ih => exact .cons (r.nol (hid_tups n) (h _ List.mem_cons_self)) (ih fun d hd => h d (List.mem_cons_of_mem _ hd))
def ivM (G : MA) (S : FS) : Iv where
  fp := G.foot
  p := fun N H => ModAt N H G S
  up := by
    intro M N H H' Z k n s h
    have out : ∀ b ∈ G.foot, b ∉ Z := fun b hb hz => (n b hz).1 hb
    obtain ⟨vps, vss, h1, h2, h3, h4, h5, h6, h7, h8⟩ := h
    exact ⟨vps, vss, k _ _ (out _ (by simp [MA.foot])) h1, k _ _ (out _ (by simp [MA.foot])) h2, k _ _ (out _ (by simp [MA.foot])) h3, h4.mono s, k _ _ (out _ (by simp [MA.foot])) h5, h6.mono s, k _ _ (out _ (by simp [MA.foot])) h7, h8⟩
  nol := by
    intro M H A n h
    obtain ⟨vps, vss, h1, h2, h3, h4, h5, h6, h7, h8⟩ := h
    refine ⟨vps, vss, h1, h2, h3, dts_nolH (fun l hl => (n l hl).2) h4 fun d hd => ?_, h5, dts_nolH (fun l hl => (n l hl).2) h6 fun d hd => ?_, h7, h8⟩
    · obtain ⟨p, _, rfl⟩ := List.mem_map.mp hd
      exact noL_page p
    · obtain ⟨p, _, rfl⟩ := List.mem_map.mp hd
      exact noL_cell p
/-! ### promises -/
def f_laid : List D → Option D
  | [.list ds, .int fill] => if 1 ≤ fill ∧ fill ≤ 1000 ∧ ds.length ≤ 1000 then (rowsD ds).map fun rs => .tuple [.list ((fencesOf (partsOf fill.toNat rs)).map PyData.int), .list ((partsOf fill.toNat rs).map fun p => dPage (p, none))] else none
  | _ => none
def sp_law_laid (P : Program) (w : World) (K : PySem.W.Frag) (a : Ad) : Sp := SpF f_laid
def sp_law_made (P : Program) (w : World) (K : PySem.W.Frag) (a : Ad) : Sp := fun vs H Q E => ∃ (M : Ads) (room fill spare : Nat) (rs : List Row), Lv M H ∧ Dts (hid M H) vs [shapeD room fill spare, dList rs] ∧ 1 ≤ fill ∧ fill ≤ 1000 ∧ spare ≤ 1000 ∧ rs.length ≤ 1000 ∧
  ∀ G H', Same H H' → (∀ b ∈ G.foot, H b = none) → ModAt M H' G (mkFS room fill spare rs) → Q (.ref G.m) H'
end Sp

set_option Elab.async false
set_option linter.all false
set_option maxRecDepth 100000
set_option maxHeartbeats 4000000
/-! Readings, printed by gen.py. -/
namespace Sp
open PySem L2 SM SR SD SE
def t_law_laid (P : Program) (w : World) (K : PySem.W.Frag) (a : Ad) (E : XK) : TS :=
  (tSeq (tAsg (tLc (iRng3 (tCons (tC (.int 0)) (tCons (tCB (rLenU K) (tCons (tVar 0) tNil)) (tCons (tVar 1) tNil)))) (gName 3) tYes (tCB (rTupU K) (tCons (tSl (rSlU K) (tVar 0) (tPart (tVar 3)) (tPart (tOp (rAddU K) (tVar 3) (tVar 1)))) tNil)) [3]) (gName 2)) (tSeq (tAsg (tIf (tTest (tOp (rNeD K) (tVar 2) (tLst tNil))) (tVar 2) (tLst (tCons (tTupB tNil) tNil))) (gName 2)) (tRet (tTupB (tCons (tLc (iSeqU K (tSl (rSlU K) (tVar 2) tNoPart (tPart (tUn rNegI (tC (.int 1)))))) (gName 4) tYes (tOp (rIxU P w K) (tOp (rIxU P w K) (tVar 4) (tUn rNegI (tC (.int 1)))) (tC (.int 0))) [4]) (tCons (tLc (iSeqU K (tVar 2)) (gName 4) tYes (tTupB (tCons (tVar 4) (tCons (tC .non) tNil))) [4]) tNil))))))
abbrev n_law_laid : List Str := ["_law_rows_here", "_law_fill", "_law_parts", "_law_k", "_law_part"]
def t_law_made (P : Program) (w : World) (K : PySem.W.Frag) (a : Ad) (E : XK) : TS :=
  (tSeq (tAsg (tCall (sp_law_laid P w K a) [] E (tCons (tVar 1) (tCons (tOp (rIxU P w K) (tVar 0) (tC (.int 1))) tNil))) (gTup K 2 (gCons (gName 2) (gCons (gName 3) gNil)))) (tSeq (tAsg (tDisp [((tC (.str "room")), (tOp (rIxU P w K) (tVar 0) (tC (.int 0)))), ((tC (.str "fences")), (tVar 2)), ((tC (.str "pages")), (tVar 3)), ((tC (.str "spills")), (tOp (rMulU K) (tLst (tCons (tC .non) tNil)) (tOp (rIxU P w K) (tVar 0) (tC (.int 2)))))]) (gName 4)) (tSeq (tDrop (tDUpd (tVar 4) (tDisp [((tC (.str "many")), (tC (.int 0))), ((tC (.str "left")), (tC .non)), ((tC (.str "down")), (tC (.bl false))), ((tC (.str "marks")), (tLst tNil))]))) (tRet (tVar 4)))))
abbrev n_law_made : List Str := ["_law_shape_here", "_law_rows_here", "_law_fences", "_law_pages", "_law_m"]
end Sp

set_option Elab.async false
set_option linter.all false
set_option maxRecDepth 100000
set_option maxHeartbeats 4000000
/-! _law_laid, _law_made, _law_picture. -/
namespace Sp
open PySem L2 SM SR SD SE
theorem dts_int (G : Hp) (ns : List Int) : Dts G (ns.map V.int) (ns.map PyData.int) := by
  induction ns with
  | nil => exact .nil
  | cons n ns ih => exact .cons (.int n) ih
section
variable {P : Program} {w : World} {K : PySem.W.Frag} {a : Ad}
theorem partsR {n : Nat} {rs : List Row} (hn : 1 ≤ n) : (if (List.range (nParts rs.length n)).map (fun j => (rs.drop (j * n)).take n) = [] then [[]] else (List.range (nParts rs.length n)).map (fun j => (rs.drop (j * n)).take n)) = partsOf n rs := by
  unfold partsOf
  by_cases h : rs = []
  · subst h
    simp [nParts]
  · rw [if_neg h, parts_eq (by omega) _ _ (Nat.le_refl _), if_neg]
    intro z
    have hl : 0 < rs.length := List.length_pos_iff.mpr h
    have := congrArg List.length z
    simp [nParts] at this
    exact h this
theorem pure_law_laid (vs : List V) (H : Hp) (Q : VK) (E : XK) (h : sp_law_laid P w K a vs H Q E) : t_law_laid P w K a E { nx := fun _ H' => Q .non H', rt := Q } (L2.start n_law_laid vs) H := by
  obtain ⟨M, ds, lv, r, d, hd, hq⟩ := h
  match ds, r, hd with
  | [.list ds, .int fill], r, hd =>
    simp only [f_laid] at hd
    split at hd
    · rename_i hc
      obtain ⟨h1, h2, h3⟩ := hc
      cases hrs : rowsD ds with
      | none => simp [hrs] at hd
      | some rs =>
        have := rowsD_map hrs
        subst this
        obtain ⟨n, rfl⟩ := Int.eq_ofNat_of_zero_le (show 0 ≤ fill by omega)
        rw [hrs] at hd
        simp only [Option.map_some, Int.toNat_natCast, Option.some.injEq] at hd
        subst hd
        have hl : rs.length ≤ 1000 := by simpa using h3
        have hnp : nParts rs.length n ≤ 1000 := by
          unfold nParts
          split
          · omega
          · have := Nat.div_le_self (rs.length - 1) n
            omega
        have hlen := parts_len (n := n) (rs := rs) (by omega)
        refine sf_fin lv (env_start At0.nil r (by simp)) ?_ hq
        refine fw_then (Γ' := [Sl.dat (.list (rs.map dRow)), Sl.dat (.int (n : Nat)), Sl.dat (.list (((List.range (nParts rs.length n)).map fun j => (rs.drop (j * n)).take n).map dRows)), Sl.no, Sl.no]) (Φ' := Iv.nil) (fw_asg (d := .list (((List.range (nParts rs.length n)).map fun j => (rs.drop (j * n)).take n).map dRows)) (ev_eq (ev_lcm (xs := List.range (nParts rs.length n)) (enc := fun j => .int ((j * n : Nat) : Int)) (fun j => dRows ((rs.drop (j * n)).take n)) (ei_eq (ei_range3 (ea_cons (ev_int 0) (ea_cons (ev_cb (ea_cons (ev_var rfl) ea_nil) cb_lenL) (ea_cons (ev_var rfl) ea_nil))) (by rw [List.length_map]; exact rgC_up (by omega) (by omega) (by omega))) ?_) (by simp; omega) fun j hj => ⟨_, tgw_name, ?_⟩) (by rw [List.map_map]; rfl)) ⟨rfl, rfl⟩) ?_
        · unfold rgD
          refine List.map_congr_left fun j _ => ?_
          simp
        · refine ev_cb (ea_cons (ev_eq (e := .list (((rs.drop (j * n)).take n).map dRow)) (ev_slL (ev_var rfl) (eo_some (ev_var rfl)) (eo_some (ev_op (ev_var rfl) (ev_var rfl) od_addI))) ?_) ea_nil) cb_tupL
          have e2 : ((j * n : Nat) : Int) + (n : Int) = ((j * n + n : Nat) : Int) := by omega
          rw [e2, cut_nat (by omega)]
          simp
        have hpR := partsR (rs := rs) (show 1 ≤ n by omega)
        generalize ((List.range (nParts rs.length n)).map fun j => (rs.drop (j * n)).take n) = qs at hpR
        refine fw_then (Γ' := [Sl.dat (.list (rs.map dRow)), Sl.dat (.int (n : Nat)), Sl.dat (.list ((partsOf n rs).map dRows)), Sl.no, Sl.no]) (Φ' := Iv.nil) (fw_asg (d := .list ((partsOf n rs).map dRows)) (ev_if (b := !qs.isEmpty) ?_ (fun hb => ?_) fun hb => ?_) ⟨rfl, rfl⟩) ?_
        · refine et_test (ev_eq (ev_op (ev_var rfl) (ev_lst ea_nil (by simp)) (od_ne (shd_lst (k := 2) fun d hd => ?_).ok (by rfl))) ?_)
          · obtain ⟨r, _, rfl⟩ := List.mem_map.mp hd
            exact shd_rows
          · rw [eqv_nilL]
            simp
        · have hne : qs ≠ [] := by simpa using hb
          rw [if_neg hne] at hpR
          rw [← hpR]
          exact ev_var rfl
        · have hnil : qs = [] := by simpa using hb
          rw [if_pos hnil] at hpR
          rw [← hpR]
          exact ev_lst (ea_cons (ev_tup ea_nil (by simp)) ea_nil) (by simp)
        have hne : ∀ p ∈ (partsOf n rs).dropLast, p ≠ [] := fun p hp => by
          by_cases hz : rs = []
          · subst hz
            cases hp
          · exact parts_ne (n := n) (by omega) hz ((List.dropLast_sublist _).subset hp)
        generalize partsOf n rs = ps at hlen hne
        refine fw_retF (ef_tup (efa_cons (ef_eq (ef_lcm (xs := ps.dropLast) (enc := dRows) (fun p => .int (match p.getLast? with | some r => r.1 | none => 0)) (ei_seqL (ev_eq (ev_slL (ev_var rfl) eo_none (eo_some (ev_neg (ev_int _)))) (by rw [cut_dropLast, List.map_dropLast]))) (by simp; omega) (fun p hp => ⟨_, tgw_name, ?_⟩) fun _ _ => rfl) ?_) (efa_cons (ef_lcm (xs := ps) (enc := dRows) (fun p => dPage (p, none)) (ei_seqL (ev_var rfl)) (by omega) (fun p hp => ⟨_, tgw_name, ev_tup (ea_cons (ev_var rfl) (ea_cons ev_non ea_nil)) (by simp)⟩) fun p _ => noL_page (p, none)) efa_nil)) (by simp)) ⟨rfl, rfl⟩
        · cases hl : p.getLast? with
          | none => exact absurd (by simpa using hl) (hne p hp)
          | some r0 => exact ev_op (ev_op (ev_var rfl) (ev_neg (ev_int _)) (od_ixT (atI_last hl))) (ev_int _) (od_ixT rfl)
        · show PyData.list (ps.dropLast.map _) = PyData.list ((ps.dropLast.map _).map PyData.int)
          rw [List.map_map]
          rfl
    · cases hd
theorem pure_law_made (vs : List V) (H : Hp) (Q : VK) (E : XK) (h : sp_law_made P w K a vs H Q E) : t_law_made P w K a E { nx := fun _ H' => Q .non H', rt := Q } (L2.start n_law_made vs) H := by
  obtain ⟨M, room, fill, spare, rs, lv, r, f1, f2, hs, hl, q⟩ := h
  cases r with
  | @cons v1 _ us _ r1 r =>
    cases r with
    | @cons v2 _ us _ r2 r =>
      cases r
      have g := env_start (A := []) (N := n_law_made) At0.nil (.cons r1 (.cons r2 .nil)) (by simp)
      have hf : f_laid [dList rs, dInt fill] = some (.tuple [.list ((fencesOf (partsOf fill rs)).map PyData.int), .list ((partsOf fill rs).map fun p => dPage (p, none))]) := by
        simp only [f_laid]
        rw [if_pos ⟨by omega, by omega, by simpa using hl⟩, rowsD_of]
        simp only [Option.map_some, Int.toNat_natCast]
      refine ef_callF (X := wd M H) (Φ := Iv.nil) (f := f_laid) (ea_cons (ev_var rfl) (ea_cons (ev_op (ev_var rfl) (ev_int 1) (od_ixT rfl)) ea_nil)) hf [] H _ (At0.nil.cur lv) g _ fun v A H1 e1 nd hA rd => ?_
      have hlen := parts_len (n := fill) (rs := rs) (by omega)
      cases rd with
      | @tup pt xs _ ht hxs =>
        cases hxs with
        | @cons u1 _ _ _ a1 hxs =>
          cases hxs with
          | @cons u2 _ _ _ a2 hxs =>
            cases hxs
            cases a1 with
            | @lst lf vf _ hlf rf =>
              cases a2 with
              | @lst lp vp _ hlp rp =>
                obtain ⟨mf, kf⟩ := tgv_list hlf
                obtain ⟨mp, kp⟩ := tgv_list hlp
                have evf : vf = (fencesOf (partsOf fill rs)).map V.int := dts_ints rf
                subst evf
                have hlen2 : vp.length = (partsOf fill rs).length := by
                  have := Dts.len rp
                  simpa using this
                have nfp : lf ≠ lp := fun z => by
                  subst z
                  rw [kf] at kp
                  simp only [Option.some.injEq, HO.lst.injEq] at kp
                  have := congrArg List.length kp
                  rw [hlen2] at this
                  simp [fencesOf] at this
                  omega
                have ht : tgv A _ H1 pt = some (.tup _) := ht
                have kt := tgv_H ht
                have m1 : ∀ {d : D} {v : V}, Dt (hid M H) v d → Dt (hid M H1) v d := fun r => r.mono (Same.s (Same.hid e1))
                have rp : Dts (hid M H1) vp ((partsOf fill rs).map fun p => dPage (p, none)) := by
                  have key : ∀ {vs : List V} {ds : List D}, Dts (tgv A (hdn (wd M H) Iv.nil []) H1) vs ds → (∀ d ∈ ds, noL d = true) → Dts (hid M H1) vs ds := by
                    intro vs ds r
                    induction r with
                    | nil => exact fun _ => .nil
                    | cons r t ih =>
                      intro hn
                      refine .cons (r.nol (fun b ys c hb => hb.map fun o _ _ hb => ?_) (hn _ List.mem_cons_self)) (ih fun d hd => hn d (List.mem_cons_of_mem _ hd))
                      refine (hid_out fun mb => ?_).trans (tgv_H hb)
                      unfold tgv at hb
                      by_cases q : b ∈ A
                      · exact lv b mb (hA b q)
                      · rw [if_neg q, if_pos (show b ∈ hdn (wd M H) Iv.nil [] from Or.inr (Or.inl mb))] at hb
                        cases hb
                  refine key rp fun d hd => ?_
                  obtain ⟨p, _, rfl⟩ := List.mem_map.mp hd
                  exact noL_page _
                cases r1 with
                | @tup p1 w1 _ hs1 rs1 =>
                  cases rs1 with
                  | cons b1 rs1 =>
                    cases rs1 with
                    | cons b2 rs1 =>
                      cases rs1 with
                      | cons b3 rs1 =>
                        cases rs1
                        cases b1
                        cases b2
                        cases b3
                        have hs1 : hid M H p1 = some (.tup _) := hs1
                        have hs1 := hid_le _ _ hs1
                        have ix : ∀ {H' : Hp} {k : Int} {v : V} {Q : VK}, Same H H' → L2.atI [V.int room, V.int fill, V.int spare] k = some v → Q v H' → rIxU P w K (.ref p1) (.int k) H' Q := fun {H' k v Q} e hv q => .inl (.inr (.inl ⟨p1, _, k, v, rfl, rfl, SqT.of (e _ _ hs1), hv, q⟩))
                        refine ⟨_, _, rfl, SqT.of kt, rfl, _, _, rfl, _, _, rfl, rfl, fun m nm => ?_⟩
                        have em := new_same (o := .dK []) nm
                        have e1m := e1.trans em
                        refine ⟨_, rfl, ix e1m rfl ⟨_, rfl, _, rfl, ⟨by show 1 ≤ sizeLine; decide, fun p nn => ⟨_, rfl, ix (e1m.trans (new_same nn)) rfl (.inr (.inl ⟨p, spare, [.non], rfl, rfl, upd_same, by omega, by omega, by simp; exact Nat.le_trans hs (by decide), fun ls nls => ⟨?_, [(.inr "room", .int (room : Nat)), (.inr "fences", .ref lf), (.inr "pages", .ref lp), (.inr "spills", .ref ls)], rfl, by simp, ?_⟩⟩))⟩⟩⟩⟩
                        · have h1 : m ≠ ls := fun z => by
                            rw [← z, upd_ne (fun y => by rw [← y, upd_same] at nn; cases nn), upd_same] at nls
                            cases nls
                          have h2 : m ≠ p := fun y => by
                            rw [← y, upd_same] at nn
                            cases nn
                          show upd (upd (upd H1 m (.dK [])) p _) ls _ m = _
                          rw [upd_ne h1, upd_ne h2, upd_same]
                        · have h1 : m ≠ ls := fun z => by
                            rw [← z, upd_ne (fun y => by rw [← y, upd_same] at nn; cases nn), upd_same] at nls
                            cases nls
                          have h2 : m ≠ p := fun y => by
                            rw [← y, upd_same] at nn
                            cases nn
                          have hpls : p ≠ ls := fun z => by
                            rw [← z, upd_same] at nls
                            cases nls
                          obtain ⟨H3, hH3⟩ : ∃ H3, upd (upd (upd (upd H1 m (.dK [])) p (.lst [.non])) ls (.lst (List.replicate (spare : Int).toNat [V.non]).flatten)) m (.dK (mergeK [] [(.inr "room", .int (room : Nat)), (.inr "fences", .ref lf), (.inr "pages", .ref lp), (.inr "spills", .ref ls)])) = H3 := ⟨_, rfl⟩
                          show tSeq _ _ _ _ (upd (upd (upd (upd H1 m (.dK [])) p (.lst [.non])) ls (.lst (List.replicate (spare : Int).toNat [V.non]).flatten)) m (.dK (mergeK [] [(.inr "room", .int (room : Nat)), (.inr "fences", .ref lf), (.inr "pages", .ref lp), (.inr "spills", .ref ls)])))
                          rw [hH3]
                          have k3m : H3 m = some (.dK [(.inr "room", .int (room : Nat)), (.inr "fences", .ref lf), (.inr "pages", .ref lp), (.inr "spills", .ref ls)]) := by
                            rw [← hH3, upd_same]
                            rfl
                          have nls1 : H1 ls = none := by
                            rw [upd_ne (Ne.symm hpls), upd_ne (Ne.symm h1)] at nls
                            exact nls
                          have np1 : H1 p = none := by
                            rw [upd_ne (Ne.symm h2)] at nn
                            exact nn
                          have e13 : Same H1 H3 := fun b o hb => by
                            rw [← hH3, upd_ne (ne_of_none hb nm), upd_ne (ne_of_none hb nls1), upd_ne (ne_of_none hb np1), upd_ne (ne_of_none hb nm)]
                            exact hb
                          have k3s : H3 ls = some (.lst (List.replicate spare V.non)) := by
                            rw [← hH3, upd_ne (Ne.symm h1), upd_same]
                            simp
                          refine ⟨_, rfl, m, rfl, .inl ⟨_, .inl k3m⟩, fun m2 nm2 => ?_⟩
                          have em2 := new_same (o := .dK []) nm2
                          refine ⟨by show 0 ≤ sizeLine; decide, fun lm nlm => ⟨?_, [(.inr "many", .int 0), (.inr "left", .non), (.inr "down", .bl false), (.inr "marks", .ref lm)], rfl, by simp, ?_⟩⟩
                          · have : m2 ≠ lm := fun z => by
                              rw [← z, upd_same] at nlm
                              cases nlm
                            rw [upd_ne this, upd_same]
                          · have hlm2 : m2 ≠ lm := fun z => by
                              rw [← z, upd_same] at nlm
                              cases nlm
                            have nlm3 : H3 lm = none := by
                              rw [upd_ne (Ne.symm hlm2)] at nlm
                              exact nlm
                            have hmm : m ≠ m2 := ne_of_none k3m nm2
                            obtain ⟨H4, hH4⟩ : ∃ H4, upd (upd (upd H3 m2 (.dK [])) lm (.lst [])) m2 (.dK (mergeK [] [(.inr "many", .int 0), (.inr "left", .non), (.inr "down", .bl false), (.inr "marks", .ref lm)])) = H4 := ⟨_, rfl⟩
                            show ∃ b kvs more, _ ∧ _ ∧ (upd (upd (upd H3 m2 (.dK [])) lm (.lst [])) m2 (.dK (mergeK [] [(.inr "many", .int 0), (.inr "left", .non), (.inr "down", .bl false), (.inr "marks", .ref lm)]))) _ = _ ∧ _ ∧ _ ∧ _
                            rw [hH4]
                            have e34 : Same H3 H4 := fun b o hb => by
                              rw [← hH4, upd_ne (ne_of_none hb nm2), upd_ne (ne_of_none hb nlm3), upd_ne (ne_of_none hb nm2)]
                              exact hb
                            have k4lm : H4 lm = some (.lst []) := by
                              rw [← hH4, upd_ne (Ne.symm hlm2), upd_same]
                            have k4m2 : H4 m2 = some (.dK [(.inr "many", .int 0), (.inr "left", .non), (.inr "down", .bl false), (.inr "marks", .ref lm)]) := by
                              rw [← hH4]
                              exact upd_same
                            refine ⟨m2, [(.inr "room", .int (room : Nat)), (.inr "fences", .ref lf), (.inr "pages", .ref lp), (.inr "spills", .ref ls)], [(.inr "many", .int 0), (.inr "left", .non), (.inr "down", .bl false), (.inr "marks", .ref lm)], rfl, hmm, e34 _ _ k3m, k4m2, by simp, _, rfl, ?_⟩
                            have keep : ∀ b o, b ≠ m → H4 b = some o → upd H4 m (.dK (mergeK [(.inr "room", .int (room : Nat)), (.inr "fences", .ref lf), (.inr "pages", .ref lp), (.inr "spills", .ref ls)] [(.inr "many", .int 0), (.inr "left", .non), (.inr "down", .bl false), (.inr "marks", .ref lm)])) b = some o := fun b o nb hb => by
                              rw [upd_ne nb]
                              exact hb
                            have e14 := e13.trans e34
                            have nmH : H m = none := e1.free nm
                            have e4 : Same H (upd H4 m (.dK (mergeK [(.inr "room", .int (room : Nat)), (.inr "fences", .ref lf), (.inr "pages", .ref lp), (.inr "spills", .ref ls)] [(.inr "many", .int 0), (.inr "left", .non), (.inr "down", .bl false), (.inr "marks", .ref lm)]))) := fun b o hb => keep b o (ne_of_none hb nmH) (e14 _ _ (e1 _ _ hb))
                            have s4 : SameS (hid M H1) (hid M (upd H4 m (.dK (mergeK [(.inr "room", .int (room : Nat)), (.inr "fences", .ref lf), (.inr "pages", .ref lp), (.inr "spills", .ref ls)] [(.inr "many", .int 0), (.inr "left", .non), (.inr "down", .bl false), (.inr "marks", .ref lm)])))) := fun b o hb z => by
                              obtain ⟨nb, hb⟩ := hid_some hb
                              exact (hid_out nb).trans (keep b o (ne_of_none hb nm) (e14 _ _ hb))
                            have mlf : lf ≠ m := ne_of_none kf nm
                            have mlp : lp ≠ m := ne_of_none kp nm
                            refine q ⟨m, lf, lp, ls, lm⟩ _ e4 (fun b hb => ?_) ⟨vp, List.replicate spare .non, ?_, keep _ _ mlf (e14 _ _ kf), keep _ _ mlp (e14 _ _ kp), ?_, keep _ _ (Ne.symm h1) (e34 _ _ k3s), ?_, keep _ _ ?_ k4lm, ?_⟩
                            · have hb : b = m ∨ b = lf ∨ b = lp ∨ b = ls ∨ b = lm := by simpa [MA.foot] using hb
                              rcases hb with rfl | rfl | rfl | rfl | rfl
                              · exact nmH
                              · exact hA _ mf
                              · exact hA _ mp
                              · exact e1.free nls1
                              · exact e1.free (e13.free nlm3)
                            · rw [upd_same]
                              rfl
                            · show Dts _ vp (((partsOf fill rs).map fun p => (p, none)).map dPage)
                              rw [List.map_map]
                              exact rp.mono s4
                            · have : ∀ n : Nat, Dts (hid M (upd H4 m (.dK (mergeK [(.inr "room", .int (room : Nat)), (.inr "fences", .ref lf), (.inr "pages", .ref lp), (.inr "spills", .ref ls)] [(.inr "many", .int 0), (.inr "left", .non), (.inr "down", .bl false), (.inr "marks", .ref lm)])))) (List.replicate n V.non) (List.replicate n PyData.none) := fun n => by
                                induction n with
                                | zero => exact .nil
                                | succ n ih => exact .cons .non ih
                              show Dts _ _ ((List.replicate spare none).map dCell)
                              rw [List.map_replicate]
                              exact this spare
                            · exact fun (z : lm = m) => by
                                rw [z, k3m] at nlm3
                                cases nlm3
                            · have a1 : ls ≠ lf := fun z => by
                                rw [z, kf] at nls1
                                cases nls1
                              have a2 : ls ≠ lp := fun z => by
                                rw [z, kp] at nls1
                                cases nls1
                              have b1 : lm ≠ m := fun z => by
                                rw [z, k3m] at nlm3
                                cases nlm3
                              have b2 : lm ≠ ls := fun z => by
                                rw [z, k3s] at nlm3
                                cases nlm3
                              have b3 : lm ≠ lf := fun z => by
                                rw [z, e13 _ _ kf] at nlm3
                                cases nlm3
                              have b4 : lm ≠ lp := fun z => by
                                rw [z, e13 _ _ kp] at nlm3
                                cases nlm3
                              simp [MA.foot, Ne.symm mlf, Ne.symm mlp, h1, Ne.symm b1, nfp, Ne.symm a1, Ne.symm b3, Ne.symm a2, Ne.symm b4, Ne.symm b2]
end
end Sp

set_option Elab.async false
set_option linter.all false
set_option maxRecDepth 100000
set_option maxHeartbeats 4000000
/-! What a law holds: the row, its own file, the program's file. -/
namespace SE
open PySem L2 SM SR SD Sp
section
variable {X : Wd} {Φ Ψ Φ2 : Iv} {H H1 H2 H3 : Hp} {L L' : Lo} {σ : L2.St} {Γ Γ' : Gm} {v : V} {d e : D} {i j : Nat} {ta tb te tr tn : TE} {tt tu : TT} {t : TS} {S : D → Iv → Prop} {N N1 : Gm → Iv → Prop} {R : Ro → Iv → Prop} {r scr : Addr} {E : XK} {P : Program} {w : World} {K : PySem.W.Frag} {a : Ad}
theorem mem_and {b : Addr} : b ∈ hdn X (Φ.and Ψ) L ↔ b ∈ hdn X Φ L ∨ b ∈ Ψ.fp := by
  constructor
  · rintro (h | h | h)
    · exact .inl (Or.inl h)
    · exact .inl (Or.inr (Or.inl h))
    · rcases List.mem_append.mp h with h | h
      · exact .inl (Or.inr (Or.inr h))
      · exact .inr h
  · rintro ((h | h | h) | h)
    · exact Or.inl h
    · exact Or.inr (Or.inl h)
    · exact Or.inr (Or.inr (List.mem_append_left _ h))
    · exact Or.inr (Or.inr (List.mem_append_right _ h))
/-- something new is held, too -/
theorem Cur.add (c : Cur X Φ L H) (e : Same H H2) (fresh : ∀ b ∈ Ψ.fp, H b = none) (live : ∀ b ∈ Ψ.fp, H2 b ≠ none) (p : Ψ.p (hdn X (Φ.and Ψ) L) H2) : Cur X (Φ.and Ψ) L H2 ∧ SameS (hd X Φ L H) (hd X (Φ.and Ψ) L H2) := by
  have s : SameS (hd X Φ L H) (hd X (Φ.and Ψ) L H2) := fun b o h z => by
    obtain ⟨m, h⟩ := hid_some h
    refine (hid_out fun y => ?_).trans (e b o h)
    rcases mem_and.mp y with y | y
    · exact m y
    · have := fresh b y
      rw [h] at this
      cases this
  refine ⟨⟨(c.up e).but, fun b m => ?_, c.new, c.om, c.nd, fun q hq z => ?_, ⟨Φ.up [] (fun b o _ h => e b o h) (fun z hz => by cases hz) s c.at_, p⟩, fun q hq => (c.ls q hq).imp fun _ z => e _ _ z⟩, s⟩
  · rcases mem_and.mp m with m | m
    · exact (c.up e).lv b m
    · exact live b m
  · rcases List.mem_append.mp z with z | z
    · exact c.dj q hq z
    · exact c.lv q.2 (Or.inl (List.mem_map.mpr ⟨q, hq, rfl⟩)) (fresh _ z)
/-- the second is let go -/
theorem Cur.and1 (c : Cur X (Φ.and Ψ) L H) : Cur X Φ L H ∧ SameS (hd X (Φ.and Ψ) L H) (hd X Φ L H) := by
  have s : Same (hd X (Φ.and Ψ) L H) (hd X Φ L H) := hid_sub fun b m => mem_and.mpr (.inl m)
  exact ⟨⟨c.but, fun b m => c.lv b (mem_and.mpr (.inl m)), c.new, c.om, c.nd, fun q hq z => c.dj q hq (List.mem_append_left _ z), Iv.same (Same.refl H) (Same.s s) c.at_.1, c.ls⟩, Same.s s⟩
theorem RowOf.and (ro : RowOf K X Φ r scr) (n : r ∉ Ψ.fp) : RowOf K X (Φ.and Ψ) r scr where
  ir := List.mem_append_left _ ro.ir
  at_ := fun N G p => ro.at_ N G p.1
  chg := fun N G G' m p b ra => ⟨ro.chg N G G' m p.1 b ra, Ψ.up [r] (fun x o nx h => b.keep x o nx h) (fun z hz => by
    have hz : z = r := by simpa using hz
    subst hz
    obtain ⟨ns, q1, q2, q3, h1, _⟩ := ro.at_ N G p.1
    rw [h1]
    exact ⟨n, (fun xs z => by cases z), (fun o u z => by cases z), fun e z => by cases z⟩) (same_r m b) p.2⟩
  ok := ro.ok
end
end SE

set_option Elab.async false
set_option linter.all false
set_option maxRecDepth 100000
set_option maxHeartbeats 4000000
/-! The row, the laws' file, the program's file: made, read. -/
namespace Sp
open PySem L2 SM SR SD SE
section
variable {X : Wd} {Φ Ψ Φ2 : Iv} {H H1 H2 H3 : Hp} {L L' : Lo} {σ : L2.St} {Γ Γ' : Gm} {v : V} {d e : D} {i j : Nat} {ta : TA} {tb te tr tn : TE} {tt tu : TT} {t : TS} {N N1 : Gm → Iv → Prop} {R : Ro → Iv → Prop} {r scr : Addr} {E : XK} {P : Program} {w : World} {K : PySem.W.Frag} {a : Ad} {S : FS} {F : FA} {G : MA}
theorem ModAt.hide {M N : Ads} (h : ModAt M H G S) (s : ∀ b ∈ N, b ∈ M ∨ b ∈ G.foot) : ModAt N H G S := by
  obtain ⟨vps, vss, h1, h2, h3, h4, h5, h6, h7, h8⟩ := h
  have tup : ∀ b xs c, TupAt (hid M H) b xs c → TupAt (hid N H) b xs c := fun b xs c hb => hb.map fun o hn hq hb => by
    obtain ⟨m, hb⟩ := hid_some hb
    refine (hid_out fun y => ?_).trans hb
    rcases s b y with y | y
    · exact m y
    · have hb2 : b = G.m ∨ b = G.lf ∨ b = G.lp ∨ b = G.ls ∨ b = G.lm := by simpa [MA.foot] using y
      rcases hb2 with rfl | rfl | rfl | rfl | rfl
      · rw [h1] at hb; cases hb; cases hq
      · rw [h2] at hb; cases hb; exact absurd rfl (hn _)
      · rw [h3] at hb; cases hb; exact absurd rfl (hn _)
      · rw [h5] at hb; cases hb; exact absurd rfl (hn _)
      · rw [h7] at hb; cases hb; exact absurd rfl (hn _)
  have key : ∀ {vs : List V} {ds : List D}, Dts (hid M H) vs ds → (∀ d ∈ ds, noL d = true) → Dts (hid N H) vs ds := by
    intro vs ds r
    induction r with
    | nil => exact fun _ => .nil
    | cons r t ih => exact fun hn => .cons (r.nol tup (hn _ List.mem_cons_self)) (ih fun d hd => hn d (List.mem_cons_of_mem _ hd))
  refine ⟨vps, vss, h1, h2, h3, key h4 fun d hd => ?_, h5, key h6 fun d hd => ?_, h7, h8⟩
  · obtain ⟨p, _, rfl⟩ := List.mem_map.mp hd
    exact noL_page p
  · obtain ⟨p, _, rfl⟩ := List.mem_map.mp hd
    exact noL_cell p
theorem ModAt.live (h : ModAt (N := M) H G S) : ∀ b ∈ G.foot, H b ≠ none := by
  obtain ⟨vps, vss, h1, h2, h3, h4, h5, h6, h7, h8⟩ := h
  intro b y
  have hb2 : b = G.m ∨ b = G.lf ∨ b = G.lp ∨ b = G.ls ∨ b = G.lm := by simpa [MA.foot] using y
  rcases hb2 with rfl | rfl | rfl | rfl | rfl
  · rw [h1]; nofun
  · rw [h2]; nofun
  · rw [h3]; nofun
  · rw [h5]; nofun
  · rw [h7]; nofun
theorem FileAt.live (h : FileAt P w a M H F S) : ∀ b ∈ F.foot, H b ≠ none := h.at0.lv
theorem FileAt.hide {M N : Ads} {A : Ads} (h : FileAt P w a M H F S) (hA : ∀ l ∈ A, l ∉ F.foot ∧ ∃ xs, H l = some (.lst xs)) (s : ∀ b ∈ N, b ∈ M ∨ b ∈ F.foot ∨ b ∈ A) : FileAt P w a N H F S := by
  have h1 : FileAt P w a (HAppend.hAppend M A) H F S := (ivF P w a F S).nol A hA h
  refine (ivF P w a F S).up [] (fun _ _ _ h => h) (fun z hz => by cases hz) (fun b o hb z => ?_) h1
  obtain ⟨m, hb⟩ := hid_some hb
  refine (hid_out fun y => ?_).trans hb
  rcases s b y with y | y | y
  · exact m (Or.inl y)
  · have := h.noseq b y o hb
    rw [this] at z
    cases z
  · exact m (Or.inr y)
end
end Sp

set_option Elab.async false
set_option linter.all false
set_option maxRecDepth 100000
set_option maxHeartbeats 4000000
/-! Plain facts of a new file. -/
namespace Sp
open PySem L2 SM SR SD SE
end Sp

set_option Elab.async false
set_option linter.all false
set_option maxRecDepth 100000
set_option maxHeartbeats 4000000
/-! A key's worth is on its page. -/
namespace Sp
open PySem L2 SM SR SD SE
theorem lastVal_app (a b : List Row) (k : Int) : lastVal (a ++ b) k = match lastVal b k with | some v => some v | none => lastVal a k := by
  unfold lastVal
  rw [List.foldl_append]
  generalize a.foldl _ _ = o
  induction b generalizing o with
  | nil => rfl
  | cons r b ih =>
    rw [List.foldl_cons, List.foldl_cons]
    by_cases h : r.1 = k
    · rw [if_pos h, if_pos h, ih (some r.2)]
      cases b.foldl (fun o r => if r.1 = k then some r.2 else o) none <;> rfl
    · rw [if_neg h, if_neg h]
      exact ih o
theorem lastVal_none {a : List Row} {k : Int} (h : ∀ r ∈ a, r.1 ≠ k) : lastVal a k = none := by
  unfold lastVal
  induction a with
  | nil => rfl
  | cons r a ih =>
    rw [List.foldl_cons, if_neg (h r List.mem_cons_self)]
    exact ih fun x hx => h x (List.mem_cons_of_mem _ hx)
end Sp

set_option Elab.async false
set_option linter.all false
set_option maxRecDepth 100000
set_option maxHeartbeats 4000000
/-! Methods of a file in any slot; defs that read the laws' file. -/
namespace Sp
open PySem L2 SM SR SD SE
section
variable {P : Program} {w : World} {K : PySem.W.Frag} {a : Ad} {X : Wd} {Φ : Iv} {Γ : Gm} {d : D} {E : XK} {ta : TA} {m : Str} {ds : List D} {r : Rs} {F : FA} {S : FS} {G : MA} {i : Nat}
/-- Φ holds the laws' file -/
abbrev MIn (Φ : Iv) (G : MA) (S : FS) : Prop := ∀ N Hh, Φ.p N Hh → ModAt N Hh G S
end
end Sp

set_option Elab.async false
set_option linter.all false
set_option maxRecDepth 100000
set_option maxHeartbeats 4000000
/-! Plain facts of new files; plain trees; less is known. -/
namespace Sp
open PySem L2 SM SR SD SE
/-! plain trees -/
theorem pl_lst {n : Nat} {ds : List D} (h : ds.length ≤ 10000) (ha : ∀ d ∈ ds, plainD n d = true) : plainD (n + 1) (.list ds) = true := by
  simp only [plainD, Bool.and_eq_true, decide_eq_true_eq, List.all_eq_true]
  exact ⟨h, ha⟩
theorem All2.mem {α : Type} {A : α → D → Prop} {xs : List α} {ds : List D} (h : All2 A xs ds) : ∀ d ∈ ds, ∃ x ∈ xs, A x d := by
  induction h with
  | nil =>
    intro d hd
    cases hd
  | cons a t ih =>
    intro d hd
    rcases List.mem_cons.mp hd with rfl | hd
    · exact ⟨_, List.mem_cons_self, a⟩
    · obtain ⟨x, hx, q⟩ := ih d hd
      exact ⟨x, List.mem_cons_of_mem _ hx, q⟩
/-- less is known -/
inductive LeG : Gm → Gm → Prop
  | nil : LeG [] []
  | same {s : Sl} {Γ Δ : Gm} : LeG Γ Δ → LeG (s :: Γ) (s :: Δ)
  | no {s : Sl} {Γ Δ : Gm} : LeG Γ Δ → LeG (.no :: Γ) (s :: Δ)
theorem LeG.len {Γ Δ : Gm} (h : LeG Γ Δ) : Γ.length = Δ.length := by
  induction h <;> simp_all
theorem LeG.at_ {Γ Δ : Gm} (h : LeG Γ Δ) : ∀ (i : Nat) (s : Sl), Γ[i]? = some s → s = Sl.no ∨ Δ[i]? = some s := by
  induction h with
  | nil =>
    intro i s e
    simp at e
  | same t ih =>
    intro i s e
    cases i with
    | zero => exact .inr e
    | succ i => exact ih i s (by simpa using e)
  | no t ih =>
    intro i s e
    cases i with
    | zero => exact .inl (by simpa using e.symm)
    | succ i => exact ih i s (by simpa using e)
end Sp

set_option Elab.async false
set_option linter.all false
set_option maxRecDepth 100000
set_option maxHeartbeats 4000000
/-! Chains of spare cells. -/
namespace Sp
theorem Ch.unique {sp : List (Option Cl)} : ∀ {l : Option Nat} {ns ms : List Nat}, Ch sp l ns → Ch sp l ms → ns = ms
  | _, _, _, .nil, .nil => rfl
  | _, _, _, .cons h1 t1, .cons h2 t2 => by
    rw [h1] at h2
    cases h2
    rw [Ch.unique t1 t2]
theorem Ch.frame {sp sp' : List (Option Cl)} {l : Option Nat} {ns : List Nat} (h : Ch sp l ns) (e : ∀ n ∈ ns, sp'[n]? = sp[n]?) : Ch sp' l ns := by
  induction h with
  | nil => exact .nil
  | cons h t ih => exact .cons ((e _ List.mem_cons_self).trans h) (ih fun n hn => e n (List.mem_cons_of_mem _ hn))
theorem Ch.mem {sp : List (Option Cl)} {l : Option Nat} {ns : List Nat} (h : Ch sp l ns) : ∀ n ∈ ns, ∃ r k, sp[n]? = some (some (r, k)) := by
  induction h with
  | nil =>
    intro n hn
    cases hn
  | cons h t ih =>
    intro n hn
    rcases List.mem_cons.mp hn with rfl | hn
    · exact ⟨_, _, h⟩
    · exact ih n hn
/-- the chain from one of its cells on -/
theorem Ch.drop {sp : List (Option Cl)} : ∀ {l : Option Nat} {ns : List Nat} (k : Nat) (hk : k < ns.length), Ch sp l ns → Ch sp (some ns[k]) (ns.drop k)
  | _, _, 0, hk, .cons h t => .cons h t
  | _, n :: ns, k + 1, hk, .cons h t => by
    have hk' : k < ns.length := by simpa using hk
    simpa using Ch.drop k hk' t
theorem Ch.head {sp : List (Option Cl)} {l : Option Nat} {ns : List Nat} (h : Ch sp l ns) : l = ns[0]? := by cases h <;> rfl
/-- what a cell's link is -/
theorem Ch.at_ {sp : List (Option Cl)} {l : Option Nat} {ns : List Nat} (h : Ch sp l ns) {k : Nat} (hk : k < ns.length) : ∃ r, sp[ns[k]]? = some (some (r, ns[k + 1]?)) := by
  have d := h.drop k hk
  have e : ns.drop k = ns[k] :: ns.drop (k + 1) := (List.drop_eq_getElem_cons hk)
  rw [e] at d
  cases d with
  | cons h1 t =>
    have := t.head
    rw [List.getElem?_drop] at this
    subst this
    exact ⟨_, h1⟩
theorem Ch.nodup {sp : List (Option Cl)} {l : Option Nat} {ns : List Nat} (h : Ch sp l ns) : ns.Nodup := by
  unfold List.Nodup
  rw [List.pairwise_iff_getElem]
  intro i j hi hj hij e2
  have d1 := h.drop i hi
  have d2 := h.drop j hj
  rw [e2] at d1
  have := congrArg List.length (d1.unique d2)
  simp at this
  omega
theorem nodup_len {ns : List Nat} {m : Nat} (nd : ns.Nodup) (h : ∀ n ∈ ns, n < m) : ns.length ≤ m := by
  have : ns.length ≤ (List.range m).length := nd.length_le_of_subset (fun n hn => List.mem_range.mpr (h n hn))
  simpa using this
theorem Ch.lt {sp : List (Option Cl)} {l : Option Nat} {ns : List Nat} (h : Ch sp l ns) : ∀ n ∈ ns, n < sp.length := fun n hn => by
  obtain ⟨r, k, e⟩ := h.mem n hn
  exact (List.getElem?_eq_some_iff.mp e).1
theorem Ch.len {sp : List (Option Cl)} {l : Option Nat} {ns : List Nat} (h : Ch sp l ns) : ns.length ≤ sp.length := nodup_len h.nodup h.lt
theorem Ch.fuel {sp : List (Option Cl)} {l : Option Nat} {ns : List Nat} (h : Ch sp l ns) : ∀ k, ns.length < k → chainF sp k l = ns := by
  induction h with
  | nil =>
    intro k hk
    cases k <;> rfl
  | cons h t ih =>
    intro k hk
    cases k with
    | zero => simp at hk
    | succ k =>
      unfold chainF
      rw [h]
      show _ :: chainF sp k _ = _
      rw [ih k (by simpa using hk)]
theorem Ch.of_chain {S : FS} {pg : Pg} {ns : List Nat} (h : Ch S.spills pg.2 ns) : chainOf S pg = ns := h.fuel _ (by have := h.len; omega)
/-- a chain by its cells -/
theorem Ch.mk {sp : List (Option Cl)} : ∀ {ns : List Nat} {l : Option Nat}, l = ns[0]? → (∀ k (hk : k < ns.length), ∃ r, sp[ns[k]]? = some (some (r, ns[k + 1]?))) → Ch sp l ns
  | [], _, e, _ => by
    subst e
    exact .nil
  | n :: ns, _, e, h => by
    subst e
    obtain ⟨r, hr⟩ := h 0 (by simp)
    refine .cons hr (Ch.mk (by simp) fun k hk => ?_)
    obtain ⟨r, hr⟩ := h (k + 1) (by simpa using hk)
    exact ⟨r, by simpa using hr⟩
/-- links and rows of the cells of a chain -/
theorem Ch.relink {sp sp' : List (Option Cl)} {l : Option Nat} {ns : List Nat} (h : Ch sp l ns) (e : ∀ n ∈ ns, ∀ r k, sp[n]? = some (some (r, k)) → ∃ r', sp'[n]? = some (some (r', k))) : Ch sp' l ns := by
  induction h with
  | nil => exact .nil
  | cons h t ih =>
    obtain ⟨r', h'⟩ := e _ List.mem_cons_self _ _ h
    exact .cons h' (ih fun n hn => e n (List.mem_cons_of_mem _ hn))
end Sp

set_option Elab.async false
set_option linter.all false
set_option maxRecDepth 100000
set_option maxHeartbeats 4000000
/-! Whole files: what holds of their lists. -/
namespace Sp
abbrev Rise (rs : List Row) : Prop := rs.Pairwise fun x y => x.1 < y.1
abbrev RowOk (r : Row) : Prop := 0 ≤ r.1 ∧ r.1 ≤ 999 ∧ 0 ≤ r.2 ∧ r.2 ≤ 999
abbrev chains (S : FS) : List Nat := S.pages.flatMap (chainOf S)
/-- a file, cells that are lost let by -/
structure WF (S : FS) : Prop where
  np : S.pages.length = S.fences.length + 1
  pn : S.pages.length ≤ 1000
  ns : S.spills.length = S.spare
  sp : S.spare ≤ 20
  rm : 1 ≤ S.room ∧ S.room ≤ 4
  wh : S.which < 2
  rise : S.fences.Pairwise (· < ·)
  fb : ∀ f ∈ S.fences, 0 ≤ f ∧ f ≤ 999
  ch : ∀ pg ∈ S.pages, Ch S.spills pg.2 (chainOf S pg)
  dj : (chains S).Nodup
  sz : ∀ pg ∈ S.pages, pg.1.length ≤ S.room
  fl : ∀ pg ∈ S.pages, pg.2 ≠ none → pg.1.length = S.room
  rs : ∀ (n : Nat) pg, S.pages[n]? = some pg → Rise (rowsOf S pg) ∧ ∀ r ∈ rowsOf S pg, atP S.fences r.1 = n ∧ RowOk r
/-- no cell is lost -/
def Whole (S : FS) : Prop := ∀ (n : Nat) c, S.spills[n]? = some (some c) → n ∈ chains S
theorem WF.c {S : FS} (h : WF S) : WFc S := ⟨h.ch, fun pg hp => Nat.le_trans (h.sz pg hp) h.rm.2, h.pn⟩
/-- other pages, other cells -/
def FS.up (S : FS) (ps : List Pg) (sp : List (Option Cl)) : FS := { S with pages := ps, spills := sp }
section
variable {S : FS} {P1 P2 : List Pg} {pg pg' : Pg} {sp' : List (Option Cl)} {ns : List Nat}
theorem split_at {n : Nat} (h : S.pages[n]? = some pg) : ∃ P1 P2, S.pages = P1 ++ pg :: P2 ∧ P1.length = n ∧ ∀ q, S.pages.set n q = P1 ++ q :: P2 := by
  obtain ⟨hl, he⟩ := List.getElem?_eq_some_iff.mp h
  refine ⟨S.pages.take n, S.pages.drop (n + 1), ?_, by simp; omega, fun q => ?_⟩
  · rw [← he, ← List.drop_eq_getElem_cons hl, List.take_append_drop]
  · rw [List.set_eq_take_append_cons_drop, if_pos hl]
theorem cellRow_eq {S S' : FS} {c : Nat} (h : S'.spills[c]? = S.spills[c]?) : cellRow S' c = cellRow S c := by
  unfold cellRow
  rw [h]
theorem others (h : WF S) (e : S.pages = P1 ++ pg :: P2) (oth : ∀ qg ∈ P1 ++ P2, ∀ c ∈ chainOf S qg, sp'[c]? = S.spills[c]?) (ps : List Pg) :
    ∀ qg ∈ P1 ++ P2, chainOf (S.up ps sp') qg = chainOf S qg ∧ rowsOf (S.up ps sp') qg = rowsOf S qg := fun qg hq => by
  have hm : qg ∈ S.pages := by
    rw [e]
    rcases List.mem_append.mp hq with hq | hq
    · exact List.mem_append_left _ hq
    · exact List.mem_append_right _ (List.mem_cons_of_mem _ hq)
  have hc : Ch (S.up ps sp').spills qg.2 (chainOf S qg) := (h.ch qg hm).frame (oth qg hq)
  have h1 : chainOf (S.up ps sp') qg = chainOf S qg := hc.of_chain
  refine ⟨h1, ?_⟩
  unfold rowsOf
  rw [h1]
  congr 1
  exact List.map_congr_left fun c hcc => cellRow_eq (oth qg hq c hcc)
/-- one page is changed, and cells of its chain and of none -/
theorem WF.up1 (h : WF S) (e : S.pages = P1 ++ pg :: P2) (hl : sp'.length = S.spills.length) (oth : ∀ qg ∈ P1 ++ P2, ∀ c ∈ chainOf S qg, sp'[c]? = S.spills[c]?) (hc : Ch sp' pg'.2 ns)
    (dj : ∀ c ∈ ns, ∀ qg ∈ P1 ++ P2, c ∉ chainOf S qg) (sz : pg'.1.length ≤ S.room) (fl : pg'.2 ≠ none → pg'.1.length = S.room)
    (hr : Rise (pg'.1 ++ ns.map (cellRow (S.up (P1 ++ pg' :: P2) sp')))) (hb : ∀ r ∈ pg'.1 ++ ns.map (cellRow (S.up (P1 ++ pg' :: P2) sp')), atP S.fences r.1 = P1.length ∧ RowOk r) :
    WF (S.up (P1 ++ pg' :: P2) sp') ∧ chainOf (S.up (P1 ++ pg' :: P2) sp') pg' = ns ∧ rowsOf (S.up (P1 ++ pg' :: P2) sp') pg' = pg'.1 ++ ns.map (cellRow (S.up (P1 ++ pg' :: P2) sp')) := by
  obtain ⟨S', hS⟩ : ∃ S', S.up (P1 ++ pg' :: P2) sp' = S' := ⟨_, rfl⟩
  have o := others h e oth (P1 ++ pg' :: P2)
  have hc' : chainOf (S.up (P1 ++ pg' :: P2) sp') pg' = ns := Ch.of_chain (S := S.up (P1 ++ pg' :: P2) sp') hc
  have hr' : rowsOf (S.up (P1 ++ pg' :: P2) sp') pg' = pg'.1 ++ ns.map (cellRow (S.up (P1 ++ pg' :: P2) sp')) := by
    unfold rowsOf
    rw [hc']
  refine ⟨?_, hc', hr'⟩
  have mem : ∀ qg ∈ P1 ++ pg' :: P2, qg = pg' ∨ qg ∈ P1 ++ P2 := fun qg hq => by
    rcases List.mem_append.mp hq with hq | hq
    · exact .inr (List.mem_append_left _ hq)
    · rcases List.mem_cons.mp hq with hq | hq
      · exact .inl hq
      · exact .inr (List.mem_append_right _ hq)
  have memS : ∀ qg ∈ P1 ++ P2, qg ∈ S.pages := fun qg hq => by
    rw [e]
    rcases List.mem_append.mp hq with hq | hq
    · exact List.mem_append_left _ hq
    · exact List.mem_append_right _ (List.mem_cons_of_mem _ hq)
  have len : (P1 ++ pg' :: P2).length = S.pages.length := by
    rw [e]
    simp
  refine ⟨by show (P1 ++ pg' :: P2).length = _; rw [len]; exact h.np, by show (P1 ++ pg' :: P2).length ≤ _; rw [len]; exact h.pn, by show sp'.length = _; rw [hl]; exact h.ns, h.sp, h.rm, h.wh, h.rise, h.fb, fun qg hq => ?_, ?_, fun qg hq => ?_, fun qg hq => ?_, fun n qg hq => ?_⟩
  · rcases mem qg hq with rfl | hq
    · rw [hc']
      exact hc
    · rw [(o qg hq).1]
      exact (h.ch qg (memS qg hq)).frame (oth qg hq)
  · have d := h.dj
    unfold chains at d ⊢
    rw [e, List.flatMap_append, List.flatMap_cons] at d
    show ((P1 ++ pg' :: P2).flatMap (chainOf (S.up (P1 ++ pg' :: P2) sp'))).Nodup
    rw [List.flatMap_append, List.flatMap_cons, hc']
    have e1 : P1.flatMap (chainOf (S.up (P1 ++ pg' :: P2) sp')) = P1.flatMap (chainOf S) := by
      rw [List.flatMap_def, List.flatMap_def, List.map_congr_left fun q hq => (o q (List.mem_append_left _ hq)).1]
    have e2 : P2.flatMap (chainOf (S.up (P1 ++ pg' :: P2) sp')) = P2.flatMap (chainOf S) := by
      rw [List.flatMap_def, List.flatMap_def, List.map_congr_left fun q hq => (o q (List.mem_append_right _ hq)).1]
    rw [e1, e2]
    obtain ⟨d1, d2, d3⟩ := List.nodup_append.mp d
    obtain ⟨d4, d5, d6⟩ := List.nodup_append.mp d2
    refine List.nodup_append.mpr ⟨d1, List.nodup_append.mpr ⟨hc.nodup, d5, fun x hx y hy z => ?_⟩, fun x hx y hy z => ?_⟩
    · subst z
      obtain ⟨q, hq, hxq⟩ := List.mem_flatMap.mp hy
      exact dj x hx q (List.mem_append_right _ hq) hxq
    · subst z
      rcases List.mem_append.mp hy with hy | hy
      · obtain ⟨q, hq, hxq⟩ := List.mem_flatMap.mp hx
        exact dj x hy q (List.mem_append_left _ hq) hxq
      · exact d3 x hx x (List.mem_append_right _ hy) rfl
  · rcases mem qg hq with rfl | hq
    · exact sz
    · exact h.sz qg (memS qg hq)
  · rcases mem qg hq with rfl | hq
    · exact fl
    · exact h.fl qg (memS qg hq)
  · have hq : (P1 ++ pg' :: P2)[n]? = some qg := hq
    by_cases hn : n = P1.length
    · subst hn
      have : qg = pg' := by simpa using hq.symm
      subst this
      rw [hr']
      exact ⟨hr, hb⟩
    · have hS : S.pages[n]? = some qg ∧ qg ∈ P1 ++ P2 := by
        rw [e]
        by_cases h1 : n < P1.length
        · rw [List.getElem?_append_left h1] at hq ⊢
          exact ⟨hq, List.mem_append_left _ (List.mem_of_getElem? hq)⟩
        · rw [List.getElem?_append_right (by omega)] at hq ⊢
          obtain ⟨k, hk⟩ : ∃ k, n - P1.length = k + 1 := ⟨n - P1.length - 1, by omega⟩
          rw [hk, List.getElem?_cons_succ] at hq ⊢
          exact ⟨hq, List.mem_append_right _ (List.mem_of_getElem? hq)⟩
      rw [(o qg hS.2).2]
      exact h.rs n qg hS.1
/-- .. and all rows, all chains -/
theorem rows_up1 (h : WF S) (e : S.pages = P1 ++ pg :: P2) (oth : ∀ qg ∈ P1 ++ P2, ∀ c ∈ chainOf S qg, sp'[c]? = S.spills[c]?) :
    allRows S = P1.flatMap (rowsOf S) ++ (rowsOf S pg ++ P2.flatMap (rowsOf S)) ∧ allRows (S.up (P1 ++ pg' :: P2) sp') = P1.flatMap (rowsOf S) ++ (rowsOf (S.up (P1 ++ pg' :: P2) sp') pg' ++ P2.flatMap (rowsOf S)) ∧
    chains S = P1.flatMap (chainOf S) ++ (chainOf S pg ++ P2.flatMap (chainOf S)) ∧ chains (S.up (P1 ++ pg' :: P2) sp') = P1.flatMap (chainOf S) ++ (chainOf (S.up (P1 ++ pg' :: P2) sp') pg' ++ P2.flatMap (chainOf S)) := by
  have o := others h e oth (P1 ++ pg' :: P2)
  have e1 : P1.flatMap (chainOf (S.up (P1 ++ pg' :: P2) sp')) = P1.flatMap (chainOf S) := by
    rw [List.flatMap_def, List.flatMap_def, List.map_congr_left fun q hq => (o q (List.mem_append_left _ hq)).1]
  have e2 : P2.flatMap (chainOf (S.up (P1 ++ pg' :: P2) sp')) = P2.flatMap (chainOf S) := by
    rw [List.flatMap_def, List.flatMap_def, List.map_congr_left fun q hq => (o q (List.mem_append_right _ hq)).1]
  have e3 : P1.flatMap (rowsOf (S.up (P1 ++ pg' :: P2) sp')) = P1.flatMap (rowsOf S) := by
    rw [List.flatMap_def, List.flatMap_def, List.map_congr_left fun q hq => (o q (List.mem_append_left _ hq)).2]
  have e4 : P2.flatMap (rowsOf (S.up (P1 ++ pg' :: P2) sp')) = P2.flatMap (rowsOf S) := by
    rw [List.flatMap_def, List.flatMap_def, List.map_congr_left fun q hq => (o q (List.mem_append_right _ hq)).2]
  refine ⟨?_, ?_, ?_, ?_⟩
  · unfold allRows
    rw [e, List.flatMap_append, List.flatMap_cons]
  · show (P1 ++ pg' :: P2).flatMap _ = _
    rw [List.flatMap_append, List.flatMap_cons, e3, e4]
  · unfold chains
    rw [e, List.flatMap_append, List.flatMap_cons]
  · show (P1 ++ pg' :: P2).flatMap _ = _
    rw [List.flatMap_append, List.flatMap_cons, e1, e2]
/-- a cell of no chain is written -/
theorem WF.lone (h : WF S) {c : Nat} {o : Option Cl} (hc : c ∉ chains S) : WF (S.up S.pages (S.spills.set c o)) ∧ allRows (S.up S.pages (S.spills.set c o)) = allRows S ∧ chains (S.up S.pages (S.spills.set c o)) = chains S := by
  have fr : ∀ qg ∈ S.pages, ∀ x ∈ chainOf S qg, (S.spills.set c o)[x]? = S.spills[x]? := fun qg hq x hx => by
    rw [List.getElem?_set_ne]
    intro z
    subst z
    exact hc (List.mem_flatMap.mpr ⟨qg, hq, hx⟩)
  have e1 : ∀ qg ∈ S.pages, chainOf (S.up S.pages (S.spills.set c o)) qg = chainOf S qg := fun qg hq => Ch.of_chain (S := S.up S.pages (S.spills.set c o)) ((h.ch qg hq).frame (fr qg hq))
  have e2 : ∀ qg ∈ S.pages, rowsOf (S.up S.pages (S.spills.set c o)) qg = rowsOf S qg := fun qg hq => by
    unfold rowsOf
    rw [e1 qg hq]
    congr 1
    exact List.map_congr_left fun x hx => cellRow_eq (fr qg hq x hx)
  have e3 : chains (S.up S.pages (S.spills.set c o)) = chains S := by
    unfold chains
    rw [List.flatMap_def, List.flatMap_def]
    exact congrArg List.flatten (List.map_congr_left e1)
  refine ⟨⟨h.np, h.pn, by show (S.spills.set c o).length = _; rw [List.length_set]; exact h.ns, h.sp, h.rm, h.wh, h.rise, h.fb, fun qg hq => ?_, by rw [e3]; exact h.dj, h.sz, h.fl, fun n qg hq => ?_⟩, ?_, e3⟩
  · rw [e1 qg hq]
    exact (h.ch qg hq).frame (fr qg hq)
  · rw [e2 qg (List.mem_of_getElem? hq)]
    exact h.rs n qg hq
  · unfold allRows
    rw [List.flatMap_def, List.flatMap_def]
    exact congrArg List.flatten (List.map_congr_left e2)
end
/-- what else changes, changes nothing of it -/
theorem WF.ext {S S' : FS} (h : WF S) (h1 : S'.room = S.room) (h2 : S'.spare = S.spare) (h3 : S'.fences = S.fences) (h4 : S'.pages = S.pages) (h5 : S'.spills = S.spills) (h6 : S'.which < 2) : WF S' := by
  have e1 : chainOf S' = chainOf S := by
    funext pg
    unfold chainOf
    rw [h5]
  have e2 : rowsOf S' = rowsOf S := by
    funext pg
    unfold rowsOf
    rw [e1]
    congr 1
    exact List.map_congr_left fun c _ => cellRow_eq (by rw [h5])
  refine ⟨by rw [h4, h3]; exact h.np, by rw [h4]; exact h.pn, by rw [h5, h2]; exact h.ns, by rw [h2]; exact h.sp, by rw [h1]; exact h.rm, h6, by rw [h3]; exact h.rise, by rw [h3]; exact h.fb, by rw [h4, h5, e1]; exact h.ch, ?_, by rw [h4, h1]; exact h.sz, by rw [h4, h1]; exact h.fl, by rw [h4, h3, e2]; exact h.rs⟩
  unfold chains
  rw [h4, e1]
  exact h.dj
end Sp

set_option Elab.async false
set_option linter.all false
set_option maxRecDepth 100000
set_option maxHeartbeats 4000000
/-! Rows by rising keys: a row comes, a row goes. -/
namespace Sp
/-- a row comes, in the place of one of its key if there is one -/
def insR (r : Row) (rs : List Row) : List Row := rs.filter (fun x => decide (x.1 < r.1)) ++ r :: rs.filter (fun x => decide (r.1 < x.1))
def delR (k : Int) (rs : List Row) : List Row := rs.filter fun x => decide (x.1 ≠ k)
theorem mem_insR {r x : Row} {rs : List Row} : x ∈ insR r rs ↔ x = r ∨ (x ∈ rs ∧ x.1 ≠ r.1) := by
  unfold insR
  simp only [List.mem_append, List.mem_cons, List.mem_filter, decide_eq_true_eq]
  constructor
  · rintro (⟨h1, h2⟩ | h | ⟨h1, h2⟩)
    · exact .inr ⟨h1, by omega⟩
    · exact .inl h
    · exact .inr ⟨h1, by omega⟩
  · rintro (h | ⟨h1, h2⟩)
    · exact .inr (.inl h)
    · by_cases h3 : x.1 < r.1
      · exact .inl ⟨h1, h3⟩
      · exact .inr (.inr ⟨h1, by omega⟩)
theorem mem_delR {k : Int} {x : Row} {rs : List Row} : x ∈ delR k rs ↔ x ∈ rs ∧ x.1 ≠ k := by
  unfold delR
  simp only [List.mem_filter, decide_eq_true_eq]
theorem Rise.ins {r : Row} {rs : List Row} (h : Rise rs) : Rise (insR r rs) := by
  unfold insR
  refine List.pairwise_append.mpr ⟨h.filter _, List.pairwise_cons.mpr ⟨fun x hx => ?_, h.filter _⟩, fun x hx y hy => ?_⟩
  · simpa using (List.mem_filter.mp hx).2
  · have h1 : x.1 < r.1 := by simpa using (List.mem_filter.mp hx).2
    rcases List.mem_cons.mp hy with rfl | hy
    · exact h1
    · have h2 : r.1 < y.1 := by simpa using (List.mem_filter.mp hy).2
      omega
theorem Rise.del {k : Int} {rs : List Row} (h : Rise rs) : Rise (delR k rs) := h.filter _
theorem Rise.nodupK {rs : List Row} (h : Rise rs) {x y : Row} (hx : x ∈ rs) (hy : y ∈ rs) (e : x.1 = y.1) : x = y := by
  induction rs with
  | nil => cases hx
  | cons z rs ih =>
    obtain ⟨h1, h2⟩ := List.pairwise_cons.mp h
    rcases List.mem_cons.mp hx with ex | hx <;> rcases List.mem_cons.mp hy with ey | hy
    · rw [ex, ey]
    · have := h1 y hy
      rw [← ex] at this
      omega
    · have := h1 x hx
      rw [← ey] at this
      omega
    · exact ih h2 hx hy
theorem rise_ext : ∀ {a b : List Row}, Rise a → Rise b → (∀ x, x ∈ a ↔ x ∈ b) → a = b
  | [], [], _, _, _ => rfl
  | [], y :: b, _, _, h => by
    have := (h y).mpr List.mem_cons_self
    cases this
  | x :: a, [], _, _, h => by
    have := (h x).mp List.mem_cons_self
    cases this
  | x :: a, y :: b, ha, hb, h => by
    obtain ⟨a1, a2⟩ := List.pairwise_cons.mp ha
    obtain ⟨b1, b2⟩ := List.pairwise_cons.mp hb
    have exy : x = y := by
      rcases List.mem_cons.mp ((h x).mp List.mem_cons_self) with e | hx
      · exact e
      · rcases List.mem_cons.mp ((h y).mpr List.mem_cons_self) with e | hy
        · exact e.symm
        · have := b1 x hx
          have := a1 y hy
          omega
    subst exy
    refine congrArg _ (rise_ext a2 b2 fun z => ?_)
    constructor
    · intro hz
      rcases List.mem_cons.mp ((h z).mp (List.mem_cons_of_mem _ hz)) with rfl | hz2
      · have := a1 z hz
        omega
      · exact hz2
    · intro hz
      rcases List.mem_cons.mp ((h z).mpr (List.mem_cons_of_mem _ hz)) with rfl | hz2
      · have := b1 z hz
        omega
      · exact hz2
/-- .. in the midst of others -/
theorem insR_mid {r : Row} {A M B : List Row} (hA : ∀ x ∈ A, x.1 < r.1) (hB : ∀ x ∈ B, r.1 < x.1) : insR r (A ++ (M ++ B)) = A ++ (insR r M ++ B) := by
  unfold insR
  have f1 : A.filter (fun x => decide (x.1 < r.1)) = A := List.filter_eq_self.mpr fun x hx => by simpa using hA x hx
  have f2 : A.filter (fun x => decide (r.1 < x.1)) = [] := List.filter_eq_nil_iff.mpr fun x hx => by
    have := hA x hx
    simp
    omega
  have f3 : B.filter (fun x => decide (x.1 < r.1)) = [] := List.filter_eq_nil_iff.mpr fun x hx => by
    have := hB x hx
    simp
    omega
  have f4 : B.filter (fun x => decide (r.1 < x.1)) = B := List.filter_eq_self.mpr fun x hx => by simpa using hB x hx
  simp only [List.filter_append, f1, f2, f3, f4, List.append_nil, List.nil_append, List.append_assoc, List.cons_append]
theorem delR_mid {k : Int} {A M B : List Row} (hA : ∀ x ∈ A, x.1 ≠ k) (hB : ∀ x ∈ B, x.1 ≠ k) : delR k (A ++ (M ++ B)) = A ++ (delR k M ++ B) := by
  unfold delR
  have f1 : A.filter (fun x => decide (x.1 ≠ k)) = A := List.filter_eq_self.mpr fun x hx => by simpa using hA x hx
  have f2 : B.filter (fun x => decide (x.1 ≠ k)) = B := List.filter_eq_self.mpr fun x hx => by simpa using hB x hx
  rw [List.filter_append, List.filter_append, f1, f2]
theorem delR_self {k : Int} {rs : List Row} (h : ∀ x ∈ rs, x.1 ≠ k) : delR k rs = rs := List.filter_eq_self.mpr fun x hx => by simpa using h x hx
/-- the lesser ones stand first -/
theorem rise_take {k : Int} : ∀ {rs : List Row}, Rise rs → rs.take (rs.filter fun x => decide (x.1 < k)).length = rs.filter (fun x => decide (x.1 < k)) ∧ rs.drop (rs.filter fun x => decide (x.1 < k)).length = rs.filter (fun x => decide (¬ x.1 < k))
  | [], _ => ⟨rfl, rfl⟩
  | r :: rs, h => by
    obtain ⟨h1, h2⟩ := List.pairwise_cons.mp h
    obtain ⟨e1, e2⟩ := rise_take (k := k) h2
    by_cases hr : r.1 < k
    · rw [List.filter_cons_of_pos (by simpa using hr), List.filter_cons_of_neg (by simpa using hr)]
      simp only [List.length_cons, List.take_succ_cons, List.drop_succ_cons]
      exact ⟨congrArg _ e1, e2⟩
    · have f : rs.filter (fun x => decide (x.1 < k)) = [] := List.filter_eq_nil_iff.mpr fun x hx => by
        have := h1 x hx
        simp
        omega
      have f2 : rs.filter (fun x => decide (¬ x.1 < k)) = rs := List.filter_eq_self.mpr fun x hx => by
        have := h1 x hx
        simp
        omega
      rw [List.filter_cons_of_neg (by simpa using hr), List.filter_cons_of_pos (by simpa using hr), f, f2]
      exact ⟨rfl, rfl⟩
theorem rise_ins_at {r : Row} {rs : List Row} (h : Rise rs) (hk : ∀ x ∈ rs, x.1 ≠ r.1) : rs.take (rs.filter fun x => decide (x.1 < r.1)).length ++ r :: rs.drop (rs.filter fun x => decide (x.1 < r.1)).length = insR r rs := by
  obtain ⟨e1, e2⟩ := rise_take (k := r.1) h
  rw [e1, e2]
  unfold insR
  congr 2
  refine List.filter_congr fun x hx => ?_
  have := hk x hx
  by_cases h : r.1 < x.1
  · rw [decide_eq_true h, decide_eq_true (by omega)]
  · rw [decide_eq_false h, decide_eq_false (by omega)]
theorem rise_last {rs : List Row} {l : Row} (h : Rise rs) (hl : rs.getLast? = some l) : rs = rs.dropLast ++ [l] ∧ ∀ x ∈ rs.dropLast, x.1 < l.1 := by
  have hne : rs ≠ [] := by
    intro z
    subst z
    cases hl
  have e : rs = rs.dropLast ++ [l] := by
    have h4 := List.dropLast_concat_getLast hne
    have h5 : rs.getLast hne = l := by
      rw [List.getLast?_eq_some_getLast hne] at hl
      exact Option.some.inj hl
    rw [h5] at h4
    exact h4.symm
  refine ⟨e, fun x hx => ?_⟩
  unfold Rise at h
  rw [e] at h
  exact (List.pairwise_append.mp h).2.2 x hx l (by simp)
theorem atP_mono {fs : List Int} {a b : Int} (h : a ≤ b) : atP fs a ≤ atP fs b := by
  unfold atP
  induction fs with
  | nil => exact Nat.le_refl _
  | cons f fs ih =>
    by_cases h1 : f < a
    · have h2 : f < b := by omega
      rw [List.filter_cons_of_pos (by simpa using h1), List.filter_cons_of_pos (by simpa using h2)]
      exact Nat.succ_le_succ ih
    · rw [List.filter_cons_of_neg (by simpa using h1)]
      by_cases h2 : f < b
      · rw [List.filter_cons_of_pos (by simpa using h2)]
        exact Nat.le_succ_of_le ih
      · rw [List.filter_cons_of_neg (by simpa using h2)]
        exact ih
theorem atP_key {fs : List Int} {a b : Int} (h : atP fs a < atP fs b) : a < b := by
  by_cases z : a < b
  · exact z
  · have := atP_mono (fs := fs) (show b ≤ a by omega)
    omega
theorem atP_le {fs : List Int} {k : Int} : atP fs k ≤ fs.length := List.length_filter_le _ _
/-! ### all rows rise -/
theorem WF.sep {S : FS} (h : WF S) {P1 P2 : List Pg} {pg : Pg} (e : S.pages = P1 ++ pg :: P2) : (∀ x ∈ P1.flatMap (rowsOf S), atP S.fences x.1 < P1.length ∧ RowOk x) ∧ (∀ x ∈ P2.flatMap (rowsOf S), P1.length < atP S.fences x.1 ∧ RowOk x) := by
  constructor
  · intro x hx
    obtain ⟨q, hq, hxq⟩ := List.mem_flatMap.mp hx
    obtain ⟨n, hn, hqn⟩ := List.getElem_of_mem hq
    have := h.rs n q (by rw [e, List.getElem?_append_left hn, List.getElem?_eq_getElem hn, hqn])
    have := this.2 x hxq
    exact ⟨by omega, this.2⟩
  · intro x hx
    obtain ⟨q, hq, hxq⟩ := List.mem_flatMap.mp hx
    obtain ⟨n, hn, hqn⟩ := List.getElem_of_mem hq
    have := h.rs (P1.length + 1 + n) q (by
      rw [e, List.getElem?_append_right (by omega)]
      have e2 : P1.length + 1 + n - P1.length = n + 1 := by omega
      rw [e2, List.getElem?_cons_succ, List.getElem?_eq_getElem hn, hqn])
    have := this.2 x hxq
    exact ⟨by omega, this.2⟩
theorem rise_flat {S : FS} : ∀ (ps : List Pg) (m : Nat), (∀ (n : Nat) pg, ps[n]? = some pg → Rise (rowsOf S pg) ∧ ∀ r ∈ rowsOf S pg, atP S.fences r.1 = m + n) → Rise (ps.flatMap (rowsOf S))
  | [], _, _ => List.Pairwise.nil
  | p :: ps, m, h => by
    rw [List.flatMap_cons]
    have h0 := h 0 p rfl
    refine List.pairwise_append.mpr ⟨h0.1, rise_flat ps (m + 1) (fun n pg hn => ?_), fun x hx y hy => ?_⟩
    · have := h (n + 1) pg (by simpa using hn)
      exact ⟨this.1, fun r hr => by have := this.2 r hr; omega⟩
    · obtain ⟨q, hq, hyq⟩ := List.mem_flatMap.mp hy
      obtain ⟨n, hn, hqn⟩ := List.getElem_of_mem hq
      have h1 := (h (n + 1) q (by rw [List.getElem?_cons_succ, List.getElem?_eq_getElem hn, hqn])).2 y hyq
      have h2 := h0.2 x hx
      exact atP_key (fs := S.fences) (by omega)
theorem WF.all {S : FS} (h : WF S) : Rise (allRows S) ∧ ∀ r ∈ allRows S, RowOk r := by
  refine ⟨rise_flat S.pages 0 fun n pg hn => ⟨(h.rs n pg hn).1, fun r hr => by have := ((h.rs n pg hn).2 r hr).1; omega⟩, fun r hr => ?_⟩
  obtain ⟨q, hq, hxq⟩ := List.mem_flatMap.mp hr
  obtain ⟨n, hn, hqn⟩ := List.getElem_of_mem hq
  exact ((h.rs n q (by rw [List.getElem?_eq_getElem hn, hqn])).2 r hxq).2
end Sp

set_option Elab.async false
set_option linter.all false
set_option maxRecDepth 100000
set_option maxHeartbeats 4000000
/-! Writes; a put. -/
namespace Sp
inductive Wr where
  | page (n : Nat) (p : Pg)
  | spill (n : Nat) (c : Option Cl)
  | blank
  | head (fs : List Int) (ps : List Pg)
/-- a write -/
def ap (S : FS) : Wr → FS
  | .page n p => S.up (S.pages.set n p) S.spills
  | .spill n c => S.up S.pages (S.spills.set n c)
  | .blank => S
  | .head fs ps => { S with fences := fs, pages := ps, which := 1 - S.which }
def apL (S : FS) (ws : List Wr) : FS := ws.foldl ap S
/-- writes that bring a file from one list of rows to another -/
structure Goes (S : FS) (ws : List Wr) (rs : List Row) : Prop where
  wf : ∀ j ≤ ws.length, WF (apL S (ws.take j))
  t : ∃ t ≤ ws.length, ∀ j ≤ ws.length, allRows (apL S (ws.take j)) = if j < t then allRows S else rs
  whole : Whole S → Whole (apL S ws)
theorem Goes.zero {S : FS} (h : WF S) : Goes S [] (allRows S) := by
  refine ⟨fun j hj => ?_, ⟨0, Nat.le_refl _, fun j hj => ?_⟩, fun w => w⟩
  · have : j = 0 := by simpa using hj
    subst this
    exact h
  · have : j = 0 := by simpa using hj
    subst this
    rfl
theorem Goes.one {S : FS} {x : Wr} {rs : List Row} (h : WF S) (h1 : WF (ap S x)) (r1 : allRows (ap S x) = rs) (w : Whole S → Whole (ap S x)) : Goes S [x] rs := by
  refine ⟨fun j hj => ?_, ⟨1, Nat.le_refl _, fun j hj => ?_⟩, w⟩
  · match j, hj with
    | 0, _ => exact h
    | 1, _ => exact h1
  · match j, hj with
    | 0, _ => rfl
    | 1, _ => exact r1
theorem Goes.two {S : FS} {x y : Wr} {rs : List Row} (h : WF S) (h1 : WF (ap S x)) (r1 : allRows (ap S x) = allRows S ∨ allRows (ap S x) = rs) (h2 : WF (ap (ap S x) y)) (r2 : allRows (ap (ap S x) y) = rs) (w : Whole S → Whole (ap (ap S x) y)) : Goes S [x, y] rs := by
  refine ⟨fun j hj => ?_, ?_, w⟩
  · match j, hj with
    | 0, _ => exact h
    | 1, _ => exact h1
    | 2, _ => exact h2
  · rcases r1 with r1 | r1
    · refine ⟨2, Nat.le_refl _, fun j hj => ?_⟩
      match j, hj with
      | 0, _ => rfl
      | 1, _ => exact r1
      | 2, _ => exact r2
    · refine ⟨1, by simp, fun j hj => ?_⟩
      match j, hj with
      | 0, _ => rfl
      | 1, _ => exact r1
      | 2, _ => exact r2
def linkOf (S : FS) (c : Nat) : Option Nat := match S.spills[c]? with
  | some (some (_, l)) => l
  | _ => none
/-- what is linked behind a chain's first so many -/
def linkW (S : FS) (k : Int) (at_ : Nat) (l : Option Nat) : Wr := match at_ with
  | 0 => .page (atP S.fences k) ((pageAt S k).1, l)
  | i + 1 => .spill ((chainOf S (pageAt S k)).getD i 0) (some (cellRow S ((chainOf S (pageAt S k)).getD i 0), l))
inductive Tl where
  | again
  | new
  | full
deriving DecidableEq
def putT (S : FS) (k w : Int) : Tl × List Wr :=
  if (pageAt S k).1.any (fun r => decide (r.1 = k)) then (.again, [.page (atP S.fences k) (insR (k, w) (pageAt S k).1, (pageAt S k).2)])
  else match (chainOf S (pageAt S k)).find? (fun c => decide ((cellRow S c).1 = k)) with
  | some c => (.again, [.spill c (some ((k, w), linkOf S c))])
  | none => if (pageAt S k).1.length < S.room then (.new, [.page (atP S.fences k) (insR (k, w) (pageAt S k).1, (pageAt S k).2)])
    else match (freeCells S).head?, (pageAt S k).1.getLast? with
    | some f, some l => if k < l.1 then (.new, [.spill f (some (l, (pageAt S k).2)), .page (atP S.fences k) (insR (k, w) (pageAt S k).1.dropLast, some f)])
      else (.new, [.spill f (some ((k, w), (chainOf S (pageAt S k))[((chainOf S (pageAt S k)).filter fun c => decide ((cellRow S c).1 < k)).length]?)), linkW S k ((chainOf S (pageAt S k)).filter fun c => decide ((cellRow S c).1 < k)).length (some f)])
    | _, _ => (.full, [])
/-! ### chains with one more, one less -/
theorem Ch.ins {sp sp' : List (Option Cl)} {f : Nat} : ∀ {l : Option Nat} {ch : List Nat} (i : Nat) (hi : i < ch.length), Ch sp l ch → (∃ r, sp'[ch[i]]? = some (some (r, some f))) → (∃ r, sp'[f]? = some (some (r, ch[i + 1]?))) → (∀ c ∈ ch, c ≠ ch[i] → sp'[c]? = sp[c]?) → ch.Nodup →
    Ch sp' l (ch.take (i + 1) ++ f :: ch.drop (i + 1))
  | _, c :: ch, 0, _, .cons h t, ⟨r, hr⟩, ⟨r2, hr2⟩, o, nd => by
    obtain ⟨n1, n2⟩ := List.nodup_cons.mp nd
    refine .cons hr (.cons hr2 ?_)
    have e := t.head
    have t2 : Ch sp' _ ch := t.frame fun x hx => o x (List.mem_cons_of_mem _ hx) fun z => n1 (by rw [show c = x from z.symm]; exact hx)
    rw [e] at t2
    simpa using t2
  | _, c :: ch, i + 1, hi, .cons h t, ⟨r, hr⟩, ⟨r2, hr2⟩, o, nd => by
    obtain ⟨n1, n2⟩ := List.nodup_cons.mp nd
    have hi' : i < ch.length := by simpa using hi
    have hm : ch[i] ∈ ch := List.getElem_mem hi'
    refine .cons ((o c List.mem_cons_self fun z => n1 (by rw [show c = ch[i] from z]; exact hm)).trans h) ?_
    have := Ch.ins i hi' t ⟨r, by simpa using hr⟩ ⟨r2, by simpa using hr2⟩ (fun x hx ne => o x (List.mem_cons_of_mem _ hx) (by simpa using ne)) n2
    simpa using this
theorem Ch.del {sp sp' : List (Option Cl)} : ∀ {l : Option Nat} {ch : List Nat} (i : Nat) (hi : i < ch.length), Ch sp l ch → (∃ r, sp'[ch[i]]? = some (some (r, ch[i + 2]?))) → (∀ c ∈ ch, c ≠ ch[i] → ch[i + 1]? ≠ some c → sp'[c]? = sp[c]?) → ch.Nodup →
    Ch sp' l (ch.take (i + 1) ++ ch.drop (i + 2))
  | _, c :: ch, 0, _, .cons h t, ⟨r, hr⟩, o, nd => by
    obtain ⟨n1, n2⟩ := List.nodup_cons.mp nd
    refine .cons hr ?_
    cases t with
    | nil => exact .nil
    | @cons d r2 l2 ch h2 t2 =>
      obtain ⟨n3, n4⟩ := List.nodup_cons.mp n2
      have t3 : Ch sp' l2 ch := t2.frame fun x hx => o x (List.mem_cons_of_mem _ (List.mem_cons_of_mem _ hx)) (fun z => n1 (by rw [show c = x from z.symm]; exact List.mem_cons_of_mem _ hx)) fun z => n3 (by
        have z : d = x := by simpa using z
        rw [z]
        exact hx)
      have e := t2.head
      rw [e] at t3
      simpa using t3
  | _, c :: ch, i + 1, hi, .cons h t, ⟨r, hr⟩, o, nd => by
    obtain ⟨n1, n2⟩ := List.nodup_cons.mp nd
    have hi' : i < ch.length := by simpa using hi
    have hm : ch[i] ∈ ch := List.getElem_mem hi'
    refine .cons ((o c List.mem_cons_self (fun z => n1 (by rw [show c = ch[i] from z]; exact hm)) fun z => n1 ?_).trans h) ?_
    · have z : ch[i + 1]? = some c := by simpa using z
      exact List.mem_of_getElem? z
    · have := Ch.del i hi' t ⟨r, by simpa using hr⟩ (fun x hx ne ne2 => o x (List.mem_cons_of_mem _ hx) (by simpa using ne) (by simpa using ne2)) n2
      simpa using this
/-! ### facts for all deeds -/
section
variable {S : FS} {k w : Int}
theorem WF.at_ (h : WF S) (k : Int) : S.pages[atP S.fences k]? = some (pageAt S k) := by
  have h1 := h.np
  have h2 : atP S.fences k ≤ S.fences.length := atP_le
  have : atP S.fences k < S.pages.length := by omega
  simp [pageAt, this]
theorem free_mem {f : Nat} (h : WF S) (hf : f ∈ freeCells S) : S.spills[f]? = some none ∧ f ∉ chains S := by
  unfold freeCells at hf
  obtain ⟨h1, h2⟩ := List.mem_filter.mp hf
  have h1 : f < S.spills.length := by
    rw [h.ns]
    simpa using h1
  have h3 : S.spills[f]? = some none := by
    rw [List.getElem?_eq_getElem h1]
    rw [List.getD_eq_getElem?_getD, List.getElem?_eq_getElem h1] at h2
    simpa using h2
  refine ⟨h3, fun hc => ?_⟩
  obtain ⟨q, hq, hx⟩ := List.mem_flatMap.mp hc
  obtain ⟨r, l, e⟩ := (h.ch q hq).mem f hx
  rw [h3] at e
  cases e
theorem Whole.mono {S' : FS} (hw : Whole S) (hc : ∀ c ∈ chains S, c ∈ chains S') (hs : ∀ c x, S'.spills[c]? = some (some x) → c ∈ chains S' ∨ ∃ y, S.spills[c]? = some (some y)) : Whole S' := fun c x hx => by
  rcases hs c x hx with h | ⟨y, h⟩
  · exact h
  · exact hc c (hw c y h)
theorem Rise.keys {a b : List Row} (e : a.map (·.1) = b.map (·.1)) (h : Rise a) : Rise b := by
  have h1 : (a.map (·.1)).Pairwise (· < ·) := List.pairwise_map.mpr h
  rw [e] at h1
  exact List.pairwise_map.mp h1
theorem len_insR_new {r : Row} {rs : List Row} (h : ∀ x ∈ rs, x.1 ≠ r.1) : (insR r rs).length = rs.length + 1 := by
  have : ∀ l : List Row, (∀ x ∈ l, x.1 ≠ r.1) → (l.filter fun x => decide (x.1 < r.1)).length + (l.filter fun x => decide (r.1 < x.1)).length = l.length := by
    intro l hl
    induction l with
    | nil => rfl
    | cons x l ih =>
      have h0 := hl x List.mem_cons_self
      have ih := ih fun y hy => hl y (List.mem_cons_of_mem _ hy)
      by_cases hx : x.1 < r.1
      · rw [List.filter_cons_of_pos (by simpa using hx), List.filter_cons_of_neg (by simp; omega)]
        simp only [List.length_cons]
        omega
      · rw [List.filter_cons_of_neg (by simpa using hx), List.filter_cons_of_pos (by simp; omega)]
        simp only [List.length_cons]
        omega
  have := this rs h
  unfold insR
  simp only [List.length_append, List.length_cons]
  omega
theorem len_insR_again {r x : Row} {rs : List Row} (hr : Rise rs) (hx : x ∈ rs) (e : x.1 = r.1) : (insR r rs).length = rs.length := by
  have h1 : insR r rs = insR r (delR r.1 rs) := rise_ext hr.ins hr.del.ins fun y => by
    rw [mem_insR, mem_insR, mem_delR]
    constructor
    · rintro (h | ⟨h, h2⟩)
      · exact .inl h
      · exact .inr ⟨⟨h, h2⟩, h2⟩
    · rintro (h | ⟨⟨h, h2⟩, _⟩)
      · exact .inl h
      · exact .inr ⟨h, h2⟩
  rw [h1, len_insR_new fun y hy => (mem_delR.mp hy).2]
  clear h1
  induction rs with
  | nil => cases hx
  | cons z rs ih =>
    obtain ⟨h1, h2⟩ := List.pairwise_cons.mp hr
    unfold delR
    rcases List.mem_cons.mp hx with ez | hx
    · subst ez
      rw [List.filter_cons_of_neg (by simpa using e)]
      have : rs.filter (fun y => decide (y.1 ≠ r.1)) = rs := delR_self fun y hy => by
        have := h1 y hy
        omega
      rw [this, List.length_cons]
    · have := h1 x hx
      rw [List.filter_cons_of_pos (by simp; omega)]
      have := ih h2 hx
      unfold delR at this
      simp only [List.length_cons]
      omega
end
end Sp

set_option Elab.async false
set_option linter.all false
set_option maxRecDepth 100000
set_option maxHeartbeats 4000000
/-! What a put comes to. -/
namespace Sp
section
variable {S : FS} {k w : Int}
/-- where a key belongs -/
structure Here (S : FS) (k : Int) (P1 P2 : List Pg) (pg : Pg) : Prop where
  e : S.pages = P1 ++ pg :: P2
  n : P1.length = atP S.fences k
  set : ∀ q, S.pages.set (atP S.fences k) q = P1 ++ q :: P2
  at_ : pageAt S k = pg
  rise : Rise (pg.1 ++ (chainOf S pg).map (cellRow S))
  ok : ∀ r ∈ pg.1 ++ (chainOf S pg).map (cellRow S), atP S.fences r.1 = P1.length ∧ RowOk r
  ch : Ch S.spills pg.2 (chainOf S pg)
  nd : (chainOf S pg).Nodup
  sz : pg.1.length ≤ S.room
  fl : pg.2 ≠ none → pg.1.length = S.room
  dj : ∀ c ∈ chainOf S pg, ∀ qg ∈ P1 ++ P2, c ∉ chainOf S qg
  lo : ∀ x ∈ P1.flatMap (rowsOf S), x.1 < k
  hi : ∀ x ∈ P2.flatMap (rowsOf S), k < x.1
  mem : ∀ qg ∈ P1 ++ P2, ∀ c ∈ chainOf S qg, c ∈ chains S
theorem WF.here (h : WF S) (k : Int) : ∃ P1 P2, Here S k P1 P2 (pageAt S k) := by
  have ha := h.at_ k
  obtain ⟨P1, P2, e, n, set⟩ := split_at ha
  have hm : pageAt S k ∈ S.pages := List.mem_of_getElem? ha
  obtain ⟨r1, r2⟩ := h.rs _ _ ha
  obtain ⟨s1, s2⟩ := h.sep e
  have d := h.dj
  unfold chains at d
  rw [e, List.flatMap_append, List.flatMap_cons] at d
  obtain ⟨d1, d2, d3⟩ := List.nodup_append.mp d
  obtain ⟨d4, d5, d6⟩ := List.nodup_append.mp d2
  refine ⟨P1, P2, ⟨e, n, set, rfl, r1, fun r hr => ⟨by rw [n]; exact (r2 r hr).1, (r2 r hr).2⟩, h.ch _ hm, (h.ch _ hm).nodup, h.sz _ hm, h.fl _ hm, fun c hc qg hq hx => ?_, fun x hx => ?_, fun x hx => ?_, fun qg hq c hc => ?_⟩⟩
  · rcases List.mem_append.mp hq with hq | hq
    · exact d3 c (List.mem_flatMap.mpr ⟨qg, hq, hx⟩) c (List.mem_append_left _ hc) rfl
    · exact d6 c hc c (List.mem_flatMap.mpr ⟨qg, hq, hx⟩) rfl
  · have := (s1 x hx).1
    exact atP_key (fs := S.fences) (by omega)
  · have := (s2 x hx).1
    exact atP_key (fs := S.fences) (by omega)
  · refine List.mem_flatMap.mpr ⟨qg, ?_, hc⟩
    rw [e]
    rcases List.mem_append.mp hq with hq | hq
    · exact List.mem_append_left _ hq
    · exact List.mem_append_right _ (List.mem_cons_of_mem _ hq)
theorem Here.chm {P1 P2 : List Pg} {pg : Pg} (H : Here S k P1 P2 pg) : ∀ c ∈ chainOf S pg, c ∈ chains S := fun c hc => List.mem_flatMap.mpr ⟨pg, by rw [H.e]; simp, hc⟩
/-- the page alone is written -/
theorem Here.page {P1 P2 : List Pg} {pg pg' : Pg} {rs : List Row} (h : WF S) (H : Here S k P1 P2 pg) (e2 : pg'.2 = pg.2) (sz : pg'.1.length ≤ S.room) (fl : pg'.2 ≠ none → pg'.1.length = S.room)
    (hr : Rise (pg'.1 ++ (chainOf S pg).map (cellRow S))) (hb : ∀ r ∈ pg'.1, atP S.fences r.1 = P1.length ∧ RowOk r) (hrs : P1.flatMap (rowsOf S) ++ ((pg'.1 ++ (chainOf S pg).map (cellRow S)) ++ P2.flatMap (rowsOf S)) = rs) :
    Goes S [.page (atP S.fences k) pg'] rs := by
  have oth : ∀ qg ∈ P1 ++ P2, ∀ c ∈ chainOf S qg, S.spills[c]? = S.spills[c]? := fun _ _ _ _ => rfl
  have hc : Ch S.spills pg'.2 (chainOf S pg) := e2 ▸ H.ch
  obtain ⟨w1, w2, w3⟩ := h.up1 (sp' := S.spills) (pg' := pg') (ns := chainOf S pg) H.e rfl oth hc H.dj sz fl hr fun r hr => by
    rcases List.mem_append.mp hr with hr | hr
    · exact hb r hr
    · exact H.ok r (List.mem_append_right _ hr)
  obtain ⟨a1, a2, a3, a4⟩ := rows_up1 (pg' := pg') (sp' := S.spills) h H.e oth
  have ea : ap S (.page (atP S.fences k) pg') = S.up (P1 ++ pg' :: P2) S.spills := by
    show S.up (S.pages.set (atP S.fences k) pg') S.spills = _
    rw [H.set]
  refine Goes.one h (ea ▸ w1) ?_ fun hw => ?_
  · rw [ea, a2, w3]
    exact hrs
  · rw [ea]
    refine hw.mono (fun c hc => ?_) fun c x hx => .inr ⟨x, hx⟩
    rw [a4, w2, ← a3]
    exact hc
theorem insR_front {r : Row} {A B : List Row} (hA : ∀ x ∈ A, x.1 < r.1) : insR r (A ++ B) = A ++ insR r B := by
  have := insR_mid (r := r) (A := A) (M := B) (B := []) hA (by simp)
  simpa using this
theorem insR_back {r : Row} {A B : List Row} (hB : ∀ x ∈ B, r.1 < x.1) : insR r (A ++ B) = insR r A ++ B := by
  have := insR_mid (r := r) (A := []) (M := A) (B := B) (by simp) hB
  simpa using this
/-- what holds of a put -/
theorem put_goes (h : WF S) (hk : RowOk (k, w)) : Goes S (putT S k w).2 (if (putT S k w).1 = .full then allRows S else insR (k, w) (allRows S)) ∧ ((putT S k w).1 = .full → (putT S k w).2 = []) := by
  obtain ⟨P1, P2, H⟩ := h.here k
  generalize hpg : pageAt S k = pg at H
  have hall : insR (k, w) (allRows S) = P1.flatMap (rowsOf S) ++ (insR (k, w) (pg.1 ++ (chainOf S pg).map (cellRow S)) ++ P2.flatMap (rowsOf S)) := by
    have : allRows S = P1.flatMap (rowsOf S) ++ ((pg.1 ++ (chainOf S pg).map (cellRow S)) ++ P2.flatMap (rowsOf S)) := by
      unfold allRows
      conv => lhs; rw [H.e]
      rw [List.flatMap_append, List.flatMap_cons]
      rfl
    rw [this, insR_mid H.lo H.hi]
  obtain ⟨ra, rb, rc⟩ := List.pairwise_append.mp H.rise
  have bel : atP S.fences (k, w).1 = P1.length ∧ RowOk (k, w) := ⟨H.n.symm, hk⟩
  have bins : ∀ (l : List Row), (∀ x ∈ l, x ∈ pg.1) → ∀ r ∈ insR (k, w) l, atP S.fences r.1 = P1.length ∧ RowOk r := fun l hl r hr => by
    rcases mem_insR.mp hr with rfl | ⟨hr, _⟩
    · exact bel
    · exact H.ok r (List.mem_append_left _ (hl r hr))
  unfold putT
  rw [hpg]
  split
  · -- again, on the page
    rename_i hany
    obtain ⟨x, hx, ex⟩ := List.any_eq_true.mp hany
    have ex : x.1 = k := of_decide_eq_true ex
    have hl := len_insR_again (r := (k, w)) ra hx ex
    have hc : ∀ y ∈ (chainOf S pg).map (cellRow S), k < y.1 := fun y hy => by
      have := rc x hx y hy
      omega
    refine ⟨?_, nofun⟩
    rw [if_neg (by nofun), hall]
    refine H.page h rfl (by show (insR (k, w) pg.1).length ≤ _; rw [hl]; exact H.sz) (fun z => by show (insR (k, w) pg.1).length = _; rw [hl]; exact H.fl z) ?_ (bins pg.1 fun _ z => z) ?_
    · show Rise (insR (k, w) pg.1 ++ _)
      rw [← insR_back hc]
      exact H.rise.ins
    · show _ ++ ((insR (k, w) pg.1 ++ _) ++ _) = _
      rw [← insR_back hc]
  · rename_i hany
    have hnp : ∀ x ∈ pg.1, x.1 ≠ k := fun x hx e => hany (List.any_eq_true.mpr ⟨x, hx, decide_eq_true e⟩)
    split
    · -- again, in the chain
      rename_i c hc
      have hcm : c ∈ chainOf S pg := List.mem_of_find?_eq_some hc
      have hck : (cellRow S c).1 = k := of_decide_eq_true (List.find?_some (p := fun c => decide ((cellRow S c).1 = k)) hc)
      obtain ⟨r0, l0, hcell⟩ := H.ch.mem c hcm
      have hlt : c < S.spills.length := (List.getElem?_eq_some_iff.mp hcell).1
      have hlink : linkOf S c = l0 := by
        unfold linkOf
        rw [hcell]
      refine ⟨?_, nofun⟩
      rw [if_neg (by nofun), hall, hlink]
      have oth : ∀ qg ∈ P1 ++ P2, ∀ x ∈ chainOf S qg, (S.spills.set c (some ((k, w), l0)))[x]? = S.spills[x]? := fun qg hq x hx => by
        rw [List.getElem?_set_ne]
        intro z
        subst z
        exact H.dj c hcm qg hq hx
      have hc2 : Ch (S.spills.set c (some ((k, w), l0))) pg.2 (chainOf S pg) := H.ch.relink fun x hx r l e => by
        by_cases q : c = x
        · subst q
          rw [hcell] at e
          cases e
          exact ⟨_, List.getElem?_set_self hlt⟩
        · exact ⟨r, by rw [List.getElem?_set_ne q]; exact e⟩
      have ea : ap S (.spill c (some ((k, w), l0))) = S.up (P1 ++ pg :: P2) (S.spills.set c (some ((k, w), l0))) := by
        show S.up S.pages _ = _
        rw [H.e]
      have cr : ∀ x, cellRow (S.up (P1 ++ pg :: P2) (S.spills.set c (some ((k, w), l0)))) x = if x = c then (k, w) else cellRow S x := fun x => by
        unfold cellRow
        show (match (S.spills.set c (some ((k, w), l0)))[x]? with | some (some (r, _)) => r | _ => (0, 0)) = _
        by_cases q : x = c
        · subst q
          rw [List.getElem?_set_self hlt, if_pos rfl]
        · rw [List.getElem?_set_ne (Ne.symm q), if_neg q]
          try rfl
      have keys : (pg.1 ++ (chainOf S pg).map (cellRow S)).map (·.1) = (pg.1 ++ (chainOf S pg).map (cellRow (S.up (P1 ++ pg :: P2) (S.spills.set c (some ((k, w), l0)))))).map (·.1) := by
        rw [List.map_append, List.map_append, List.map_map, List.map_map]
        congr 1
        refine List.map_congr_left fun x hx => ?_
        show (cellRow S x).1 = (cellRow _ x).1
        rw [cr]
        split
        · rename_i q
          rw [q]
          exact hck
        · rfl
      have hrise : Rise (pg.1 ++ (chainOf S pg).map (cellRow (S.up (P1 ++ pg :: P2) (S.spills.set c (some ((k, w), l0)))))) := H.rise.keys keys
      have hins : pg.1 ++ (chainOf S pg).map (cellRow (S.up (P1 ++ pg :: P2) (S.spills.set c (some ((k, w), l0))))) = insR (k, w) (pg.1 ++ (chainOf S pg).map (cellRow S)) := by
        refine rise_ext hrise H.rise.ins fun y => ?_
        rw [mem_insR]
        constructor
        · intro hy
          rcases List.mem_append.mp hy with hy | hy
          · exact .inr ⟨List.mem_append_left _ hy, hnp y hy⟩
          · obtain ⟨x, hx, rfl⟩ := List.mem_map.mp hy
            rw [cr]
            split
            · exact .inl rfl
            · rename_i q
              refine .inr ⟨List.mem_append_right _ (List.mem_map.mpr ⟨x, hx, rfl⟩), fun z => q ?_⟩
              -- one cell of a key
              have e : cellRow S x = cellRow S c := Rise.nodupK (rs := (chainOf S pg).map (cellRow S)) rb (List.mem_map.mpr ⟨x, hx, rfl⟩) (List.mem_map.mpr ⟨c, hcm, rfl⟩) (by rw [hck]; exact z)
              obtain ⟨i, hi, hxi⟩ := List.getElem_of_mem hx
              obtain ⟨j, hj, hcj⟩ := List.getElem_of_mem hcm
              by_cases hij : i = j
              · subst hij
                rw [← hxi, ← hcj]
              · exfalso
                have pw := List.pairwise_map.mp rb
                rcases Nat.lt_or_gt_of_ne hij with hlt' | hlt'
                · have := List.pairwise_iff_getElem.mp pw i j hi hj hlt'
                  rw [hxi, hcj, e] at this
                  omega
                · have := List.pairwise_iff_getElem.mp pw j i hj hi hlt'
                  rw [hxi, hcj, e] at this
                  omega
        · rintro (hy | ⟨hy, hne⟩)
          · subst hy
            exact List.mem_append_right _ (List.mem_map.mpr ⟨c, hcm, by rw [cr, if_pos rfl]⟩)
          · rcases List.mem_append.mp hy with hy | hy
            · exact List.mem_append_left _ hy
            · obtain ⟨x, hx, rfl⟩ := List.mem_map.mp hy
              refine List.mem_append_right _ (List.mem_map.mpr ⟨x, hx, ?_⟩)
              rw [cr, if_neg]
              intro q
              subst q
              exact hne hck
      obtain ⟨w1, w2, w3⟩ := h.up1 (pg' := pg) (ns := chainOf S pg) H.e (by simp) oth hc2 H.dj H.sz H.fl hrise fun r hr => by
        rw [hins] at hr
        rcases mem_insR.mp hr with rfl | ⟨hr, _⟩
        · exact bel
        · exact H.ok r hr
      obtain ⟨a1, a2, a3, a4⟩ := rows_up1 (pg' := pg) h H.e oth
      refine Goes.one h (ea ▸ w1) ?_ fun hw => ?_
      · rw [ea, a2, w3, hins]
      · rw [ea]
        refine hw.mono (fun x hx => ?_) fun x y hy => ?_
        · rw [a4, w2, ← a3]
          exact hx
        · have hy : (S.spills.set c (some ((k, w), l0)))[x]? = some (some y) := hy
          by_cases q : c = x
          · subst q
            exact .inr ⟨_, hcell⟩
          · rw [List.getElem?_set_ne q] at hy
            exact .inr ⟨y, hy⟩
    · rename_i hfind
      have hnc : ∀ y ∈ (chainOf S pg).map (cellRow S), y.1 ≠ k := fun y hy e => by
        obtain ⟨x, hx, rfl⟩ := List.mem_map.mp hy
        have := List.find?_eq_none.mp hfind x hx
        exact this (decide_eq_true e)
      split
      · -- there is room
        rename_i hroom
        have hpn : pg.2 = none := by
          cases q : pg.2 with
          | none => rfl
          | some l =>
            have := H.fl (by rw [q]; nofun)
            omega
        have hce : chainOf S pg = [] := by
          have := H.ch
          rw [hpn] at this
          generalize chainOf S pg = l at this
          cases this
          rfl
        have hl := len_insR_new (r := (k, w)) (rs := pg.1) hnp
        refine ⟨?_, nofun⟩
        rw [if_neg (by nofun), hall]
        refine H.page h rfl (by show (insR (k, w) pg.1).length ≤ _; omega) (fun z => absurd hpn z) ?_ (bins pg.1 fun _ z => z) ?_
        · show Rise (insR (k, w) pg.1 ++ _)
          rw [hce]
          simpa using Rise.ins (rs := pg.1) ra
        · show _ ++ ((insR (k, w) pg.1 ++ _) ++ _) = _
          rw [hce]
          simp
      · rename_i hroom
        have hfull : pg.1.length = S.room := by have := H.sz; omega
        split
        · rename_i f l hf hlast
          have hfm : f ∈ freeCells S := List.mem_of_head? hf
          obtain ⟨f1, f2⟩ := free_mem h hfm
          have hflt : f < S.spills.length := (List.getElem?_eq_some_iff.mp f1).1
          obtain ⟨el, hll⟩ := rise_last ra hlast
          have hlm : l ∈ pg.1 := List.mem_of_getLast? hlast
          have hfc : f ∉ chainOf S pg := fun z => f2 (H.chm f z)
          split
          · -- the greatest one spills
            rename_i hkl
            refine ⟨?_, nofun⟩
            rw [if_neg (by nofun), hall]
            obtain ⟨b1, b2, b3⟩ := h.lone (c := f) (o := some (l, pg.2)) f2
            obtain ⟨S1, hS1⟩ : ∃ S1, S.up S.pages (S.spills.set f (some (l, pg.2))) = S1 := ⟨_, rfl⟩
            rw [hS1] at b1 b2 b3
            have e1 : ap S (.spill f (some (l, pg.2))) = S1 := hS1
            have p1 : S1.pages = P1 ++ pg :: P2 := by rw [← hS1]; exact H.e
            have s1 : S1.spills = S.spills.set f (some (l, pg.2)) := by rw [← hS1]; rfl
            have frm : ∀ x, x ≠ f → S1.spills[x]? = S.spills[x]? := fun x hx => by rw [s1, List.getElem?_set_ne (Ne.symm hx)]
            have och := others (sp' := S.spills.set f (some (l, pg.2))) h H.e (fun qg hq x hx => by
              rw [List.getElem?_set_ne]
              intro z
              subst z
              exact f2 (H.mem qg hq f hx)) S.pages
            rw [hS1] at och
            have oth : ∀ qg ∈ P1 ++ P2, ∀ x ∈ chainOf S1 qg, S1.spills[x]? = S1.spills[x]? := fun _ _ _ _ => rfl
            have hch : Ch S1.spills pg.2 (chainOf S pg) := H.ch.frame fun x hx => frm x fun z => hfc (z ▸ hx)
            have hc2 : Ch S1.spills (some f) (f :: chainOf S pg) := .cons (by rw [s1, List.getElem?_set_self hflt]) hch
            have fen : S1.fences = S.fences := by rw [← hS1]; rfl
            have rmm : S1.room = S.room := by rw [← hS1]; rfl
            have hnd : ∀ x ∈ pg.1.dropLast, x.1 ≠ k := fun x hx => hnp x ((List.dropLast_sublist _).subset hx)
            have hlen : (insR (k, w) pg.1.dropLast).length = S.room := by
              rw [len_insR_new (r := (k, w)) hnd, List.length_dropLast]
              have : 0 < pg.1.length := List.length_pos_of_mem hlm
              omega
            obtain ⟨pg', hpg'⟩ : ∃ pg' : Pg, (insR (k, w) pg.1.dropLast, some f) = pg' := ⟨_, rfl⟩
            have q1 : pg'.1 = insR (k, w) pg.1.dropLast := by rw [← hpg']
            have q2 : pg'.2 = some f := by rw [← hpg']
            have crw : (f :: chainOf S pg).map (cellRow (S1.up (P1 ++ pg' :: P2) S1.spills)) = l :: (chainOf S pg).map (cellRow S) := by
              rw [List.map_cons]
              congr 1
              · unfold cellRow
                show (match S1.spills[f]? with | some (some (r, _)) => r | _ => (0, 0)) = l
                rw [s1, List.getElem?_set_self hflt]
              · exact List.map_congr_left fun x hx => cellRow_eq (frm x fun z => hfc (z ▸ hx))
            have hbk : ∀ x ∈ l :: (chainOf S pg).map (cellRow S), k < x.1 := fun x hx => by
              rcases List.mem_cons.mp hx with rfl | hx
              · exact hkl
              · have := rc l hlm x hx
                omega
            have hins : insR (k, w) pg.1.dropLast ++ (l :: (chainOf S pg).map (cellRow S)) = insR (k, w) (pg.1 ++ (chainOf S pg).map (cellRow S)) := by
              rw [← insR_back (r := (k, w)) hbk]
              congr 1
              conv => rhs; rw [el]
              simp
            obtain ⟨w1, w2, w3⟩ := b1.up1 (sp' := S1.spills) (pg' := pg') (ns := f :: chainOf S pg) p1 rfl oth (q2 ▸ hc2) (fun c hc qg hq => by
              rw [(och qg hq).1]
              rcases List.mem_cons.mp hc with rfl | hc
              · exact fun z => f2 (H.mem qg hq _ z)
              · exact H.dj c hc qg hq) (by rw [q1, hlen, rmm]; exact Nat.le_refl _) (fun _ => by rw [q1, hlen, rmm]) (by
              rw [crw, q1, hins]
              exact H.rise.ins) fun r hr => by
              rw [crw, q1, hins] at hr
              rw [fen]
              rcases mem_insR.mp hr with rfl | ⟨hr, _⟩
              · exact bel
              · exact H.ok r hr
            obtain ⟨a1, a2, a3, a4⟩ := rows_up1 (pg' := pg') (sp' := S1.spills) b1 p1 oth
            have e2 : ap S1 (.page (atP S.fences k) pg') = S1.up (P1 ++ pg' :: P2) S1.spills := by
              show S1.up (S1.pages.set _ _) _ = _
              have : S1.pages = S.pages := by rw [← hS1]; rfl
              rw [this, H.set]
            have fl1 : P1.flatMap (rowsOf S1) = P1.flatMap (rowsOf S) := by
              rw [List.flatMap_def, List.flatMap_def, List.map_congr_left fun q hq => (och q (List.mem_append_left _ hq)).2]
            have fl2 : P2.flatMap (rowsOf S1) = P2.flatMap (rowsOf S) := by
              rw [List.flatMap_def, List.flatMap_def, List.map_congr_left fun q hq => (och q (List.mem_append_right _ hq)).2]
            rw [hpg']
            refine Goes.two h (e1 ▸ b1) (.inl (by rw [e1]; exact b2)) ?_ ?_ fun hw => ?_
            · rw [e1, e2]
              exact w1
            · rw [e1, e2, a2, w3, crw, q1, hins, fl1, fl2]
            · rw [e1, e2]
              refine hw.mono (fun x hx => ?_) fun x y hy => ?_
              · rw [a4, w2]
                rw [← b3, a3] at hx
                rcases List.mem_append.mp hx with hx | hx
                · exact List.mem_append_left _ hx
                · rcases List.mem_append.mp hx with hx | hx
                  · refine List.mem_append_right _ (List.mem_append_left _ (List.mem_cons_of_mem _ ?_))
                    have e3 : chainOf S1 pg = chainOf S pg := Ch.of_chain hch
                    rw [← e3]
                    exact hx
                  · exact List.mem_append_right _ (List.mem_append_right _ hx)
              · have hy : S1.spills[x]? = some (some y) := hy
                by_cases q : x = f
                · subst q
                  refine .inl ?_
                  rw [a4, w2]
                  simp
                · rw [frm x q] at hy
                  exact .inr ⟨y, hy⟩
          · -- it spills itself
            rename_i hkl
            refine ⟨?_, nofun⟩
            rw [if_neg (by nofun), hall]
            obtain ⟨ch, hch0⟩ : ∃ ch, chainOf S pg = ch := ⟨_, rfl⟩
            obtain ⟨at_, hat⟩ : ∃ at_, (ch.filter fun c => decide ((cellRow S c).1 < k)).length = at_ := ⟨_, rfl⟩
            have hatr : ((ch.map (cellRow S)).filter fun x => decide (x.1 < k)).length = at_ := by
              rw [List.filter_map, List.length_map, ← hat]
              rfl
            have hrch : Rise (ch.map (cellRow S)) := by rw [← hch0]; exact rb
            have hatl : at_ ≤ ch.length := by rw [← hat]; exact List.length_filter_le _ _
            have hia := rise_ins_at (r := (k, w)) hrch (by rw [← hch0]; exact hnc)
            rw [hatr] at hia
            have hlk : ∀ x ∈ pg.1, x.1 < (k, w).1 := fun x hx => by
              have h1 : l.1 ≠ k := hnp l hlm
              show x.1 < k
              rw [el] at hx
              rcases List.mem_append.mp hx with hx | hx
              · have := hll x hx
                omega
              · rw [List.mem_singleton.mp hx]
                omega
            have hins : pg.1 ++ ((ch.map (cellRow S)).take at_ ++ (k, w) :: (ch.map (cellRow S)).drop at_) = insR (k, w) (pg.1 ++ (chainOf S pg).map (cellRow S)) := by
              rw [hia, hch0, insR_front hlk]
            rw [hch0, hat]
            obtain ⟨b1, b2, b3⟩ := h.lone (c := f) (o := some ((k, w), ch[at_]?)) f2
            obtain ⟨S1, hS1⟩ : ∃ S1, S.up S.pages (S.spills.set f (some ((k, w), ch[at_]?))) = S1 := ⟨_, rfl⟩
            rw [hS1] at b1 b2 b3
            have e1 : ap S (.spill f (some ((k, w), ch[at_]?))) = S1 := hS1
            have p0 : S1.pages = S.pages := by rw [← hS1]; rfl
            have p1 : S1.pages = P1 ++ pg :: P2 := by rw [p0]; exact H.e
            have s1 : S1.spills = S.spills.set f (some ((k, w), ch[at_]?)) := by rw [← hS1]; rfl
            have frm : ∀ x, x ≠ f → S1.spills[x]? = S.spills[x]? := fun x hx => by rw [s1, List.getElem?_set_ne (Ne.symm hx)]
            have och := others (sp' := S.spills.set f (some ((k, w), ch[at_]?))) h H.e (fun qg hq x hx => by
              rw [List.getElem?_set_ne]
              intro z
              subst z
              exact f2 (H.mem qg hq f hx)) S.pages
            rw [hS1] at och
            rw [hch0] at hfc
            have hch : Ch S.spills pg.2 ch := hch0 ▸ H.ch
            have hch1 : Ch S1.spills pg.2 ch := hch.frame fun x hx => frm x fun z => hfc (z ▸ hx)
            have cS1 : chainOf S1 pg = ch := Ch.of_chain hch1
            have fen : S1.fences = S.fences := by rw [← hS1]; rfl
            have rmm : S1.room = S.room := by rw [← hS1]; rfl
            have fcell : S1.spills[f]? = some (some ((k, w), ch[at_]?)) := by rw [s1, List.getElem?_set_self hflt]
            have fl1 : P1.flatMap (rowsOf S1) = P1.flatMap (rowsOf S) := by
              rw [List.flatMap_def, List.flatMap_def, List.map_congr_left fun q hq => (och q (List.mem_append_left _ hq)).2]
            have fl2 : P2.flatMap (rowsOf S1) = P2.flatMap (rowsOf S) := by
              rw [List.flatMap_def, List.flatMap_def, List.map_congr_left fun q hq => (och q (List.mem_append_right _ hq)).2]
            have hdj : ∀ c ∈ ch.take at_ ++ f :: ch.drop at_, ∀ qg ∈ P1 ++ P2, c ∉ chainOf S1 qg := fun c hc qg hq => by
              rw [(och qg hq).1]
              have : c = f ∨ c ∈ ch := by
                rcases List.mem_append.mp hc with hc | hc
                · exact .inr (List.mem_of_mem_take hc)
                · rcases List.mem_cons.mp hc with hc | hc
                  · exact .inl hc
                  · exact .inr (List.mem_of_mem_drop hc)
              rcases this with rfl | hc
              · exact fun z => f2 (H.mem qg hq _ z)
              · exact H.dj c (by rw [hch0]; exact hc) qg hq
            -- the second write, told by what it leaves
            have fin : ∀ (x : Wr) (pg' : Pg) (sp' : List (Option Cl)), ap S1 x = S1.up (P1 ++ pg' :: P2) sp' → pg'.1 = pg.1 → sp'.length = S1.spills.length → (∀ qg ∈ P1 ++ P2, ∀ c ∈ chainOf S1 qg, sp'[c]? = S1.spills[c]?) → Ch sp' pg'.2 (ch.take at_ ++ f :: ch.drop at_) →
                (∀ c, (cellRow (S1.up (P1 ++ pg' :: P2) sp') c) = cellRow S1 c) → (∀ (c : Nat) y, sp'[c]? = some (some y) → ∃ y', S1.spills[c]? = some (some y')) → Goes S [.spill f (some ((k, w), ch[at_]?)), x] (P1.flatMap (rowsOf S) ++ (insR (k, w) (pg.1 ++ (chainOf S pg).map (cellRow S)) ++ P2.flatMap (rowsOf S))) := by
              intro x pg' sp' ex q1 hl2 oth2 hc2 cr2 som
              have crw : (ch.take at_ ++ f :: ch.drop at_).map (cellRow (S1.up (P1 ++ pg' :: P2) sp')) = (ch.map (cellRow S)).take at_ ++ (k, w) :: (ch.map (cellRow S)).drop at_ := by
                have same : ∀ c ∈ ch, cellRow (S1.up (P1 ++ pg' :: P2) sp') c = cellRow S c := fun c hc => by
                  rw [cr2]
                  exact cellRow_eq (frm c fun z => hfc (z ▸ hc))
                rw [List.map_append, List.map_cons, ← List.map_take, ← List.map_drop]
                congr 1
                · exact List.map_congr_left fun c hc => same c (List.mem_of_mem_take hc)
                · congr 1
                  · rw [cr2]
                    unfold cellRow
                    rw [fcell]
                  · exact List.map_congr_left fun c hc => same c (List.mem_of_mem_drop hc)
              obtain ⟨w1, w2, w3⟩ := b1.up1 (sp' := sp') (pg' := pg') (ns := ch.take at_ ++ f :: ch.drop at_) p1 hl2 oth2 hc2 hdj (by rw [q1, rmm]; exact H.sz) (fun _ => by rw [q1, rmm]; exact hfull) (by
                rw [crw, q1, hins]
                exact H.rise.ins) fun r hr => by
                rw [crw, q1, hins] at hr
                rw [fen]
                rcases mem_insR.mp hr with rfl | ⟨hr, _⟩
                · exact bel
                · exact H.ok r hr
              obtain ⟨a1, a2, a3, a4⟩ := rows_up1 (pg' := pg') (sp' := sp') b1 p1 oth2
              refine Goes.two h (e1 ▸ b1) (.inl (by rw [e1]; exact b2)) ?_ ?_ fun hw => ?_
              · rw [e1, ex]
                exact w1
              · rw [e1, ex, a2, w3, crw, q1, hins, fl1, fl2]
              · rw [e1, ex]
                refine hw.mono (fun x hx => ?_) fun x y hy => ?_
                · rw [a4, w2]
                  rw [← b3, a3, cS1] at hx
                  rcases List.mem_append.mp hx with hx | hx
                  · exact List.mem_append_left _ hx
                  · rcases List.mem_append.mp hx with hx | hx
                    · refine List.mem_append_right _ (List.mem_append_left _ ?_)
                      rw [← List.take_append_drop at_ ch] at hx
                      rcases List.mem_append.mp hx with hx | hx
                      · exact List.mem_append_left _ hx
                      · exact List.mem_append_right _ (List.mem_cons_of_mem _ hx)
                    · exact List.mem_append_right _ (List.mem_append_right _ hx)
                · obtain ⟨y', hy'⟩ := som x y hy
                  by_cases q : x = f
                  · subst q
                    refine .inl ?_
                    rw [a4, w2]
                    simp
                  · rw [frm x q] at hy'
                    exact .inr ⟨y', hy'⟩
            rw [hch0] at fin
            cases hz : at_ with
            | zero =>
              have hsub : at_ = 0 := hz
              subst hsub
              refine fin (linkW S k 0 (some f)) (pg.1, some f) S1.spills ?_ rfl rfl (fun _ _ _ _ => rfl) ?_ (fun _ => rfl) fun c y hy => ⟨y, hy⟩
              · show S1.up (S1.pages.set (atP S.fences k) ((pageAt S k).1, some f)) S1.spills = _
                rw [p0, H.set, hpg]
              · rw [List.take_zero, List.drop_zero, List.nil_append]
                refine .cons fcell ?_
                rw [← hch1.head]
                exact hch1
            | succ i =>
              have hsub : at_ = i + 1 := hz
              subst hsub
              have hi : i < ch.length := by omega
              have hm : ch[i] ∈ ch := List.getElem_mem hi
              have hgd : (chainOf S (pageAt S k)).getD i 0 = ch[i] := by
                rw [hpg, hch0]
                simp [hi]
              obtain ⟨r0, hcell⟩ := hch1.at_ hi
              have hclt : ch[i] < S1.spills.length := (List.getElem?_eq_some_iff.mp hcell).1
              have hcr : cellRow S ch[i] = r0 := by
                have e4 : S.spills[ch[i]]? = some (some (r0, ch[i + 1]?)) := by
                  rw [← frm ch[i] fun z => hfc (z ▸ hm)]
                  exact hcell
                unfold cellRow
                rw [e4]
              refine fin (linkW S k (i + 1) (some f)) pg (S1.spills.set ch[i] (some (r0, some f))) ?_ rfl (by simp) (fun qg hq c hc => ?_) ?_ (fun c => ?_) fun c y hy => ?_
              · show S1.up S1.pages (S1.spills.set ((chainOf S (pageAt S k)).getD i 0) (some (cellRow S ((chainOf S (pageAt S k)).getD i 0), some f))) = _
                rw [hgd, hcr, p1]
              · rw [List.getElem?_set_ne]
                intro z
                subst z
                rw [(och qg hq).1] at hc
                exact H.dj _ (by rw [hch0]; exact hm) qg hq hc
              · refine Ch.ins i hi hch1 ⟨r0, List.getElem?_set_self hclt⟩ ⟨(k, w), ?_⟩ (fun c hc ne => ?_) hch.nodup
                · rw [List.getElem?_set_ne (show ch[i] ≠ f from fun z => hfc (by rw [← z]; exact hm))]
                  exact fcell
                · rw [List.getElem?_set_ne (Ne.symm ne)]
              · unfold cellRow
                show (match (S1.spills.set ch[i] (some (r0, some f)))[c]? with | some (some (r, _)) => r | _ => (0, 0)) = _
                by_cases q : c = ch[i]
                · subst q
                  rw [List.getElem?_set_self hclt, hcell]
                · rw [List.getElem?_set_ne (Ne.symm q)]
                  try rfl
              · by_cases q : c = ch[i]
                · subst q
                  exact ⟨_, hcell⟩
                · rw [List.getElem?_set_ne (Ne.symm q)] at hy
                  exact ⟨y, hy⟩
        · exact ⟨by simpa using Goes.zero h, fun _ => rfl⟩
end
end Sp

set_option Elab.async false
set_option linter.all false
set_option maxRecDepth 100000
set_option maxHeartbeats 4000000
/-! What a take comes to. -/
namespace Sp
def takeT (S : FS) (k : Int) : Option Int × List Wr :=
  match (pageAt S k).1.find? (fun r => decide (r.1 = k)) with
  | some r => match chainOf S (pageAt S k) with
    | [] => (some r.2, [.page (atP S.fences k) (delR k (pageAt S k).1, none)])
    | c :: cs => (some r.2, [.page (atP S.fences k) (delR k (pageAt S k).1 ++ [cellRow S c], cs[0]?), .spill c none])
  | none => match (chainOf S (pageAt S k)).findIdx? (fun c => decide ((cellRow S c).1 = k)) with
    | some i => (some (cellRow S ((chainOf S (pageAt S k)).getD i 0)).2, [linkW S k i ((chainOf S (pageAt S k))[i + 1]?), .spill ((chainOf S (pageAt S k)).getD i 0) none])
    | none => (none, [])
section
variable {S : FS} {k w : Int}
theorem len_delR {rs : List Row} {x : Row} (hr : Rise rs) (hx : x ∈ rs) (e : x.1 = k) : (delR k rs).length + 1 = rs.length := by
  have h1 := len_insR_again (r := x) (x := x) hr hx rfl
  have h2 : insR x rs = insR x (delR k rs) := rise_ext (Rise.ins hr) (Rise.ins (Rise.del hr)) fun y => by
    rw [mem_insR, mem_insR, mem_delR, e]
    constructor
    · rintro (h | ⟨h, h2⟩)
      · exact .inl h
      · exact .inr ⟨⟨h, h2⟩, h2⟩
    · rintro (h | ⟨⟨h, h2⟩, _⟩)
      · exact .inl h
      · exact .inr ⟨h, h2⟩
  rw [h2, len_insR_new fun y hy => by rw [e]; exact (mem_delR.mp hy).2] at h1
  exact h1
theorem delR_front {A B : List Row} (hA : ∀ x ∈ A, x.1 ≠ k) : delR k (A ++ B) = A ++ delR k B := by
  have := delR_mid (k := k) (A := A) (M := B) (B := []) hA (by simp)
  simpa using this
theorem delR_back {A B : List Row} (hB : ∀ x ∈ B, x.1 ≠ k) : delR k (A ++ B) = delR k A ++ B := by
  have := delR_mid (k := k) (A := []) (M := A) (B := B) (by simp) hB
  simpa using this
/-- one row out of rows by rising keys, by its place -/
theorem delR_at {rs : List Row} (hr : Rise rs) {i : Nat} (hi : i < rs.length) (e : rs[i].1 = k) : delR k rs = rs.take i ++ rs.drop (i + 1) := by
  have h0 : rs = rs.take i ++ rs[i] :: rs.drop (i + 1) := by rw [← List.drop_eq_getElem_cons hi, List.take_append_drop]
  have h1 : Rise (rs.take i ++ rs[i] :: rs.drop (i + 1)) := h0 ▸ hr
  obtain ⟨a, b, c⟩ := List.pairwise_append.mp h1
  obtain ⟨b1, b2⟩ := List.pairwise_cons.mp b
  conv => lhs; rw [h0]
  unfold delR
  rw [List.filter_append, List.filter_cons_of_neg (by simpa using e)]
  congr 1
  · exact List.filter_eq_self.mpr fun x hx => by
      have := c x hx rs[i] List.mem_cons_self
      simp
      omega
  · exact List.filter_eq_self.mpr fun x hx => by
      have := b1 x hx
      simp
      omega
/-- the second write of a take: a cell of no chain gets free -/
theorem Goes.freed {S : FS} {x : Wr} {c : Nat} {rs : List Row} (h : WF S) (h1 : WF (ap S x)) (r1 : allRows (ap S x) = rs) (hc : c ∉ chains (ap S x)) (w : Whole S → ∀ (n : Nat) y, n ≠ c → (ap S x).spills[n]? = some (some y) → n ∈ chains (ap S x)) : Goes S [x, .spill c none] rs := by
  obtain ⟨b1, b2, b3⟩ := h1.lone (c := c) (o := none) hc
  refine Goes.two h h1 (.inr r1) b1 (b2.trans r1) fun hw n y hy => ?_
  have hy : ((ap S x).spills.set c none)[n]? = some (some y) := hy
  show n ∈ chains ((ap S x).up (ap S x).pages ((ap S x).spills.set c none))
  rw [b3]
  by_cases q : n = c
  · subst q
    rw [List.getElem?_set] at hy
    simp at hy
  · rw [List.getElem?_set_ne (Ne.symm q)] at hy
    exact w hw n y q hy
theorem take_goes (h : WF S) : Goes S (takeT S k).2 (if (takeT S k).1 = none then allRows S else delR k (allRows S)) ∧ ((takeT S k).1 = none → (takeT S k).2 = []) ∧ (takeT S k).1 = lastVal (allRows S) k := by
  obtain ⟨P1, P2, H⟩ := h.here k
  generalize hpg : pageAt S k = pg at H
  have hsp : allRows S = P1.flatMap (rowsOf S) ++ ((pg.1 ++ (chainOf S pg).map (cellRow S)) ++ P2.flatMap (rowsOf S)) := by
    unfold allRows
    conv => lhs; rw [H.e]
    rw [List.flatMap_append, List.flatMap_cons]
    rfl
  have hall : delR k (allRows S) = P1.flatMap (rowsOf S) ++ (delR k (pg.1 ++ (chainOf S pg).map (cellRow S)) ++ P2.flatMap (rowsOf S)) := by
    rw [hsp, delR_mid (fun x hx => by have := H.lo x hx; omega) fun x hx => by have := H.hi x hx; omega]
  have val : ∀ {rs : List Row} {r : Row}, Rise rs → r ∈ rs → r.1 = k → lastVal rs k = some r.2 := by
    intro rs
    unfold lastVal
    have gen : ∀ (l : List Row) (o : Option Int), (∀ x ∈ l, x.1 ≠ k) → l.foldl (fun o r => if r.1 = k then some r.2 else o) o = o := by
      intro l
      induction l with
      | nil => intro o _; rfl
      | cons x l ih =>
        intro o hl
        rw [List.foldl_cons, if_neg (hl x List.mem_cons_self)]
        exact ih o fun y hy => hl y (List.mem_cons_of_mem _ hy)
    have : ∀ (o : Option Int) {r : Row}, Rise rs → r ∈ rs → r.1 = k → rs.foldl (fun o r => if r.1 = k then some r.2 else o) o = some r.2 := by
      induction rs with
      | nil => intro o r _ hr; cases hr
      | cons x rs ih =>
        intro o r hrs hr e
        obtain ⟨a, b⟩ := List.pairwise_cons.mp hrs
        rw [List.foldl_cons]
        rcases List.mem_cons.mp hr with z | hr
        · subst z
          rw [if_pos e]
          exact gen rs _ fun y hy => by have := a y hy; omega
        · exact ih _ b hr e
    exact fun {r} a b c => this none a b c
  have valN : (∀ x ∈ allRows S, x.1 ≠ k) → lastVal (allRows S) k = none := by
    intro hl
    unfold lastVal
    generalize allRows S = l at hl
    induction l with
    | nil => rfl
    | cons x l ih =>
      rw [List.foldl_cons, if_neg (hl x List.mem_cons_self)]
      exact ih fun y hy => hl y (List.mem_cons_of_mem _ hy)
  obtain ⟨ra, rb, rc⟩ := List.pairwise_append.mp H.rise
  unfold takeT
  rw [hpg]
  split
  · rename_i r hr
    have hrm : r ∈ pg.1 := List.mem_of_find?_eq_some hr
    have hrk : r.1 = k := of_decide_eq_true (List.find?_some (p := fun r : Row => decide (r.1 = k)) hr)
    have hcg : ∀ y ∈ (chainOf S pg).map (cellRow S), k < y.1 := fun y hy => by
      have := rc r hrm y hy
      omega
    have hv := val h.all.1 (show r ∈ allRows S by rw [hsp]; exact List.mem_append_right _ (List.mem_append_left _ (List.mem_append_left _ hrm))) hrk
    have hlen := len_delR (k := k) (rs := pg.1) ra hrm hrk
    split
    · -- from a page without a chain
      rename_i hce
      refine ⟨?_, nofun, hv.symm⟩
      rw [if_neg (by nofun), hall]
      have hpn : pg.2 = none := by
        have := H.ch.head
        rw [hce] at this
        exact this
      refine H.page h hpn.symm (by show (delR k pg.1).length ≤ _; have := H.sz; omega) (fun z => absurd rfl z) ?_ (fun x hx => H.ok x (List.mem_append_left _ (mem_delR.mp hx).1)) ?_
      · show Rise (delR k pg.1 ++ _)
        rw [hce]
        simpa using Rise.del (rs := pg.1) ra
      · show _ ++ ((delR k pg.1 ++ _) ++ _) = _
        rw [hce]
        simp
    · -- the chain's first comes to the page
      rename_i c cs hce
      refine ⟨?_, nofun, hv.symm⟩
      rw [if_neg (by nofun), hall]
      have hch := H.ch
      rw [hce] at hch
      obtain ⟨r0, hcell⟩ := hch.at_ (k := 0) (by simp)
      have hcell : S.spills[c]? = some (some (r0, cs[0]?)) := by simpa using hcell
      have hcs : Ch S.spills cs[0]? cs := by
        have d := hch
        generalize pg.2 = l0 at d
        cases d with
        | cons h1 t =>
          rw [hcell] at h1
          cases h1
          exact t
      have nd := H.nd
      rw [hce] at nd
      obtain ⟨n1, n2⟩ := List.nodup_cons.mp nd
      have hcm : c ∈ chainOf S pg := by rw [hce]; simp
      obtain ⟨pg', hpg'⟩ : ∃ pg' : Pg, (delR k pg.1 ++ [cellRow S c], cs[0]?) = pg' := ⟨_, rfl⟩
      have q1 : pg'.1 = delR k pg.1 ++ [cellRow S c] := by rw [← hpg']
      have q2 : pg'.2 = cs[0]? := by rw [← hpg']
      have hroom : pg.1.length = S.room := H.fl (by rw [H.ch.head, hce]; nofun)
      have hins : pg'.1 ++ cs.map (cellRow S) = delR k (pg.1 ++ (chainOf S pg).map (cellRow S)) := by
        rw [delR_back (fun x hx => by have := hcg x hx; omega), q1, hce]
        simp
      have oth : ∀ qg ∈ P1 ++ P2, ∀ x ∈ chainOf S qg, S.spills[x]? = S.spills[x]? := fun _ _ _ _ => rfl
      rw [hpg']
      obtain ⟨w1, w2, w3⟩ := h.up1 (sp' := S.spills) (pg' := pg') (ns := cs) H.e rfl oth (by rw [q2]; exact hcs) (fun x hx => H.dj x (by rw [hce]; exact List.mem_cons_of_mem _ hx)) (by rw [q1, List.length_append, List.length_singleton]; omega) (fun _ => by rw [q1, List.length_append, List.length_singleton]; omega) (by
        show Rise (pg'.1 ++ cs.map (cellRow S))
        rw [hins]
        exact Rise.del H.rise) fun x hx => by
        have hx : x ∈ pg'.1 ++ cs.map (cellRow S) := hx
        rw [hins] at hx
        exact H.ok x (mem_delR.mp hx).1
      obtain ⟨a1, a2, a3, a4⟩ := rows_up1 (pg' := pg') (sp' := S.spills) h H.e oth
      have ea : ap S (.page (atP S.fences k) pg') = S.up (P1 ++ pg' :: P2) S.spills := by
        show S.up (S.pages.set (atP S.fences k) pg') S.spills = _
        rw [H.set]
      refine Goes.freed h (ea ▸ w1) ?_ ?_ fun hw n y hn hy => ?_
      · rw [ea, a2, w3]
        show _ ++ ((pg'.1 ++ cs.map (cellRow S)) ++ _) = _
        rw [hins]
      · rw [ea, a4, w2]
        intro z
        rcases List.mem_append.mp z with z | z
        · obtain ⟨q, hq, hx⟩ := List.mem_flatMap.mp z
          exact H.dj c hcm q (List.mem_append_left _ hq) hx
        · rcases List.mem_append.mp z with z | z
          · exact n1 z
          · obtain ⟨q, hq, hx⟩ := List.mem_flatMap.mp z
            exact H.dj c hcm q (List.mem_append_right _ hq) hx
      · rw [ea, a4, w2]
        have := hw n y (by rw [ea] at hy; exact hy)
        rw [a3, hce] at this
        rcases List.mem_append.mp this with z | z
        · exact List.mem_append_left _ z
        · rcases List.mem_append.mp z with z | z
          · rcases List.mem_cons.mp z with z | z
            · exact absurd z hn
            · exact List.mem_append_right _ (List.mem_append_left _ z)
          · exact List.mem_append_right _ (List.mem_append_right _ z)
  · rename_i hfind
    have hnp : ∀ x ∈ pg.1, x.1 ≠ k := fun x hx e => List.find?_eq_none.mp hfind x hx (decide_eq_true e)
    split
    · -- from the chain
      rename_i i hi0
      obtain ⟨hi, hik, _⟩ := List.findIdx?_eq_some_iff_getElem.mp hi0
      obtain ⟨ch, hch0⟩ : ∃ ch, chainOf S pg = ch := ⟨_, rfl⟩
      have hi : i < ch.length := by rw [← hch0]; exact hi
      have hgd : (chainOf S pg).getD i 0 = ch[i] := by
        rw [hch0]
        simp [hi]
      have hck : (cellRow S ch[i]).1 = k := by
        have := of_decide_eq_true hik
        simpa [hch0] using this
      have hm : ch[i] ∈ ch := List.getElem_mem hi
      have hv := val h.all.1 (show cellRow S ch[i] ∈ allRows S by
        rw [hsp, hch0]
        exact List.mem_append_right _ (List.mem_append_left _ (List.mem_append_right _ (List.mem_map.mpr ⟨_, hm, rfl⟩)))) hck
      refine ⟨?_, nofun, by show some (cellRow S ((chainOf S pg).getD i 0)).2 = _; rw [hgd]; exact hv.symm⟩
      rw [if_neg (by nofun), hall]
      show Goes S [linkW S k i ((chainOf S pg)[i + 1]?), .spill ((chainOf S pg).getD i 0) none] _
      rw [hgd]
      have hch : Ch S.spills pg.2 ch := hch0 ▸ H.ch
      have nd : ch.Nodup := hch.nodup
      have hrch : Rise (ch.map (cellRow S)) := by rw [← hch0]; exact rb
      have hins : pg.1 ++ (ch.take i ++ ch.drop (i + 1)).map (cellRow S) = delR k (pg.1 ++ (chainOf S pg).map (cellRow S)) := by
        rw [delR_front hnp, hch0, delR_at hrch (i := i) (by simpa using hi) (by simpa using hck), List.map_append, List.map_take, List.map_drop]
      have hsub : ∀ x ∈ ch.take i ++ ch.drop (i + 1), x ∈ ch ∧ x ≠ ch[i] := fun x hx => by
        have e0 : ch = ch.take i ++ ch[i] :: ch.drop (i + 1) := by rw [← List.drop_eq_getElem_cons hi, List.take_append_drop]
        have nd' : (ch.take i ++ ch[i] :: ch.drop (i + 1)).Nodup := e0 ▸ nd
        obtain ⟨m1, m2, m3⟩ := List.nodup_append.mp nd'
        obtain ⟨m4, m5⟩ := List.nodup_cons.mp m2
        rcases List.mem_append.mp hx with hx | hx
        · exact ⟨List.mem_of_mem_take hx, fun z => m3 x hx ch[i] List.mem_cons_self z⟩
        · exact ⟨List.mem_of_mem_drop hx, fun z => m4 (z ▸ hx)⟩
      have hroom : pg.1.length = S.room := H.fl (by
        rw [H.ch.head, hch0]
        intro z
        have : ch.length = 0 := by
          have := List.getElem?_eq_none_iff.mp z
          omega
        omega)
      -- the first write, told by what it leaves
      have fin : ∀ (x : Wr) (pg' : Pg) (sp' : List (Option Cl)), ap S x = S.up (P1 ++ pg' :: P2) sp' → pg'.1 = pg.1 → sp'.length = S.spills.length → (∀ qg ∈ P1 ++ P2, ∀ c ∈ chainOf S qg, sp'[c]? = S.spills[c]?) → Ch sp' pg'.2 (ch.take i ++ ch.drop (i + 1)) →
          (∀ c, (cellRow (S.up (P1 ++ pg' :: P2) sp') c) = cellRow S c) → (∀ (c : Nat) y, sp'[c]? = some (some y) → ∃ y', S.spills[c]? = some (some y')) → Goes S [x, .spill ch[i] none] (P1.flatMap (rowsOf S) ++ (delR k (pg.1 ++ (chainOf S pg).map (cellRow S)) ++ P2.flatMap (rowsOf S))) := by
        intro x pg' sp' ex q1 hl2 oth2 hc2 cr2 som
        have crw : (ch.take i ++ ch.drop (i + 1)).map (cellRow (S.up (P1 ++ pg' :: P2) sp')) = (ch.take i ++ ch.drop (i + 1)).map (cellRow S) := List.map_congr_left fun c _ => cr2 c
        obtain ⟨w1, w2, w3⟩ := h.up1 (sp' := sp') (pg' := pg') (ns := ch.take i ++ ch.drop (i + 1)) H.e hl2 oth2 hc2 (fun c hc => H.dj c (by rw [hch0]; exact (hsub c hc).1)) (by rw [q1]; exact H.sz) (fun _ => by rw [q1]; exact hroom) (by
          rw [crw, q1, hins]
          exact Rise.del H.rise) fun r hr => by
          rw [crw, q1, hins] at hr
          exact H.ok r (mem_delR.mp hr).1
        obtain ⟨a1, a2, a3, a4⟩ := rows_up1 (pg' := pg') (sp' := sp') h H.e oth2
        refine Goes.freed h (ex ▸ w1) ?_ ?_ fun hw n y hn hy => ?_
        · rw [ex, a2, w3, crw, q1, hins]
        · rw [ex, a4, w2]
          intro z
          rcases List.mem_append.mp z with z | z
          · obtain ⟨q, hq, hx⟩ := List.mem_flatMap.mp z
            exact H.dj ch[i] (by rw [hch0]; exact hm) q (List.mem_append_left _ hq) hx
          · rcases List.mem_append.mp z with z | z
            · exact (hsub _ z).2 rfl
            · obtain ⟨q, hq, hx⟩ := List.mem_flatMap.mp z
              exact H.dj ch[i] (by rw [hch0]; exact hm) q (List.mem_append_right _ hq) hx
        · rw [ex, a4, w2]
          rw [ex] at hy
          obtain ⟨y', hy'⟩ := som n y hy
          have := hw n y' hy'
          rw [a3, hch0] at this
          rcases List.mem_append.mp this with z | z
          · exact List.mem_append_left _ z
          · rcases List.mem_append.mp z with z | z
            · refine List.mem_append_right _ (List.mem_append_left _ ?_)
              have e0 : ch = ch.take i ++ ch[i] :: ch.drop (i + 1) := by rw [← List.drop_eq_getElem_cons hi, List.take_append_drop]
              rw [e0] at z
              rcases List.mem_append.mp z with z | z
              · exact List.mem_append_left _ z
              · rcases List.mem_cons.mp z with z | z
                · exact absurd z hn
                · exact List.mem_append_right _ z
            · exact List.mem_append_right _ (List.mem_append_right _ z)
      rw [hch0] at fin ⊢
      obtain hz | ⟨j, hz⟩ : i = 0 ∨ ∃ j, i = j + 1 := by
        cases i with
        | zero => exact .inl rfl
        | succ j => exact .inr ⟨j, rfl⟩
      · subst hz
        refine fin (linkW S k 0 (ch[0 + 1]?)) (pg.1, ch[0 + 1]?) S.spills ?_ rfl rfl (fun _ _ _ _ => rfl) ?_ (fun _ => rfl) fun c y hy => ⟨y, hy⟩
        · show S.up (S.pages.set (atP S.fences k) ((pageAt S k).1, ch[0 + 1]?)) S.spills = _
          rw [H.set, hpg]
        · rw [List.take_zero, List.nil_append]
          show Ch S.spills (ch[0 + 1]?) (ch.drop (0 + 1))
          obtain ⟨r0, hcell⟩ := hch.at_ hi
          have d := hch.drop 0 hi
          rw [List.drop_eq_getElem_cons hi] at d
          generalize hz2 : ch[0] = z0 at d hcell
          cases d with
          | cons h1 t =>
            rw [hcell] at h1
            cases h1
            exact t
      · subst hz
        have hj : j < ch.length := by omega
        have hmj : ch[j] ∈ ch := List.getElem_mem hj
        have hgj : (chainOf S (pageAt S k)).getD j 0 = ch[j] := by
          rw [hpg, hch0]
          simp [hj]
        obtain ⟨r0, hcell⟩ := hch.at_ hj
        have hclt : ch[j] < S.spills.length := (List.getElem?_eq_some_iff.mp hcell).1
        have hcr : cellRow S ch[j] = r0 := by
          unfold cellRow
          rw [hcell]
        refine fin (linkW S k (j + 1) (ch[j + 1 + 1]?)) pg (S.spills.set ch[j] (some (r0, ch[j + 1 + 1]?))) ?_ rfl (by simp) (fun qg hq c hc => ?_) ?_ (fun c => ?_) fun c y hy => ?_
        · show S.up S.pages (S.spills.set ((chainOf S (pageAt S k)).getD j 0) (some (cellRow S ((chainOf S (pageAt S k)).getD j 0), ch[j + 1 + 1]?))) = _
          rw [hgj, hcr, H.e]
        · rw [List.getElem?_set_ne]
          intro z
          subst z
          exact H.dj _ (by rw [hch0]; exact hmj) qg hq hc
        · exact Ch.del j hj hch ⟨r0, List.getElem?_set_self hclt⟩ (fun c hc ne _ => by rw [List.getElem?_set_ne (Ne.symm ne)]) nd
        · unfold cellRow
          show (match (S.spills.set ch[j] (some (r0, ch[j + 1 + 1]?)))[c]? with | some (some (r, _)) => r | _ => (0, 0)) = _
          by_cases q : c = ch[j]
          · subst q
            rw [List.getElem?_set_self hclt, hcell]
          · rw [List.getElem?_set_ne (Ne.symm q)]
            try rfl
        · by_cases q : c = ch[j]
          · subst q
            exact ⟨_, hcell⟩
          · rw [List.getElem?_set_ne (Ne.symm q)] at hy
            exact ⟨y, hy⟩
    · -- no such row
      rename_i hfi
      have hnc : ∀ y ∈ (chainOf S pg).map (cellRow S), y.1 ≠ k := fun y hy e => by
        obtain ⟨x, hx, rfl⟩ := List.mem_map.mp hy
        have := List.findIdx?_eq_none_iff.mp hfi x hx
        simp [e] at this
      refine ⟨by simpa using Goes.zero h, fun _ => rfl, (valN fun x hx => ?_).symm⟩
      rw [hsp] at hx
      rcases List.mem_append.mp hx with hx | hx
      · have := H.lo x hx
        omega
      · rcases List.mem_append.mp hx with hx | hx
        · rcases List.mem_append.mp hx with hx | hx
          · exact hnp x hx
          · exact hnc x hx
        · have := H.hi x hx
          omega
end
end Sp

set_option Elab.async false
set_option linter.all false
set_option maxRecDepth 100000
set_option maxHeartbeats 4000000
/-! Laying; laying anew; mending; writes that may be stopped. -/
namespace Sp
theorem pz_flat {n : Nat} (hn : 0 < n) : ∀ (k : Nat) (rs : List Row), rs.length ≤ k → (parts n k rs).flatten = rs
  | 0, rs, h => by
    have : rs = [] := List.length_eq_zero_iff.mp (by omega)
    subst this
    rfl
  | k + 1, [], h => rfl
  | k + 1, r :: rs, h => by
    have hd : ((r :: rs).drop n).length ≤ k := by
      simp only [List.length_drop, List.length_cons] at h ⊢
      omega
    unfold parts
    rw [List.flatten_cons, pz_flat hn k _ hd, List.take_append_drop]
theorem pz_mem {n : Nat} (hn : 0 < n) : ∀ (k : Nat) (rs : List Row), ∀ p ∈ parts n k rs, p ≠ [] ∧ p.length ≤ n
  | 0, rs, p, h => by cases h
  | k + 1, [], p, h => by cases h
  | k + 1, r :: rs, p, h => by
    unfold parts at h
    rcases List.mem_cons.mp h with rfl | h
    · obtain ⟨m, rfl⟩ : ∃ m, n = m + 1 := ⟨n - 1, by omega⟩
      simp
      omega
    · exact pz_mem hn k _ p h
theorem pz_len {n : Nat} : ∀ (k : Nat) (rs : List Row), (parts n k rs).length ≤ k
  | 0, rs => by simp [parts]
  | k + 1, [] => by simp [parts]
  | k + 1, r :: rs => by
    unfold parts
    simp only [List.length_cons]
    exact Nat.succ_le_succ (pz_len k _)
structure Lays (ps : List (List Row)) (n : Nat) (rs : List Row) : Prop where
  ne : ps ≠ []
  nn : ∀ p ∈ ps.dropLast, p ≠ []
  le : ∀ p ∈ ps, p.length ≤ n
  flat : ps.flatten = rs
  len : ps.length ≤ rs.length + 1
theorem lays_of {n : Nat} (hn : 0 < n) (rs : List Row) : Lays (partsOf n rs) n rs := by
  unfold partsOf
  split
  · rename_i h
    subst h
    exact ⟨by simp, (fun p hp => by cases hp), (fun p hp => by rw [List.mem_singleton.mp hp]; simp), rfl, by simp⟩
  · rename_i h
    refine ⟨?_, fun p hp => (pz_mem hn _ _ p ((List.dropLast_sublist _).subset hp)).1, fun p hp => (pz_mem hn _ _ p hp).2, pz_flat hn _ _ (Nat.le_refl _), Nat.le_succ_of_le (pz_len _ _)⟩
    cases rs with
    | nil => exact absurd rfl h
    | cons r rs => simp [parts]
theorem fences_cons {p q : List Row} {ps : List (List Row)} {l : Row} (hl : p.getLast? = some l) : fencesOf (p :: q :: ps) = l.1 :: fencesOf (q :: ps) := by
  simp [fencesOf, List.dropLast, hl]
theorem fences_mem : ∀ (ps : List (List Row)), (∀ p ∈ ps.dropLast, p ≠ []) → ∀ f ∈ fencesOf ps, ∃ y ∈ ps.flatten, y.1 = f := fun ps hn f hf => by
  unfold fencesOf at hf
  obtain ⟨s, hs, e⟩ := List.mem_map.mp hf
  have hs2 : s ∈ ps := (List.dropLast_sublist _).subset hs
  cases h : s.getLast? with
  | none => exact absurd (by simpa using h) (hn s hs)
  | some y =>
    rw [h] at e
    exact ⟨y, List.mem_flatten.mpr ⟨s, hs2, List.mem_of_getLast? h⟩, e⟩
theorem fences_len (ps : List (List Row)) : (fencesOf ps).length = ps.length - 1 := by simp [fencesOf]
/-- each row is where its key belongs; the fences rise -/
theorem lay_at : ∀ (ps : List (List Row)), (∀ p ∈ ps.dropLast, p ≠ []) → Rise ps.flatten → (fencesOf ps).Pairwise (· < ·) ∧ ∀ (n : Nat) p, ps[n]? = some p → ∀ r ∈ p, atP (fencesOf ps) r.1 = n
  | [], _, _ => ⟨List.Pairwise.nil, fun n p hp => by simp at hp⟩
  | [p], _, _ => ⟨List.Pairwise.nil, fun n q hq r hr => by
      have : n = 0 := by
        have := (List.getElem?_eq_some_iff.mp hq).1
        simpa using this
      subst this
      rfl⟩
  | p :: q :: ps, hn, hr => by
    have hp : p ≠ [] := hn p (by simp [List.dropLast])
    obtain ⟨l, hl⟩ : ∃ l, p.getLast? = some l := by
      cases h : p.getLast? with
      | none => exact absurd (by simpa using h) hp
      | some l => exact ⟨l, rfl⟩
    have hlm : l ∈ p := List.mem_of_getLast? hl
    rw [fences_cons hl]
    rw [List.flatten_cons] at hr
    obtain ⟨h1, h2, h3⟩ := List.pairwise_append.mp hr
    have hn2 : ∀ s ∈ (q :: ps).dropLast, s ≠ [] := fun s hs => hn s (by rw [List.dropLast_cons_of_ne_nil (by simp)]; exact List.mem_cons_of_mem _ hs)
    obtain ⟨i1, i2⟩ := lay_at (q :: ps) hn2 h2
    obtain ⟨el, hll⟩ := rise_last (rs := p) h1 hl
    have le : ∀ x ∈ p, x.1 ≤ l.1 := fun x hx => by
      rw [el] at hx
      rcases List.mem_append.mp hx with hx | hx
      · have := hll x hx
        omega
      · rw [List.mem_singleton.mp hx]
        exact Int.le_refl _
    have fg : ∀ f ∈ fencesOf (q :: ps), l.1 < f := fun f hf => by
      obtain ⟨y, hy, e⟩ := fences_mem (q :: ps) hn2 f hf
      have := h3 l hlm y hy
      omega
    clear hr
    refine ⟨List.pairwise_cons.mpr ⟨fg, i1⟩, fun n s hs r hr => ?_⟩
    cases n with
    | zero =>
      have : s = p := by simpa using hs.symm
      subst this
      unfold atP
      rw [List.filter_eq_nil_iff.mpr fun f hf => ?_]
      · rfl
      · have := le r hr
        rcases List.mem_cons.mp hf with rfl | hf
        · simp
          omega
        · have := fg f hf
          simp
          omega
    | succ n =>
      have hs2 : (q :: ps)[n]? = some s := by simpa using hs
      have h4 := i2 n s hs2 r hr
      have h5 : l.1 < r.1 := h3 l hlm r (List.mem_flatten.mpr ⟨s, List.mem_of_getElem? hs2, hr⟩)
      unfold atP at h4 ⊢
      rw [List.filter_cons_of_pos (by simpa using h5), List.length_cons, h4]
/-- laid rows are a file -/
theorem laid_wf {S : FS} {fill : Nat} {rs : List Row} (h1 : 1 ≤ fill) (h2 : fill ≤ S.room) (hr : Rise rs) (hb : ∀ r ∈ rs, RowOk r) (hl : rs.length ≤ 999) (hf : S.fences = fencesOf (partsOf fill rs)) (hp : S.pages = (partsOf fill rs).map fun p => (p, none))
    (ns : S.spills.length = S.spare) (sp : S.spare ≤ 20) (rm : 1 ≤ S.room ∧ S.room ≤ 4) (wh : S.which < 2) : WF S ∧ allRows S = rs ∧ chains S = [] := by
  have L := lays_of (n := fill) (by omega) rs
  generalize partsOf fill rs = ps at *
  obtain ⟨l1, l2⟩ := lay_at ps L.nn (by rw [L.flat]; exact hr)
  have cn : ∀ p : List Row, chainOf S (p, none) = [] := fun p => rfl
  have rn : ∀ p : List Row, rowsOf S (p, none) = p := fun p => by
    unfold rowsOf
    rw [cn]
    simp
  have ea : allRows S = rs := by
    unfold allRows
    rw [hp, List.flatMap_def, List.map_map, ← L.flat]
    congr 1
    exact (List.map_congr_left fun p _ => rn p).trans (List.map_id ps)
  have ec : chains S = [] := by
    unfold chains
    rw [hp]
    have gen : ∀ qs : List (List Row), (qs.map fun p => ((p, none) : Pg)).flatMap (chainOf S) = [] := by
      intro qs
      induction qs with
      | nil => rfl
      | cons p qs ih =>
        rw [List.map_cons, List.flatMap_cons, ih]
        rfl
    exact gen ps
  have hpl : 0 < ps.length := List.length_pos_iff.mpr L.ne
  have hpl2 := L.len
  refine ⟨⟨?_, ?_, ns, sp, rm, wh, by rw [hf]; exact l1, fun f hff => ?_, fun pg hpg => ?_, by rw [ec]; exact List.nodup_nil, fun pg hpg => ?_, fun pg hpg => ?_, fun n pg hpg => ?_⟩, ea, ec⟩
  · rw [hp, hf, fences_len, List.length_map]
    omega
  · rw [hp, List.length_map]
    omega
  · rw [hf] at hff
    obtain ⟨y, hy, e⟩ := fences_mem ps L.nn f hff
    rw [L.flat] at hy
    have := hb y hy
    exact ⟨by omega, by omega⟩
  · rw [hp] at hpg
    obtain ⟨p, _, rfl⟩ := List.mem_map.mp hpg
    exact .nil
  · rw [hp] at hpg
    obtain ⟨p, hpp, rfl⟩ := List.mem_map.mp hpg
    have := L.le p hpp
    show p.length ≤ _
    omega
  · rw [hp] at hpg
    obtain ⟨p, hpp, rfl⟩ := List.mem_map.mp hpg
    exact fun z => absurd rfl z
  · rw [hp, List.getElem?_map] at hpg
    cases q : ps[n]? with
    | none =>
      rw [q] at hpg
      cases hpg
    | some p =>
      rw [q] at hpg
      cases hpg
      rw [rn, hf]
      have hpm := List.mem_of_getElem? q
      refine ⟨?_, fun r hr => ⟨l2 n p q r hr, hb r ?_⟩⟩
      · have : Rise ps.flatten := by rw [L.flat]; exact hr
        exact (List.pairwise_flatten.mp this).1 p hpm
      · rw [← L.flat]
        exact List.mem_flatten.mpr ⟨p, hpm, hr⟩
theorem mk_good {room fill spare : Nat} {rs : List Row} (h1 : 1 ≤ fill) (h2 : fill ≤ room) (h3 : room ≤ 4) (h4 : spare ≤ 20) (hr : RowsOk rs) (hl : rs.length ≤ 999) : WF (mkFS room fill spare rs) ∧ allRows (mkFS room fill spare rs) = rs ∧ Whole (mkFS room fill spare rs) := by
  obtain ⟨a, b, c⟩ := laid_wf (S := mkFS room fill spare rs) (fill := fill) (rs := rs) h1 h2 hr.rise hr.num hl rfl rfl (by simp [mkFS]) h4 ⟨by show 1 ≤ room; omega, h3⟩ (by show 0 < 2; omega)
  refine ⟨a, b, fun n c hc => ?_⟩
  have hc : (List.replicate spare (none : Option Cl))[n]? = some (some c) := hc
  have := List.mem_of_getElem? hc
  have := List.eq_of_mem_replicate this
  cases this
/-! ### cells that get free -/
def frees (cs : List Nat) : List Wr := cs.map fun c => Wr.spill c none
theorem apL_app (S : FS) (a b : List Wr) : apL S (a ++ b) = apL (apL S a) b := List.foldl_append
theorem frees_spills (S : FS) : ∀ (cs : List Nat), (apL S (frees cs)).spills = cs.foldl (fun s c => s.set c none) S.spills ∧ (apL S (frees cs)).pages = S.pages ∧ (apL S (frees cs)).fences = S.fences
  | [] => ⟨rfl, rfl, rfl⟩
  | c :: cs => frees_spills (ap S (.spill c none)) cs
theorem sets_at (cs : List Nat) : ∀ (s : List (Option Cl)) (n : Nat) x, (cs.foldl (fun s c => s.set c none) s)[n]? = some (some x) → n ∉ cs ∧ s[n]? = some (some x) := by
  induction cs with
  | nil => exact fun s n x h => ⟨nofun, h⟩
  | cons c cs ih =>
    intro s n x h
    obtain ⟨h1, h2⟩ := ih (s.set c none) n x h
    by_cases q : n = c
    · subst q
      rw [List.getElem?_set] at h2
      simp at h2
    · rw [List.getElem?_set_ne (Ne.symm q)] at h2
      exact ⟨fun z => by
        rcases List.mem_cons.mp z with z | z
        · exact q z
        · exact h1 z, h2⟩
theorem frees_wf : ∀ (cs : List Nat) (S : FS), WF S → (∀ c ∈ cs, c ∉ chains S) → WF (apL S (frees cs)) ∧ allRows (apL S (frees cs)) = allRows S ∧ chains (apL S (frees cs)) = chains S
  | [], S, h, _ => ⟨h, rfl, rfl⟩
  | c :: cs, S, h, hc => by
    obtain ⟨b1, b2, b3⟩ := h.lone (c := c) (o := none) (hc c List.mem_cons_self)
    obtain ⟨i1, i2, i3⟩ := frees_wf cs (S.up S.pages (S.spills.set c none)) b1 fun x hx => by
      rw [b3]
      exact hc x (List.mem_cons_of_mem _ hx)
    exact ⟨i1, i2.trans b2, i3.trans b3⟩
theorem frees_goes {S : FS} {cs : List Nat} (h : WF S) (hc : ∀ c ∈ cs, c ∉ chains S) : Goes S (frees cs) (allRows S) := by
  have tk : ∀ j, (frees cs).take j = frees (cs.take j) := fun j => List.map_take.symm
  refine ⟨fun j hj => ?_, ⟨0, Nat.zero_le _, fun j hj => ?_⟩, fun hw n x hx => ?_⟩
  · rw [tk]
    exact (frees_wf _ S h fun c hcc => hc c (List.mem_of_mem_take hcc)).1
  · rw [tk, if_neg (by omega)]
    exact (frees_wf _ S h fun c hcc => hc c (List.mem_of_mem_take hcc)).2.1
  · rw [(frees_wf cs S h hc).2.2]
    rw [(frees_spills S cs).1] at hx
    exact hw n x (sets_at cs _ n x hx).2
def usedCells (S : FS) : List Nat := (List.range S.spare).filter fun n => (S.spills.getD n none).isSome
def relayT (S : FS) (fill : Nat) : List Wr := List.replicate (partsOf fill (allRows S)).length .blank ++ (.head (fencesOf (partsOf fill (allRows S))) ((partsOf fill (allRows S)).map fun p => (p, none)) :: frees (usedCells S))
theorem blanks (S : FS) : ∀ n : Nat, apL S (List.replicate n Wr.blank) = S
  | 0 => rfl
  | n + 1 => blanks S n
theorem relay_goes {S : FS} {fill : Nat} (h : WF S) (h1 : 1 ≤ fill) (h2 : fill ≤ S.room) (hl : (allRows S).length ≤ 999) : Goes S (relayT S fill) (allRows S) ∧ Whole (apL S (relayT S fill)) ∧ chains (apL S (relayT S fill)) = [] := by
  obtain ⟨S0, hS0⟩ : ∃ S0, ap S (.head (fencesOf (partsOf fill (allRows S))) ((partsOf fill (allRows S)).map fun p => (p, none))) = S0 := ⟨_, rfl⟩
  have hwh := h.wh
  obtain ⟨a, b, c⟩ := laid_wf (S := S0) (fill := fill) (rs := allRows S) h1 (by rw [← hS0]; exact h2) h.all.1 h.all.2 hl (by rw [← hS0]; rfl) (by rw [← hS0]; rfl) (by rw [← hS0]; exact h.ns) (by rw [← hS0]; exact h.sp) (by rw [← hS0]; exact h.rm) (by rw [← hS0]; show 1 - S.which < 2; omega)
  have fr : ∀ cs : List Nat, WF (apL S0 (frees cs)) ∧ allRows (apL S0 (frees cs)) = allRows S0 ∧ chains (apL S0 (frees cs)) = chains S0 := fun cs => frees_wf cs S0 a fun c' _ => by rw [c]; nofun
  obtain ⟨N, hN⟩ : ∃ N, (partsOf fill (allRows S)).length = N := ⟨_, rfl⟩
  have key : ∀ j, apL S ((relayT S fill).take j) = S ∨ apL S ((relayT S fill).take j) = apL S0 (frees ((usedCells S).take (j - N - 1))) := fun j => by
    unfold relayT
    rw [hN, List.take_append, List.take_replicate, apL_app, blanks, List.length_replicate]
    cases q : j - N with
    | zero => exact .inl rfl
    | succ i =>
      refine .inr ?_
      rw [List.take_succ_cons]
      show apL (ap S _) _ = _
      rw [hS0]
      have : (frees (usedCells S)).take i = frees ((usedCells S).take i) := List.map_take.symm
      rw [this]
      rfl
  have last : apL S (relayT S fill) = apL S0 (frees (usedCells S)) := by
    unfold relayT
    rw [apL_app, blanks]
    show apL (ap S _) _ = _
    rw [hS0]
  have whole : Whole (apL S (relayT S fill)) := fun n x hx => by
    rw [last, (frees_spills S0 _).1] at hx
    obtain ⟨q1, q2⟩ := sets_at _ _ n x hx
    refine absurd (List.mem_filter.mpr ⟨?_, ?_⟩) q1
    · have e : S0.spills = S.spills := by rw [← hS0]; rfl
      rw [e] at q2
      have := (List.getElem?_eq_some_iff.mp q2).1
      rw [h.ns] at this
      simpa using this
    · have e : S0.spills = S.spills := by rw [← hS0]; rfl
      rw [e] at q2
      rw [List.getD_eq_getElem?_getD, q2]
      rfl
  refine ⟨⟨fun j hj => ?_, ⟨0, Nat.zero_le _, fun j hj => ?_⟩, fun _ => whole⟩, whole, by rw [last, (fr _).2.2, c]⟩
  · rcases key j with e | e
    · rw [e]
      exact h
    · rw [e]
      exact (fr _).1
  · rw [if_neg (by omega)]
    rcases key j with e | e
    · rw [e]
    · rw [e, (fr _).2.1, b]
/-! ### mending -/
def lostCells (S : FS) : List Nat := (List.range S.spare).filter fun n => (S.spills.getD n none).isSome && !decide (n ∈ chains S)
theorem mend_goes {S : FS} (h : WF S) : Goes S (frees (lostCells S)) (allRows S) ∧ Whole (apL S (frees (lostCells S))) := by
  have hc : ∀ c ∈ lostCells S, c ∉ chains S := fun c hc => by
    have := (List.mem_filter.mp hc).2
    simp at this
    simpa using this.2
  refine ⟨frees_goes h hc, fun n x hx => ?_⟩
  rw [(frees_wf _ S h hc).2.2]
  rw [(frees_spills S _).1] at hx
  obtain ⟨q1, q2⟩ := sets_at _ _ n x hx
  by_cases z : n ∈ chains S
  · exact z
  · refine absurd (List.mem_filter.mpr ⟨?_, ?_⟩) q1
    · have := (List.getElem?_eq_some_iff.mp q2).1
      rw [h.ns] at this
      simpa using this
    · rw [List.getD_eq_getElem?_getD, q2]
      simpa using z
/-! ### writes that may be stopped -/
def cnt (S : FS) (x : Wr) : FS := { ap S x with many := S.many + 1, left := S.left.map (· - 1) }
def wrL : FS → List Wr → FS × Bool
  | S, [] => (S, true)
  | S, x :: xs => if S.left = some 0 then ({ S with down := true, left := none }, false) else wrL (cnt S x) xs
/-- the same but for what is counted -/
structure SameP (S S' : FS) : Prop where
  room : S'.room = S.room
  spare : S'.spare = S.spare
  which : S'.which = S.which
  fences : S'.fences = S.fences
  pages : S'.pages = S.pages
  spills : S'.spills = S.spills
  marks : S'.marks = S.marks
  count : S'.count = S.count
theorem SameP.refl (S : FS) : SameP S S := ⟨rfl, rfl, rfl, rfl, rfl, rfl, rfl, rfl⟩
theorem SameP.trans {S S' S2 : FS} (a : SameP S S') (b : SameP S' S2) : SameP S S2 := ⟨b.room.trans a.room, b.spare.trans a.spare, b.which.trans a.which, b.fences.trans a.fences, b.pages.trans a.pages, b.spills.trans a.spills, b.marks.trans a.marks, b.count.trans a.count⟩
theorem SameP.ap {S S' : FS} (e : SameP S S') (x : Wr) : SameP (ap S x) (Sp.ap S' x) := by
  obtain ⟨h1, h2, h3, h4, h5, h6, h7, h8⟩ := e
  cases x with
  | page n p => exact ⟨h1, h2, h3, h4, by show S'.pages.set n p = S.pages.set n p; rw [h5], h6, h7, h8⟩
  | spill n c => exact ⟨h1, h2, h3, h4, h5, by show S'.spills.set n c = S.spills.set n c; rw [h6], h7, h8⟩
  | blank => exact ⟨h1, h2, h3, h4, h5, h6, h7, h8⟩
  | head fs ps => exact ⟨h1, h2, by show 1 - S'.which = 1 - S.which; rw [h3], rfl, rfl, h6, h7, h8⟩
theorem SameP.apL {S S' : FS} (e : SameP S S') (ws : List Wr) : SameP (apL S ws) (Sp.apL S' ws) := by
  induction ws generalizing S S' with
  | nil => exact e
  | cons x ws ih => exact ih (e.ap x)
theorem SameP.chain {S S' : FS} (e : SameP S S') : chainOf S' = chainOf S ∧ rowsOf S' = rowsOf S ∧ allRows S' = allRows S ∧ chains S' = chains S := by
  have e1 : chainOf S' = chainOf S := by
    funext pg
    unfold chainOf
    rw [e.spills]
  have e2 : rowsOf S' = rowsOf S := by
    funext pg
    unfold rowsOf
    rw [e1]
    congr 1
    exact List.map_congr_left fun c _ => cellRow_eq (by rw [e.spills])
  exact ⟨e1, e2, by unfold allRows; rw [e.pages, e2], by unfold chains; rw [e.pages, e1]⟩
theorem SameP.wf {S S' : FS} (e : SameP S S') (h : WF S) : WF S' := h.ext e.room e.spare e.fences e.pages e.spills (by rw [e.which]; exact h.wh)
theorem SameP.whole {S S' : FS} (e : SameP S S') (h : Whole S) : Whole S' := fun n c hc => by
  rw [e.chain.2.2.2]
  exact h n c (by rw [← e.spills]; exact hc)
theorem wrL_spec : ∀ (ws : List Wr) (S : FS), S.down = false → ∃ j ≤ ws.length, SameP (apL S (ws.take j)) (wrL S ws).1 ∧ ((wrL S ws).2 = true → j = ws.length ∧ (wrL S ws).1.down = false) ∧ ((wrL S ws).2 = false → j < ws.length ∧ (wrL S ws).1.down = true)
  | [], S, hd => ⟨0, Nat.le_refl _, SameP.refl S, fun _ => ⟨rfl, hd⟩, nofun⟩
  | x :: ws, S, hd => by
    unfold wrL
    split
    · exact ⟨0, Nat.zero_le _, ⟨rfl, rfl, rfl, rfl, rfl, rfl, rfl, rfl⟩, nofun, fun _ => ⟨by simp, rfl⟩⟩
    · have hd' : (cnt S x).down = false := by
        cases x <;> exact hd
      obtain ⟨j, h1, h2, h3, h4⟩ := wrL_spec ws (cnt S x) hd'
      refine ⟨j + 1, by simpa using h1, ?_, fun z => ?_, fun z => ?_⟩
      · rw [List.take_succ_cons]
        exact SameP.trans (SameP.apL (S := ap S x) (S' := cnt S x) ⟨rfl, rfl, rfl, rfl, rfl, rfl, rfl, rfl⟩ (ws.take j)) h2
      · obtain ⟨a, b⟩ := h3 z
        exact ⟨by simp [a], b⟩
      · obtain ⟨a, b⟩ := h4 z
        exact ⟨by simpa using a, b⟩
end Sp

set_option Elab.async false
set_option linter.all false
set_option maxRecDepth 100000
set_option maxHeartbeats 4000000
/-! Lists that are held; sorted rows; in; the laws' file read. -/
namespace SE
open PySem L2 SM SR SD Sp
section
variable {X : Wd} {Φ : Iv} {H H1 H2 : Hp} {L : Lo} {σ : L2.St} {Γ Γ' : Gm} {v : V} {d e : D} {i j : Nat} {te tl : TE} {l : Addr} {ds : List D} {P : Program} {w : World} {K : PySem.W.Frag}
/-- Φ holds a list -/
def HL (Φ : Iv) (l : Addr) (ds : List D) : Prop := ∀ N Hh, Φ.p N Hh → ∃ vs, Hh l = some (.lst vs) ∧ Dts (hid N Hh) vs ds
theorem ev_hlItem {k : Int} (h : HL Φ l ds) (hv : EvV X Φ tl Γ (.ref l)) (hk : Ev X Φ te Γ (.int k)) (ha : L2.atI ds k = some d) : Ev X Φ (tOp (rIxU P w K) tl te) Γ d := fun L H σ c g Q q =>
  hv L H σ c g _ fun H1 e1 => hk L H1 σ (c.up e1) (g.up e1) _ fun u H2 e2 r2 => by
    cases r2
    have cc := c.up (e1.trans e2)
    obtain ⟨vs, h1, h2⟩ := h _ _ cc.at_
    obtain ⟨z, hz, r⟩ := dts_atI h2 ha
    exact .inl (.inl ⟨_, _, k, z, rfl, rfl, SqL.of h1, hz, q z H2 (e1.trans e2) r⟩)
theorem ev_hlLen (h : HL Φ l ds) (hv : EvV X Φ tl Γ (.ref l)) : Ev X Φ (tCB (rLenU K) (tCons tl tNil)) Γ (.int ds.length) := fun L H σ c g Q q =>
  hv L H σ c g _ fun H1 e1 => by
    obtain ⟨vs, h1, h2⟩ := h _ _ (c.up e1).at_
    refine ⟨_, _, rfl, .inl ⟨_, SqL.of h1, rfl⟩, ?_⟩
    rw [Dts.len h2]
    exact q _ H1 e1 (.int _)
/-! ### in -/
end
end SE
namespace SR
open PySem PySem.Spec PyProof.Rows L2 SM
end SR
namespace Sp
open PySem L2 SM SR SD SE
/-! ### sorted rows -/
/-! ### the laws' file read -/
section
variable {X : Wd} {Φ : Iv} {Γ : Gm} {P : Program} {w : World} {K : PySem.W.Frag} {a : Ad} {G : MA} {S : FS} {i : Nat} {te : TE} {ta : TA} {d : D} {ds : List D} {E : XK}
theorem evv_m {k : Str} {v : V} (h : MIn Φ G S) (hv : Γ[i]? = some (.val (.ref G.m))) (hk : valV (mKvs G S) (.inr k) = some v) : EvV X Φ (tOp (rIxU P w K) (tVar i) (tC (.str k))) Γ v := fun L H σ c g Q q => by
  obtain ⟨vps, vss, h1, _⟩ := h _ _ c.at_
  exact ⟨_, g.ok i _ hv, .inr (.inl ⟨G.m, v, rfl, .inl ⟨_, .inr k, .inl h1, rfl, hk.symm⟩, q H (Same.refl H)⟩)⟩
theorem ev_m {k : Str} {v : V} (h : MIn Φ G S) (hv : Γ[i]? = some (.val (.ref G.m))) (hk : valV (mKvs G S) (.inr k) = some v) (hf : flat d = some v) : Ev X Φ (tOp (rIxU P w K) (tVar i) (tC (.str k))) Γ d := fun L H σ c g Q q =>
  evv_m h hv hk L H σ c g Q fun H2 e => q _ H2 e (of_flat hf)
theorem hl_pages (h : MIn Φ G S) : HL Φ G.lp (S.pages.map dPage) := fun N Hh p => by
  obtain ⟨vps, vss, h1, h2, h3, h4, _⟩ := h _ _ p
  exact ⟨_, h3, h4⟩
theorem hl_spills (h : MIn Φ G S) : HL Φ G.ls (S.spills.map dCell) := fun N Hh p => by
  obtain ⟨vps, vss, h1, h2, h3, h4, h5, h6, _⟩ := h _ _ p
  exact ⟨_, h5, h6⟩
theorem hl_marks (h : MIn Φ G S) : HL Φ G.lm ((S.marks.map (·.2)).map PyData.int) := fun N Hh p => by
  obtain ⟨vps, vss, h1, h2, h3, h4, h5, h6, h7, _⟩ := h _ _ p
  exact ⟨_, h7, dts_int _ _⟩
theorem ev_mPage {n : Nat} {pg : Pg} (h : MIn Φ G S) (hv : Γ[i]? = some (.val (.ref G.m))) (hk : Ev X Φ te Γ (dInt n)) (hn : S.pages[n]? = some pg) : Ev X Φ (tOp (rIxU P w K) (tOp (rIxU P w K) (tVar i) (tC (.str "pages"))) te) Γ (dPage pg) :=
  ev_hlItem (hl_pages h) (evv_m h hv rfl) hk (by
    have hl := (List.getElem?_eq_some_iff.mp hn).1
    rw [atI_nat rfl (by simpa using hl)]
    simp [hn])
theorem ev_mCell {n : Nat} {c : Option Cl} (h : MIn Φ G S) (hv : Γ[i]? = some (.val (.ref G.m))) (hk : Ev X Φ te Γ (dInt n)) (hn : S.spills[n]? = some c) : Ev X Φ (tOp (rIxU P w K) (tOp (rIxU P w K) (tVar i) (tC (.str "spills"))) te) Γ (dCell c) :=
  ev_hlItem (hl_spills h) (evv_m h hv rfl) hk (by
    have hl := (List.getElem?_eq_some_iff.mp hn).1
    rw [atI_nat rfl (by simpa using hl)]
    simp [hn])
theorem ev_mNp (h : MIn Φ G S) (hv : Γ[i]? = some (.val (.ref G.m))) : Ev X Φ (tCB (rLenU K) (tCons (tOp (rIxU P w K) (tVar i) (tC (.str "pages"))) tNil)) Γ (dInt S.pages.length) := ev_eq (ev_hlLen (hl_pages h) (evv_m h hv rfl)) (by simp)
theorem ev_mNm (h : MIn Φ G S) (hv : Γ[i]? = some (.val (.ref G.m))) : Ev X Φ (tCB (rLenU K) (tCons (tOp (rIxU P w K) (tVar i) (tC (.str "marks"))) tNil)) Γ (dInt S.marks.length) := ev_eq (ev_hlLen (hl_marks h) (evv_m h hv rfl)) (by simp)
/-- a def that reads the laws' whole file -/
def AtW (M : Ads) (H : Hp) (o : Addr) (S : FS) : Prop := ∃ G : MA, G.m = o ∧ (∀ b ∈ G.foot, b ∈ M) ∧ ModAt M H G S ∧ WF S
/-- Φ holds the laws' file -/
structure MHas (Φ : Iv) (G : MA) (S : FS) : Prop where
  sub : ∀ b ∈ G.foot, b ∈ Φ.fp
  at_ : MIn Φ G S
  wf : WF S
theorem ev_callW {f : FS → List D → Option Rs} {tm : TE} (h : MHas Φ G S) (hv : EvV X Φ tm Γ (.ref G.m)) (ha : EvA X Φ ta Γ ds) (e : f S ds = some (.ok d)) : Ev X Φ (tCall (SpO AtW f) [] E (tCons tm ta)) Γ d := fun L H σ c g Q q =>
  hv L H σ c g _ fun H1 e1 => ha L H1 σ (c.up e1) (g.up e1) _ fun vs H2 e2 rr => by
    have cc := c.up (e1.trans e2)
    show SpO AtW f ((V.ref G.m :: vs) ++ []) H2 Q E
    rw [List.append_nil]
    refine ⟨_, G.m, vs, S, ds, rfl, cc.lv, ⟨G, rfl, fun b hb => Or.inr (Or.inr (h.sub b hb)), h.at_ _ _ cc.at_, h.wf⟩, rr, ?_⟩
    rw [e]
    exact fun v H' e3 r3 => q v H' ((e1.trans e2).trans e3) r3
theorem ModAt.at0 {M : Ads} {H : Hp} (h : ModAt M H G S) (hs : ∀ b ∈ G.foot, b ∈ M) : At0 (ivM G S) M H := ⟨h.live, fun b o hb z => by
  obtain ⟨m, hb⟩ := hid_some hb
  refine (hid_out ?_).trans hb
  rintro (y | y)
  · exact m y
  · exact m (hs b y), h⟩
theorem mhas_iv (wf : WF S) : MHas (ivM G S) G S := ⟨fun b hb => hb, fun _ _ p => p, wf⟩
theorem MHas.andr {Ψ : Iv} (h : MHas Φ G S) : MHas (Ψ.and Φ) G S := ⟨fun b hb => List.mem_append_right _ (h.sub b hb), fun N Hh p => h.at_ N Hh p.2, h.wf⟩
theorem MHas.andl {Ψ : Iv} (h : MHas Φ G S) : MHas (Φ.and Ψ) G S := ⟨fun b hb => List.mem_append_left _ (h.sub b hb), fun N Hh p => h.at_ N Hh p.1, h.wf⟩
end
end Sp

set_option Elab.async false
set_option linter.all false
set_option maxRecDepth 100000
set_option maxHeartbeats 4000000
/-! Promises of the laws' own going. -/
namespace Sp
open PySem L2 SM SR SD SE
def tlS : Tl → Str
  | .again => "again"
  | .new => "new"
  | .full => "full"
def f_chainL (S : FS) : List D → Option Rs
  | [.int n] => if 0 ≤ n then (match S.pages[n.toNat]? with
    | some pg => some (.ok (.list ((chainOf S pg).map dInt)))
    | none => none) else none
  | _ => none
def sp_law_chain (P : Program) (w : World) (K : PySem.W.Frag) (a : Ad) : Sp := SpO AtW f_chainL
def f_allL (S : FS) : List D → Option Rs
  | [] => some (.ok (dList (allRows S)))
  | _ => none
def sp_law_all (P : Program) (w : World) (K : PySem.W.Frag) (a : Ad) : Sp := SpO AtW f_allL
/-- writes that can be done -/
def wrIn (S : FS) : Wr → Prop
  | .page n _ => n < S.pages.length
  | .spill n _ => n < S.spills.length
  | .blank => True
  | .head _ _ => False
def WsOk (S : FS) (ws : List Wr) : Prop := (∀ x ∈ ws, wrIn S x) ∨ ∃ (n : Nat) (fs : List Int) (ps : List Pg) (cs : List Nat), ws = List.replicate n .blank ++ (.head fs ps :: frees cs) ∧ ps ≠ [] ∧ ∀ c ∈ cs, c < S.spills.length
def upS (S : FS) : FS := { S with down := false, left := none }
/-! ### steps -/
inductive Stp where
  | find (k : Int)
  | look (k : Int)
  | put (k w : Int)
  | take (k : Int)
  | mark
  | next (m : Nat)
  | relay (n : Nat)
  | stop (n : Nat)
  | mend
abbrev dStp : Stp → D
  | .find k => .tuple [.str "find", .int k]
  | .look k => .tuple [.str "look", .int k]
  | .put k w => .tuple [.str "put", .int k, .int w]
  | .take k => .tuple [.str "take", .int k]
  | .mark => .tuple [.str "mark"]
  | .next m => .tuple [.str "next", dInt m]
  | .relay n => .tuple [.str "relay", dInt n]
  | .stop n => .tuple [.str "stop", dInt n]
  | .mend => .tuple [.str "mend"]
/-- a step that can be -/
def StpOk (S : FS) : Stp → Prop
  | .find k => 0 ≤ k ∧ k ≤ 999
  | .look k => 0 ≤ k ∧ k ≤ 999
  | .put k w => RowOk (k, w)
  | .take k => 0 ≤ k ∧ k ≤ 999
  | .mark => S.marks.length < 1000
  | .next m => m < S.marks.length
  | .relay n => 1 ≤ n ∧ n ≤ S.room ∧ (allRows S).length ≤ 999
  | .stop n => n ≤ 99
  | .mend => True
/-- writes, and what is told if none is stopped -/
def wrD (S : FS) (ws : List Wr) (d : D) : FS × D := ((wrL S ws).1, if (wrL S ws).2 then d else .str "stopped")
def nextOf (S : FS) (m : Nat) : List Row := (allRows S).filter fun r => decide ((S.marks.getD m (0, 0)).2 < r.1)
def setMark (S : FS) (m : Nat) (v : Int) : FS := { S with marks := S.marks.set m ((S.marks.getD m (0, 0)).1, v) }
def isMend : Stp → Bool
  | .mend => true
  | _ => false
def mendS (S : FS) : FS × D := ((wrL (upS S) (frees (lostCells S))).1, .list ((lostCells S).map dInt))
/-- what the laws' own going comes to, where no write was stopped -/
def doU (S : FS) : Stp → FS × D
  | .find k => (S, dO (lastVal (allRows S) k))
  | .look k => (S, dInt (looksOf S k))
  | .mark => ({ S with marks := S.marks ++ [((S.marks.length : Int), -1)], count := S.count + 1 }, dInt S.marks.length)
  | .next m => (match nextOf S m with
    | r :: _ => (setMark S m r.1, dRow r)
    | [] => (S, .none))
  | .stop n => ({ S with left := some (n : Int) }, .none)
  | .relay n => wrD S (relayT S n) (dInt (partsOf n (allRows S)).length)
  | .put k w => wrD S (putT S k w).2 (.str (tlS (putT S k w).1))
  | .take k => wrD S (takeT S k).2 (match (takeT S k).1 with
    | some v => .int v
    | none => .str "row")
  | .mend => mendS S
def doS (S : FS) (st : Stp) : FS × D := if isMend st = true then mendS S else if S.down = true then (S, .str "stopped") else doU S st
theorem doS_up {S : FS} {st : Stp} (hd : S.down = false) (hm : isMend st = false := by rfl) : doS S st = doU S st := by
  unfold doS
  rw [if_neg (by rw [hm]; decide), if_neg (by rw [hd]; decide)]
theorem doS_down {S : FS} {st : Stp} (hd : S.down = true) (hm : isMend st = false := by rfl) : doS S st = (S, .str "stopped") := by
  unfold doS
  rw [if_neg (by rw [hm]; decide), if_pos hd]
/-- what a step may be -/
def StpGot (S : FS) (stops : Bool) (st : Stp) : Prop := match st with
  | .relay n => 1 ≤ n ∧ n ≤ S.room
  | .stop n => n ≤ 4 ∧ stops = true
  | .mend => stops = true
  | st => StpOk S st
/-- a def that draws and reads the laws' file -/
def SpRowW (K : PySem.W.Frag) (f : FS → List D → D → Prop) : Sp := fun vs H Q E => ∃ (M : Ads) (r scr : Addr) (G : MA) (S : FS) (us : List V) (ds : List D), vs = .ref r :: .ref G.m :: us ∧ Lv M H ∧ r ∈ M ∧ r ∉ G.foot ∧ (∀ b ∈ G.foot, b ∈ M) ∧ RowAt K H r scr ∧ ModAt M H G S ∧ WF S ∧ Dts (hid M H) us ds ∧ (∃ d, f S ds d) ∧ ∀ v d H', f S ds d → But [r] H H' → RowAt K H' r scr → Dt (hid M H') v d → Q v H'
def f_stepL (S : FS) : List D → D → Prop := fun ds d => ∃ stops, ds = [.bool stops] ∧ ∃ st, StpGot S stops st ∧ d = dStp st
def sp_law_step (P : Program) (w : World) (K : PySem.W.Frag) (a : Ad) : Sp := SpRowW K f_stepL
def f_keyL : List D → D → Prop := fun ds d => ∃ far : Int, 1 ≤ far ∧ far ≤ 1000000 ∧ ds = [.int far] ∧ ∃ k : Int, 0 ≤ k ∧ (k < 30 ∨ k < far) ∧ d = .int k
def sp_law_key (P : Program) (w : World) (K : PySem.W.Frag) (a : Ad) : Sp := SpRow K f_keyL
end Sp

set_option Elab.async false
set_option linter.all false
set_option maxRecDepth 100000
set_option maxHeartbeats 4000000
/-! Readings, printed by gen.py. -/
namespace Sp
open PySem L2 SM SR SD SE
def t_law_key (P : Program) (w : World) (K : PySem.W.Frag) (a : Ad) (E : XK) : TS :=
  (tRet (tCall (sp_law_taken P w K a) [] E (tCons (tVar 0) (tCons (tOp (rIxU P w K) (tLst (tCons (tC (.int 9)) (tCons (tC (.int 30)) (tCons (tVar 1) tNil)))) (tCall (sp_law_taken P w K a) [] E (tCons (tVar 0) (tCons (tC (.int 3)) tNil)))) tNil))))
abbrev n_law_key : List Str := ["_law_row", "_law_far"]
def t_law_chain (P : Program) (w : World) (K : PySem.W.Frag) (a : Ad) (E : XK) : TS :=
  (tSeq (tPar 2 3 (tCons (tLst tNil) (tCons (tOp (rIxU P w K) (tOp (rIxU P w K) (tOp (rIxU P w K) (tVar 0) (tC (.str "pages"))) (tVar 1)) (tC (.int 1))) tNil))) (tSeq (tWhile (tTest (tOp rNotNone (tVar 3) (tC .non))) (tSeq (tDrop (tBM K "list" rAppend (tVar 2) (tCons (tVar 3) tNil))) (tAsg (tOp (rIxU P w K) (tOp (rIxU P w K) (tOp (rIxU P w K) (tVar 0) (tC (.str "spills"))) (tVar 3)) (tC (.int 1))) (gName 3)))) (tRet (tVar 2))))
abbrev n_law_chain : List Str := ["_law_m", "_law_page", "_law_found", "_law_cell"]
def t_law_all (P : Program) (w : World) (K : PySem.W.Frag) (a : Ad) (E : XK) : TS :=
  (tSeq (tAsg (tLst tNil) (gName 1)) (tSeq (tFor (iRng1 (tCons (tCB (rLenU K) (tCons (tOp (rIxU P w K) (tVar 0) (tC (.str "pages"))) tNil)) tNil)) (gName 2) (tAsg (tOp (rAddU K) (tOp (rAddU K) (tVar 1) (tCB (rListU K) (tCons (tOp (rIxU P w K) (tOp (rIxU P w K) (tOp (rIxU P w K) (tVar 0) (tC (.str "pages"))) (tVar 2)) (tC (.int 0))) tNil))) (tLc (iSeqU K (tCall (sp_law_chain P w K a) [] E (tCons (tVar 0) (tCons (tVar 2) tNil)))) (gName 3) tYes (tOp (rIxU P w K) (tOp (rIxU P w K) (tOp (rIxU P w K) (tVar 0) (tC (.str "spills"))) (tVar 3)) (tC (.int 0))) [3])) (gName 1))) (tRet (tVar 1))))
abbrev n_law_all : List Str := ["_law_m", "_law_found", "_law_page", "_law_cell"]
def t_law_step (P : Program) (w : World) (K : PySem.W.Frag) (a : Ad) (E : XK) : TS :=
  (tSeq (tAsg (tCall (sp_law_taken P w K a) [] E (tCons (tVar 0) (tCons (tC (.int 20)) tNil))) (gName 3)) (tSeq (tPar 4 5 (tCons (tCall (sp_law_key P w K a) [] E (tCons (tVar 0) (tCons (tC (.int 1000)) tNil))) (tCons (tCall (sp_law_taken P w K a) [] E (tCons (tVar 0) (tCons (tC (.int 1000)) tNil))) tNil))) (tSeq (tAsg (tLc (iSeqU K (tCall (sp_law_all P w K a) [] E (tCons (tVar 1) tNil))) (gName 8) tYes (tOp (rIxU P w K) (tVar 8) (tC (.int 0))) [8]) (gName 6)) (tSeq (tIfS (tTest (tOp rLtI (tVar 3) (tC (.int 8)))) (tRet (tTupB (tCons (tC (.str "put")) (tCons (tVar 4) (tCons (tVar 5) tNil))))) tNext) (tSeq (tIfS (tTest (tOp rLtI (tVar 3) (tC (.int 12)))) (tRet (tTupB (tCons (tC (.str "take")) (tCons (tIf (tTest (tOp (rNeD K) (tVar 6) (tLst tNil))) (tOp (rIxU P w K) (tLst (tCons (tOp (rIxU P w K) (tVar 6) (tOp rModI (tVar 5) (tCB (rLenU K) (tCons (tVar 6) tNil)))) (tCons (tVar 4) tNil))) (tCB rIntU (tCons (tOp (rEqD K) (tOp rModI (tVar 5) (tC (.int 7))) (tC (.int 0))) tNil))) (tVar 4)) tNil)))) tNext) (tSeq (tIfS (tTest (tOp rLtI (tVar 3) (tC (.int 14)))) (tRet (tOp (rIxU P w K) (tLst (tCons (tTupB (tCons (tC (.str "find")) (tCons (tVar 4) tNil))) (tCons (tTupB (tCons (tC (.str "look")) (tCons (tVar 4) tNil))) tNil))) (tOp rSubI (tVar 3) (tC (.int 12))))) tNext) (tSeq (tIfS (tTest (tOp rLtI (tVar 3) (tC (.int 16)))) (tSeq (tAsg (tCB (rLenU K) (tCons (tOp (rIxU P w K) (tVar 1) (tC (.str "marks"))) tNil)) (gName 7)) (tRet (tIf (tOr (tAnd (tTest (tOp rGtI (tVar 7) (tC (.int 0)))) (tTest (tOp (rEqD K) (tVar 3) (tC (.int 14))))) (tTest (tOp rGtI (tVar 7) (tC (.int 3))))) (tTupB (tCons (tC (.str "next")) (tCons (tOp rModI (tVar 5) (tVar 7)) tNil))) (tTupB (tCons (tC (.str "mark")) tNil))))) tNext) (tSeq (tIfS (tTest (tOp (rEqD K) (tVar 3) (tC (.int 16)))) (tRet (tTupB (tCons (tC (.str "relay")) (tCons (tOp (rAddU K) (tC (.int 1)) (tOp rModI (tVar 5) (tOp (rIxU P w K) (tVar 1) (tC (.str "room"))))) tNil)))) tNext) (tSeq (tIfS (tAnd (tTest (tOp (rEqD K) (tVar 3) (tC (.int 17)))) (tB (tVar 2))) (tRet (tTupB (tCons (tC (.str "stop")) (tCons (tOp rModI (tVar 5) (tC (.int 5))) tNil)))) tNext) (tRet (tIf (tAnd (tTest (tOp rGtI (tVar 3) (tC (.int 17)))) (tB (tVar 2))) (tTupB (tCons (tC (.str "mend")) tNil)) (tTupB (tCons (tC (.str "put")) (tCons (tVar 4) (tCons (tVar 5) tNil)))))))))))))))
abbrev n_law_step : List Str := ["_law_row", "_law_m", "_law_stops", "_law_way", "_law_key_here", "_law_worth", "_law_keys", "_law_marks", "_law_one"]
end Sp

set_option Elab.async false
set_option linter.all false
set_option maxRecDepth 100000
set_option maxHeartbeats 4000000
/-! The laws' own going: what is read. -/
namespace Sp
open PySem L2 SM SR SD SE
section
variable {X : Wd} {Φ : Iv} {Γ : Gm} {N : Gm → Iv → Prop} {R : Ro → Iv → Prop} {i j : Nat} {K : PySem.W.Frag}
theorem od_neI {a b : Int} : OpD (rNeD K) (.int a) (.int b) (.bool (!decide (a = b))) := by
  have := od_ne (K := K) (d := .int a) (e := .int b) (by rfl) (by rfl)
  rwa [eqv_int] at this
theorem od_eqI {a b : Int} : OpD (rEqD K) (.int a) (.int b) (.bool (decide (a = b))) := by
  have := od_eq (K := K) (d := .int a) (e := .int b) (by rfl) (by rfl)
  rwa [eqv_int] at this
/-- x, y = [], .. -/
theorem fw_par2own {t1 : TE} {d : D} (hij : i ≠ j) (h : Ev X Φ t1 Γ d) (n : N ((Γ.set i (.own [])).set j (.dat d)) Φ) : FW X (tPar i j (tCons (tLst tNil) (tCons t1 tNil))) Γ Φ N R := fun L H σ D c g k r => by
  refine ⟨by decide, fun p hp => ?_⟩
  obtain ⟨c1, s1, _⟩ := own_new (i := i) (vs := []) (ds := []) c g hp .nil
  have sm := new_same (o := .lst []) hp
  have g1 : EnvD X Φ ((i, p) :: L) (upd H p (.lst [])) σ Γ := g.grow (fun q hq => List.mem_cons_of_mem _ hq) sm s1
  refine h _ _ σ c1 g1 _ fun v1 H2 e2 r2 => ?_
  have hp3 : H2 p = some (.lst []) := e2 _ _ upd_same
  exact ⟨_, _, rfl, k _ H2 _ _ Φ (c1.up e2) (s1.trans (Same.s (Same.hid e2))) (((g1.up e2).set (i := i) (v := .ref p) (s := .own []) ⟨p, [], rfl, List.mem_cons_self, hp3, .nil⟩).dat (i := j) r2) n⟩
end
theorem atI_of {ds : List D} {n : Nat} {d : D} (h : ds[n]? = some d) : L2.atI ds ((n : Nat) : Int) = some d := by
  have hl := (List.getElem?_eq_some_iff.mp h).1
  rw [atI_nat rfl hl]
  exact h
section
variable {P : Program} {w : World} {K : PySem.W.Frag} {a : Ad} {X : Wd} {Φ : Iv} {Γ : Gm} {G : MA} {S : FS} {i : Nat} {te : TE} {ta : TA} {E : XK}
theorem ch_lt20 (wf : WF S) {pg : Pg} (h : pg ∈ S.pages) : (chainOf S pg).length ≤ 20 := by
  have h1 := (wf.ch pg h).len
  have h2 := wf.ns
  have h3 := wf.sp
  omega
theorem ch_at (wf : WF S) {pg : Pg} (h : pg ∈ S.pages) {c : Nat} (hc : c ∈ chainOf S pg) : ∃ l, S.spills[c]? = some (some (cellRow S c, l)) := by
  obtain ⟨r, l, e⟩ := (wf.ch pg h).mem c hc
  refine ⟨l, ?_⟩
  rw [e]
  unfold cellRow
  rw [e]
theorem pure_law_chain (vs : List V) (H : Hp) (Q : VK) (E : XK) (h : sp_law_chain P w K a vs H Q E) : t_law_chain P w K a E { nx := fun _ H' => Q .non H', rt := Q } (L2.start n_law_chain vs) H := by
  obtain ⟨M, o, us, S, ds, rfl, lv, ⟨G, rfl, hsub, hM, wf⟩, r, hr⟩ := h
  have hI : MHas (ivM G S) G S := mhas_iv wf
  match ds, r, hr with
  | [.int n0], r, hr =>
    unfold f_chainL at hr
    by_cases hk : 0 ≤ n0
    · simp only [if_pos hk] at hr
      obtain ⟨n, rfl⟩ := Int.eq_ofNat_of_zero_le hk
      rw [Int.toNat_natCast] at hr
      split at hr
      · rename_i pg hp
        have hm := List.mem_of_getElem? hp
        have hc := wf.ch pg hm
        have hlen := ch_lt20 wf hm
        refine sw_fin lv (hM.at0 hsub) (env_startO (hM.at0 hsub) r (by simp)) ?_ hr
        generalize chainOf S pg = ch at hc hlen
        refine sw_then (Γ' := [Sl.val (.ref G.m), Sl.dat (.int (n : Nat)), Sl.own [], Sl.dat (dLink pg.2)]) (fw_par2own (by decide) (ev_op (ev_mPage hI.at_ rfl (ev_var rfl) hp) (ev_int _) (od_ixT rfl)) ⟨rfl, rfl⟩) ?_
        refine sw_seq (N1 := fun Γ => Γ = [Sl.val (.ref G.m), Sl.dat (.int (n : Nat)), Sl.own (ch.map dInt), Sl.dat .none]) (sw_while (fun Γ => ∃ done rest l, ch = done ++ rest ∧ Ch S.spills l rest ∧ Γ = [Sl.val (.ref G.m), Sl.dat (.int (n : Nat)), Sl.own (done.map dInt), Sl.dat (dLink l)])
          (fun Γ => ch.length - ownLen Γ 2) ⟨[], ch, pg.2, rfl, hc, rfl⟩ fun Γ1 hJ => ?_) fun Γ1 e => ?_
        · obtain ⟨done, rest, l, e1, e2, rfl⟩ := hJ
          cases e2 with
          | nil =>
            refine ⟨false, et_test (ev_op (ev_var rfl) ev_non od_notN), nofun, fun _ => ?_⟩
            rw [List.append_nil] at e1
            rw [e1]
          | @cons m rw_ l' ns h4 h5 =>
            have hd : done.length < 21 := by
              rw [e1] at hlen
              simp at hlen
              omega
            refine ⟨true, et_test (ev_op (ev_var rfl) ev_non od_notN), fun _ => ?_, nofun⟩
            refine sw_then (sw_app (d := dInt m) rfl (ev_var rfl) (by simp; omega)) ?_
            refine sw_mono (sw_asg (d := dLink l') (ev_op (ev_mCell hI.at_ rfl (ev_var rfl) h4) (ev_int _) (od_ixT rfl))) fun Γ' e => ?_
            subst e
            refine ⟨⟨done ++ [m], ns, l', by simp [e1], h5, by simp⟩, ?_⟩
            simp [e1, ownLen]
            omega
        · subst e
          exact sw_retOwn rfl rfl
      · exact hr.elim
    · simp only [if_neg hk] at hr
      exact hr.elim
theorem ev_chainL {tk : TE} {n : Nat} {pg : Pg} (hI : MHas Φ G S) (hv : Γ[i]? = some (.val (.ref G.m))) (hk : Ev X Φ tk Γ (dInt n)) (hp : S.pages[n]? = some pg) : Ev X Φ (tCall (sp_law_chain P w K a) [] E (tCons (tVar i) (tCons tk tNil))) Γ (.list ((chainOf S pg).map dInt)) :=
  ev_callW hI (evv_var hv) (ea_cons hk ea_nil) (by
    show (if (0 : Int) ≤ ((n : Nat) : Int) then (match S.pages[((n : Nat) : Int).toNat]? with
      | some pg => some (Rs.ok (.list ((chainOf S pg).map dInt)))
      | none => none) else none) = _
    rw [if_pos (by omega), Int.toNat_natCast, hp])
/-- [m['spills'][c][0] for c in chain] -/
theorem ev_cellRow {tc : TE} {pg : Pg} {c : Nat} (hI : MHas Φ G S) (hv : Γ[i]? = some (.val (.ref G.m))) (hp : pg ∈ S.pages) (hc : c ∈ chainOf S pg) (hk : Ev X Φ tc Γ (dInt c)) : Ev X Φ (tOp (rIxU P w K) (tOp (rIxU P w K) (tOp (rIxU P w K) (tVar i) (tC (.str "spills"))) tc) (tC (.int 0))) Γ (dRow (cellRow S c)) := by
  obtain ⟨l, e⟩ := ch_at hI.wf hp hc
  exact ev_op (ev_mCell hI.at_ hv hk e) (ev_int _) (od_ixT rfl)
theorem pure_law_all (vs : List V) (H : Hp) (Q : VK) (E : XK) (h : sp_law_all P w K a vs H Q E) : t_law_all P w K a E { nx := fun _ H' => Q .non H', rt := Q } (L2.start n_law_all vs) H := by
  obtain ⟨M, o, us, S, ds, rfl, lv, ⟨G, rfl, hsub, hM, wf⟩, r, hr⟩ := h
  have hI : MHas (ivM G S) G S := mhas_iv wf
  match ds, r, hr with
  | [], r, hr =>
    refine sw_fin lv (hM.at0 hsub) (env_startO (hM.at0 hsub) r (by simp)) ?_ hr
    have hpn := wf.pn
    refine sw_then (sw_asg (ev_lst ea_nil (by simp))) (sw_seq (N1 := fun Γ => ∃ s, Γ = [Sl.val (.ref G.m), Sl.dat (dList (allRows S)), s, Sl.no]) (sw_for (ei_range1 (ea_cons (ev_mNp hI.at_ rfl) ea_nil) (by omega) (by omega)) (fun k Γ => ∃ s, Γ = [Sl.val (.ref G.m), Sl.dat (dList ((S.pages.take k).flatMap (rowsOf S))), s, Sl.no]) ⟨_, rfl⟩ (fun k d Γ1 hk hJ => ?_) fun Γ1 hJ => ?_) fun Γ1 hJ => ?_)
    · obtain ⟨s, rfl⟩ := hJ
      have hkl : k < S.pages.length := by
        have := (List.getElem?_eq_some_iff.mp hk).1
        simp [rgD] at this
        omega
      have hd : d = dInt k := by
        simp [rgD, hkl] at hk
        exact hk.symm
      subst hd
      refine ⟨_, tg_name, ?_⟩
      have hpk : S.pages[k]? = some S.pages[k] := by simp [hkl]
      have hpm : S.pages[k] ∈ S.pages := List.getElem_mem hkl
      have hcl := ch_lt20 wf hpm
      have hsz := wf.sz _ hpm
      have hrm := wf.rm
      have h1 : ∀ l : List Pg, (∀ pg ∈ l, pg ∈ S.pages) → (l.flatMap (rowsOf S)).length ≤ 24 * l.length := fun l hl => by
        induction l with
        | nil => simp
        | cons p l ih =>
          have hp := hl p List.mem_cons_self
          have := ih fun x hx => hl x (List.mem_cons_of_mem _ hx)
          have h2 := wf.sz p hp
          have h3 := ch_lt20 wf hp
          simp only [List.flatMap_cons, List.length_append, List.length_cons]
          have : (rowsOf S p).length ≤ 24 := by
            simp only [rowsOf, List.length_append, List.length_map]
            omega
          omega
      have h2 := h1 (S.pages.take k) fun x hx => List.mem_of_mem_take hx
      simp only [List.length_take] at h2
      refine sw_mono (sw_asg (d := dList ((S.pages.take (k + 1)).flatMap (rowsOf S))) (ev_eq (ev_op (ev_op (ev_var rfl) (ev_cb (ea_cons (ev_op (ev_mPage hI.at_ rfl (ev_var rfl) hpk) (ev_int _) (od_ixT rfl)) ea_nil) cb_listT) (od_addL (by simp only [List.length_map]; omega))) (ev_lcm (xs := chainOf S S.pages[k]) (enc := dInt) (fun c => dRow (cellRow S c)) (ei_seqL (ev_chainL hI rfl (ev_var rfl) hpk)) (by omega) fun c hc => ⟨_, tgw_name, ev_cellRow hI rfl hpm hc (ev_var rfl)⟩) (od_addL (by simp only [List.length_map, List.length_append]; omega))) ?_)) fun Γ' e => ?_
      · have e2 : (S.pages.take (k + 1)).flatMap (rowsOf S) = (S.pages.take k).flatMap (rowsOf S) ++ rowsOf S S.pages[k] := by
          rw [List.take_add_one, hpk, List.flatMap_append]
          simp only [Option.toList_some, List.flatMap_cons, List.flatMap_nil, List.append_nil]
        rw [e2]
        simp [rowsOf, List.map_append, Function.comp_def]
      · subst e
        exact ⟨_, rfl⟩
    · obtain ⟨s, rfl⟩ := hJ
      refine ⟨s, ?_⟩
      have : (rgD 0 1 ((S.pages.length : Nat) : Int).toNat).length = S.pages.length := by simp [rgD]
      rw [this, List.take_length]
      rfl
    · obtain ⟨s, rfl⟩ := hJ
      exact sw_ret (ev_var rfl) rfl
theorem ev_all (hI : MHas Φ G S) (hv : Γ[i]? = some (.val (.ref G.m))) : Ev X Φ (tCall (sp_law_all P w K a) [] E (tCons (tVar i) tNil)) Γ (dList (allRows S)) := ev_callW hI (evv_var hv) ea_nil rfl
end
end Sp

set_option Elab.async false
set_option linter.all false
set_option maxRecDepth 100000
set_option maxHeartbeats 4000000
/-! The laws' own going: looks, put, take. -/
namespace Sp
open PySem L2 SM SR SD SE
/-! ### plain facts -/
theorem insR_perm (r : Row) (rs : List Row) : (insR r rs).Perm ((rs.filter fun x => !decide (x.1 = r.1)) ++ [r]) := by
  have h0 := List.filter_append_perm (fun x : Row => decide (x.1 < r.1)) (rs.filter fun x => !decide (x.1 = r.1))
  rw [List.filter_filter, List.filter_filter] at h0
  have e1 : rs.filter (fun x => decide (x.1 < r.1) && !decide (x.1 = r.1)) = rs.filter fun x => decide (x.1 < r.1) := List.filter_congr fun x _ => by
    by_cases h : x.1 < r.1
    · have : ¬ x.1 = r.1 := by omega
      simp [h, this]
    · simp [h]
  have e2 : rs.filter (fun x => (!decide (x.1 < r.1)) && !decide (x.1 = r.1)) = rs.filter fun x => decide (r.1 < x.1) := List.filter_congr fun x _ => by
    by_cases h : r.1 < x.1
    · have h2 : ¬ x.1 = r.1 := by omega
      have h3 : ¬ x.1 < r.1 := by omega
      simp [h, h2, h3]
    · by_cases h2 : x.1 < r.1
      · simp [h, h2]
      · have h3 : x.1 = r.1 := by omega
        simp [h, h3]
  rw [e1, e2] at h0
  unfold insR
  refine (List.perm_middle).trans ?_
  exact (List.Perm.cons r h0).trans (List.perm_append_singleton r _).symm
section
variable {P : Program} {w : World} {K : PySem.W.Frag} {a : Ad} {X : Wd} {Φ : Iv} {Γ : Gm} {G : MA} {S : FS} {i : Nat} {te : TE} {ta : TA} {E : XK}
theorem od_neNilL {ds : List D} (h : SeqAt.shaped (.list ds) = true) : OpD (rNeD K) (.list ds) (.list []) (.bool (!ds.isEmpty)) := by
  have := od_ne (K := K) (d := .list ds) (e := .list []) h (by rfl)
  rwa [eqv_nilL] at this
end
end Sp

set_option Elab.async false
set_option linter.all false
set_option maxRecDepth 100000
set_option maxHeartbeats 4000000
/-! The laws' own going: put. -/
namespace Sp
open PySem L2 SM SR SD SE
theorem cut_from (ds : List D) (n : Nat) (h : n ≤ ds.length) : cut ds (some ((n : Nat) : Int)) none = ds.drop n := by
  unfold cut HT.sIx
  simp only
  rw [if_neg (by omega)]
  have : (min ((n : Nat) : Int).toNat ds.length) = n := by omega
  rw [this, List.take_of_length_le (by simp)]
section
variable {P : Program} {w : World} {K : PySem.W.Frag} {a : Ad}
end
end Sp

set_option Elab.async false
set_option linter.all false
set_option maxRecDepth 100000
set_option maxHeartbeats 4000000
/-! The laws' own going: take, anew. -/
namespace Sp
open PySem L2 SM SR SD SE
section
variable {P : Program} {w : World} {K : PySem.W.Frag} {a : Ad}
end
end Sp

set_option Elab.async false
set_option linter.all false
set_option maxRecDepth 100000
set_option maxHeartbeats 4000000
/-! The laws' own going: anew. -/
namespace Sp
open PySem L2 SM SR SD SE
section
variable {P : Program} {w : World} {K : PySem.W.Frag} {a : Ad} {E : XK}
end
end Sp

set_option Elab.async false
set_option linter.all false
set_option maxRecDepth 100000
set_option maxHeartbeats 4000000
/-! The laws' own going: write. -/
namespace Sp
open PySem L2 SM SR SD SE
section
variable {P : Program} {w : World} {K : PySem.W.Frag} {a : Ad} {M : Ads} {H H1 : Hp} {G : MA} {S S1 : FS} {σ : L2.St} {m : Addr} {kvs : List (Key × V)} {k : Str} {v : V} {Q : VK}
/-! ### the file's places, changed -/
theorem ModAt.ne (h : ModAt M H G S) : G.m ≠ G.lf ∧ G.m ≠ G.lp ∧ G.m ≠ G.ls ∧ G.m ≠ G.lm ∧ G.lf ≠ G.lp ∧ G.lf ≠ G.ls ∧ G.lf ≠ G.lm ∧ G.lp ≠ G.ls ∧ G.lp ≠ G.lm ∧ G.ls ≠ G.lm := by
  obtain ⟨vps, vss, h1, h2, h3, h4, h5, h6, h7, h8⟩ := h
  simp [MA.foot] at h8
  obtain ⟨⟨a1, a2, a3, a4⟩, ⟨b1, b2, b3⟩, ⟨c1, c2⟩, d1⟩ := h8
  exact ⟨a1, a2, a3, a4, b1, b2, b3, c1, c2, d1⟩
end
theorem wrIn_cnt {S : FS} {x y : Wr} (hx : wrIn S x) (h : wrIn S y) : wrIn (cnt S x) y := by
  cases x <;> cases y <;> simp_all [wrIn, cnt, ap, FS.up]
theorem WsOk.next {S : FS} {x : Wr} {xs : List Wr} (h : WsOk S (x :: xs)) : WsOk (cnt S x) xs := by
  rcases h with h | ⟨n, fs, ps, cs, e, hp, hc⟩
  · exact .inl fun y hy => wrIn_cnt (h x List.mem_cons_self) (h y (List.mem_cons_of_mem _ hy))
  · cases n with
    | zero =>
      simp at e
      obtain ⟨rfl, rfl⟩ := e
      refine .inl fun y hy => ?_
      obtain ⟨c, hcc, rfl⟩ := List.mem_map.mp hy
      exact hc c hcc
    | succ n =>
      rw [List.replicate_succ, List.cons_append] at e
      obtain ⟨rfl, rfl⟩ := List.cons.inj e
      exact .inr ⟨n, fs, ps, cs, rfl, hp, hc⟩
section
variable {P : Program} {w : World} {K : PySem.W.Frag} {a : Ad} {M : Ads} {H : Hp} {G : MA} {S : FS} {σ : L2.St} {D : Ends}
end
end Sp

set_option Elab.async false
set_option linter.all false
set_option maxRecDepth 100000
set_option maxHeartbeats 4000000
/-! Rules: the laws' file changed; mend. -/
namespace SE
open PySem L2 SM SR SD Sp
section
variable {X : Wd} {Φ Φ' Ψ : Iv} {H H' H1 H2 : Hp} {L : Lo} {σ : L2.St} {Γ Γ' : Gm} {v : V} {d e : D} {i j : Nat} {te ta tb : TE} {tt : TT} {B : List Addr} {N : Gm → Iv → Prop} {R : Ro → Iv → Prop} {E : XK}
end
end SE
namespace Sp
open PySem L2 SM SR SD SE
section
variable {X : Wd} {Φ Ψ : Iv} {H H' : Hp} {L : Lo} {σ : L2.St} {Γ Γ' : Gm} {v : V} {d e : D} {i j : Nat} {te ta tb : TE} {tt : TT} {N : Gm → Iv → Prop} {R : Ro → Iv → Prop} {E : XK} {P : Program} {w : World} {K : PySem.W.Frag} {a : Ad} {G : MA} {S S1 : FS}
end
end Sp

set_option Elab.async false
set_option linter.all false
set_option maxRecDepth 100000
set_option maxHeartbeats 4000000
/-! The laws' own going: a step done. -/
namespace Sp
open PySem L2 SM SR SD SE
/-! ### the writes can be done -/
section
variable {S : FS} {k w : Int}
end
section
variable {X : Wd} {Φ : Iv} {H H' : Hp} {L : Lo} {σ : L2.St} {Γ Γ' : Gm} {v : V} {d e : D} {i j : Nat} {te ta ti : TE} {t u : TS} {N N1 : Gm → Iv → Prop} {R : Ro → Iv → Prop} {E : XK} {P : Program} {w : World} {K : PySem.W.Frag} {a : Ad} {G : MA} {S S1 : FS} {x y : Str}
end
end Sp

set_option Elab.async false
set_option linter.all false
set_option maxRecDepth 100000
set_option maxHeartbeats 4000000
/-! The laws' own going: keys and steps drawn. -/
namespace Sp
open PySem L2 SM SR SD SE
section
variable {X : Wd} {Φ : Iv} {H H' : Hp} {L : Lo} {σ : L2.St} {Γ Γ' : Gm} {v : V} {d e : D} {i j : Nat} {te ta ti tr tn : TE} {t u : TS} {N N1 : Gm → Iv → Prop} {R : Ro → Iv → Prop} {S0 : D → Iv → Prop} {E : XK} {P : Program} {w : World} {K : PySem.W.Frag} {a : Ad} {G : MA} {S S1 : FS} {r scr : Addr}
/-- a number is drawn, below one that is drawn -/
theorem eg_takenE (ro : RowOf K X Φ r scr) (hv : EvV X Φ tr Γ (.ref r)) (hn : Eg X Φ tn Γ fun d Φ2 => Φ2 = Φ ∧ ∃ n : Int, d = .int n ∧ 1 ≤ n ∧ n < 1000000000 ∧ ∀ k : Int, 0 ≤ k → k < n → S0 (.int k) Φ) : Eg X Φ (tCall (sp_law_taken P w K a) [] E (tCons tr (tCons tn tNil))) Γ S0 := fun L H σ c g Q q =>
  hv L H σ c g _ fun H1 e1 => hn L H1 σ (c.up e1) (g.up e1) _ fun v H2 d Φ2 c2 s2 k2 x r2 => by
    obtain ⟨rfl, n, rfl, h1, h2, h3⟩ := x
    cases r2
    refine ⟨r, scr, n, rfl, h1, h2, ro.at_ _ _ c2.at_, fun k H' k1 k2' b ra => ?_⟩
    obtain ⟨c3, s3, k3⟩ := Cur.row ro c2 b ra
    exact q _ H' _ Φ2 c3 (((Same.s (Same.hid e1)).trans s2).trans s3) (((Kp.same c e1).trans k2).trans k3) (h3 k k1 k2') (.int k)
theorem pure_law_key (vs : List V) (H : Hp) (Q : VK) (E : XK) (h : sp_law_key P w K a vs H Q E) : t_law_key P w K a E { nx := fun _ H' => Q .non H', rt := Q } (L2.start n_law_key vs) H := by
  obtain ⟨M, r, scr, us, ds, rfl, lv, mr, ra, rv, hx, q⟩ := id h
  refine fw_finRow (ds := ds) h fun M r scr us ds e rd hx h0 ro => ?_
  obtain ⟨d0, far, f1, f2, rfl, _⟩ := hx
  cases e
  refine ⟨_, env_startO h0 rd (by simp), ?_⟩
  refine fg_ret (eg_takenE ro (evv_var rfl) (eg_op (eg_of (ev_lst (ea_cons (ev_int 9) (ea_cons (ev_int 30) (ea_cons (ev_var rfl) ea_nil))) (by simp)) (eg_taken ro (evv_var rfl) (ev_int 3) (by decide) (by decide) fun k k1 k2 => ?_))))
  have hk : k = 0 ∨ k = 1 ∨ k = 2 := by omega
  rcases hk with rfl | rfl | rfl
  · exact ⟨.int 9, od_ixL rfl, rfl, 9, rfl, by decide, by decide, fun k h1 h2 => ⟨rfl, _, rfl, far, f1, f2, rfl, k, h1, .inl (by omega), rfl⟩⟩
  · exact ⟨.int 30, od_ixL rfl, rfl, 30, rfl, by decide, by decide, fun k h1 h2 => ⟨rfl, _, rfl, far, f1, f2, rfl, k, h1, .inl h2, rfl⟩⟩
  · exact ⟨.int far, od_ixL rfl, rfl, far, rfl, f1, by omega, fun k h1 h2 => ⟨rfl, _, rfl, far, f1, f2, rfl, k, h1, .inr h2, rfl⟩⟩
theorem eg_key {far : Int} (ro : RowOf K X Φ r scr) (hv : EvV X Φ tr Γ (.ref r)) (hn : Ev X Φ tn Γ (.int far)) (h1 : 1 ≤ far) (h2 : far ≤ 1000000) (s : ∀ k : Int, 0 ≤ k → (k < 30 ∨ k < far) → S0 (.int k) Φ) : Eg X Φ (tCall (sp_law_key P w K a) [] E (tCons tr (tCons tn tNil))) Γ S0 :=
  eg_row (f := f_keyL) ro hv (ea_cons hn ea_nil) ⟨.int 0, far, h1, h2, rfl, 0, by decide, .inl (by decide), rfl⟩ fun d hd => by
    obtain ⟨far', _, _, e, k, k1, k2, rfl⟩ := hd
    cases e
    exact s k k1 k2
/-- the names at the entry: the row, the laws' file, data -/
theorem env_start2 {A : List Addr} {M : Ads} {Ns : List Str} {o1 o2 : Addr} {vs : List V} {ds : List D} (h0 : At0 Φ M H) (rd : Dts (hid M H) vs ds) (hl : ds.length + 2 ≤ Ns.length) : EnvD ⟨A, M, H⟩ Φ [] H (L2.start Ns (.ref o1 :: .ref o2 :: vs)) (Sl.val (.ref o1) :: Sl.val (.ref o2) :: (ds.map Sl.dat ++ List.replicate (Ns.length - (ds.length + 2)) Sl.no)) := by
  have hv := rd.len
  refine ⟨by simp [L2.start, hv], fun i s e => ?_⟩
  cases i with
  | zero =>
    cases e
    rfl
  | succ i =>
    cases i with
    | zero =>
      cases e
      rfl
    | succ i =>
      rw [List.getElem?_cons_succ, List.getElem?_cons_succ] at e
      have hs : (L2.start Ns (.ref o1 :: .ref o2 :: vs))[i + 1 + 1]? = (vs.map some ++ List.replicate (Ns.length - (ds.length + 2)) none)[i]? := by
        unfold L2.start
        rw [List.map_cons, List.map_cons, List.cons_append, List.cons_append, List.getElem?_cons_succ, List.getElem?_cons_succ, List.length_cons, List.length_cons, hv]
      by_cases hi : i < ds.length
      · rw [List.getElem?_append_left (by simpa using hi), List.getElem?_map] at e
        cases q : ds[i]? with
        | none =>
          rw [q] at e
          cases e
        | some d =>
          rw [q] at e
          cases e
          obtain ⟨v, h1, h2⟩ := rd.get q
          refine ⟨v, ?_, h2.mono (start_s h0)⟩
          rw [hs, List.getElem?_append_left (by simp [hv, hi]), List.getElem?_map, h1]
          rfl
      · rw [List.getElem?_append_right (by simpa using hi)] at e
        rw [List.eq_of_mem_replicate (List.mem_of_getElem? e)]
        trivial
theorem fw_finRowW {t : TS} {Ns : List Str} {vs : List V} {f : FS → List D → D → Prop} {Q : VK} (h : SpRowW K f vs H Q E) (hs : ∀ (M : Ads) (r scr : Addr) (G : MA) (S : FS) ds, (∃ d, f S ds d) → WF S → RowOf K ⟨[r], M, H⟩ ((ivRow K r scr).and (ivM G S)) r scr → MHas ((ivRow K r scr).and (ivM G S)) G S → ds.length + 2 ≤ Ns.length ∧
    FW ⟨[r], M, H⟩ t (Sl.val (.ref r) :: Sl.val (.ref G.m) :: (ds.map Sl.dat ++ List.replicate (Ns.length - (ds.length + 2)) Sl.no)) ((ivRow K r scr).and (ivM G S)) (fun _ _ => False) (fun ro Φ' => Φ' = (ivRow K r scr).and (ivM G S) ∧ ∃ d, ro = .dat d ∧ f S ds d)) :
    t { nx := fun _ H' => Q .non H', rt := Q } (L2.start Ns vs) H := by
  obtain ⟨M, r, scr, G, S, us, ds, rfl, lv, mr, nr, hsub, ra, hM, wf, rd, hx, q⟩ := h
  have ro : RowOf K ⟨[r], M, H⟩ ((ivRow K r scr).and (ivM G S)) r scr := RowOf.and (rowOf_one (by simp)) nr
  have h0 : At0 ((ivRow K r scr).and (ivM G S)) M H := by
    refine ⟨fun b hb => ?_, fun b o h z => ?_, ra, hM⟩
    · rcases List.mem_append.mp hb with hb | hb
      · have hb : b = r := by simpa [ivRow] using hb
        rw [hb]
        exact lv r mr
      · exact hM.live b hb
    · obtain ⟨m, h⟩ := hid_some h
      refine (hid_out ?_).trans h
      rintro (y | y)
      · exact m y
      · rcases List.mem_append.mp y with y | y
        · have hb : b = r := by simpa [ivRow] using y
          exact m (by rw [hb]; exact mr)
        · exact m (hsub b y)
  obtain ⟨hl, hf⟩ := hs M r scr G S ds hx wf ro (mhas_iv wf).andr
  refine hf [] H _ _ (h0.cur lv) (env_start2 h0 rd hl) (fun _ _ _ _ _ _ _ _ z => z.elim) fun v rr H' Φ' b hp rdd ed => ?_
  obtain ⟨rfl, d, rfl, fd⟩ := ed
  exact q v d H' fd b hp.1 (Dt.mono (Same.s (hid_sub fun a ha => Or.inl ha)) rdd)
theorem all_len (wf : WF S) : (allRows S).length < 100000 := by
  have hpn := wf.pn
  have key : ∀ l : List Pg, (∀ pg ∈ l, pg ∈ S.pages) → (l.flatMap (rowsOf S)).length ≤ 24 * l.length := fun l hl => by
    induction l with
    | nil => simp
    | cons p l ih =>
      have hp := hl p List.mem_cons_self
      have := ih fun x hx => hl x (List.mem_cons_of_mem _ hx)
      have h2 := wf.sz p hp
      have h3 := ch_lt20 wf hp
      have h4 := wf.rm
      simp only [List.flatMap_cons, List.length_append, List.length_cons]
      have : (rowsOf S p).length ≤ 24 := by
        simp only [rowsOf, List.length_append, List.length_map]
        omega
      omega
  have := key S.pages fun _ z => z
  unfold allRows
  omega
theorem pure_law_step (vs : List V) (H : Hp) (Q : VK) (E : XK) (h : sp_law_step P w K a vs H Q E) : t_law_step P w K a E { nx := fun _ H' => Q .non H', rt := Q } (L2.start n_law_step vs) H := by
  refine fw_finRowW h fun M r scr G S ds hx wf ro hI => ?_
  obtain ⟨d0, stops, rfl, _⟩ := hx
  refine ⟨by simp, ?_⟩
  have hal := all_len wf
  have hrm := wf.rm
  refine fw_seq (N1 := fun Γ Φ => Φ = (ivRow K r scr).and (ivM G S) ∧ ∃ way : Int, 0 ≤ way ∧ way < 20 ∧ Γ = [Sl.val (.ref r), Sl.val (.ref G.m), Sl.dat (.bool stops), Sl.dat (.int way), Sl.no, Sl.no, Sl.no, Sl.no, Sl.no]) (fg_asg (eg_taken ro (evv_var rfl) (ev_int 20) (by decide) (by decide) fun k h1 h2 => ⟨rfl, k, h1, h2, rfl⟩)) ?_
  rintro Γ1 Φ1 ⟨rfl, way, w1, w2, rfl⟩
  refine fw_seq (N1 := fun Γ Φ => Φ = (ivRow K r scr).and (ivM G S) ∧ ∃ key worth : Int, 0 ≤ key ∧ key < 1000 ∧ 0 ≤ worth ∧ worth < 1000 ∧ Γ = [Sl.val (.ref r), Sl.val (.ref G.m), Sl.dat (.bool stops), Sl.dat (.int way), Sl.dat (.int key), Sl.dat (.int worth), Sl.no, Sl.no, Sl.no]) (fg_par2 (eg_key ro (evv_var rfl) (ev_int 1000) (by decide) (by decide) fun k h1 h2 => eg_taken ro (evv_var rfl) (ev_int 1000) (by decide) (by decide) fun k2 h3 h4 => ⟨rfl, k, k2, h1, by omega, h3, h4, rfl⟩)) ?_
  rintro Γ1 Φ1 ⟨rfl, key, worth, k1, k2, o1, o2, rfl⟩
  refine fw_then (Φ' := (ivRow K r scr).and (ivM G S)) (fw_asg (d := .list (((allRows S).map (·.1)).map PyData.int)) (ev_eq (ev_lcm (xs := allRows S) (enc := dRow) (fun x => .int x.1) (ei_seqL (ev_all hI rfl)) hal fun x hx => ⟨_, tgw_name, ev_op (ev_var rfl) (ev_int 0) (od_ixT rfl)⟩) (by simp [Function.comp_def])) ⟨rfl, rfl⟩) ?_
  have fin : ∀ {st : Stp}, StpGot S stops st → ∀ {d : D}, d = dStp st → (ivRow K r scr).and (ivM G S) = (ivRow K r scr).and (ivM G S) ∧ ∃ d', Ro.dat d = .dat d' ∧ f_stepL S [.bool stops] d' := fun {st} h1 {d} h2 => ⟨rfl, d, rfl, stops, rfl, st, h1, h2⟩
  have twi : ∀ {Γ : Gm} (n : Int), Γ[3]? = some (.dat (.int way)) → EvT ⟨[r], M, H⟩ ((ivRow K r scr).and (ivM G S)) (tTest (tOp rLtI (tVar 3) (tC (.int n)))) Γ (decide (way < n)) := fun n h => et_test (ev_op (ev_var h) (ev_int n) od_lt)
  by_cases c1 : way < 8
  · exact fw_seq (N1 := fun _ _ => False) (fw_if (b := true) (et_eq (twi 8 rfl) (decide_eq_true c1)) (fun _ => fw_ret (ev_tup (ea_cons (ev_str _) (ea_cons (ev_var rfl) (ea_cons (ev_var rfl) ea_nil))) (by simp)) (fin (st := .put key worth) ⟨k1, by show key ≤ 999; omega, o1, by show worth ≤ 999; omega⟩ rfl)) nofun) fun _ _ z => z.elim
  refine fw_then (Φ' := (ivRow K r scr).and (ivM G S)) (fw_if (b := false) (et_eq (twi 8 rfl) (decide_eq_false c1)) nofun fun _ => fw_next ⟨rfl, rfl⟩) ?_
  by_cases c2 : way < 12
  · refine fw_seq (N1 := fun _ _ => False) (fw_if (b := true) (et_eq (twi 12 rfl) (decide_eq_true c2)) (fun _ => ?_) nofun) fun _ _ z => z.elim
    have shk : SeqAt.shaped (.list (((allRows S).map (·.1)).map PyData.int)) = true := (shd_lst (k := 0) fun d hd => by
      obtain ⟨n, _, rfl⟩ := List.mem_map.mp hd
      exact shd_int).ok
    by_cases hne : allRows S = []
    · refine fw_ret (ev_tup (ea_cons (ev_str _) (ea_cons (ev_if (b := false) (et_eq (et_test (ev_op (ev_var rfl) (ev_lst ea_nil (by simp)) (od_neNilL shk))) (by simp [hne])) nofun fun _ => ev_var rfl) ea_nil)) (by simp)) (fin (st := .take key) ⟨k1, by omega⟩ rfl)
    · have hlen : 0 < (allRows S).length := List.length_pos_iff.mpr hne
      have hix : ∃ m : Nat, m < (allRows S).length ∧ worth % ((allRows S).length : Int) = ((m : Nat) : Int) := by
        have h1 := Int.emod_nonneg worth (show ((allRows S).length : Int) ≠ 0 by omega)
        have h2 := Int.emod_lt_of_pos worth (show (0 : Int) < ((allRows S).length : Int) by omega)
        exact ⟨(worth % ((allRows S).length : Int)).toNat, by omega, by omega⟩
      obtain ⟨m, hm, em⟩ := hix
      have hrow := wf.all.2 (allRows S)[m] (List.getElem_mem hm)
      have hkm : L2.atI (((allRows S).map (·.1)).map PyData.int) (worth % ((allRows S).length : Int)) = some (.int (allRows S)[m].1) := by
        rw [em]
        exact atI_of (by simp [hm])
      have elen : Ev ⟨[r], M, H⟩ ((ivRow K r scr).and (ivM G S)) (tCB (rLenU K) (tCons (tVar 6) tNil)) [Sl.val (.ref r), Sl.val (.ref G.m), Sl.dat (.bool stops), Sl.dat (.int way), Sl.dat (.int key), Sl.dat (.int worth), Sl.dat (.list (((allRows S).map (·.1)).map PyData.int)), Sl.no, Sl.no] (.int ((allRows S).length : Int)) := ev_eq (ev_cb (ea_cons (ev_var rfl) ea_nil) cb_lenL) (by simp)
      have tk : EvT ⟨[r], M, H⟩ ((ivRow K r scr).and (ivM G S)) (tTest (tOp (rNeD K) (tVar 6) (tLst tNil))) [Sl.val (.ref r), Sl.val (.ref G.m), Sl.dat (.bool stops), Sl.dat (.int way), Sl.dat (.int key), Sl.dat (.int worth), Sl.dat (.list (((allRows S).map (·.1)).map PyData.int)), Sl.no, Sl.no] true := et_eq (et_test (ev_op (ev_var rfl) (ev_lst ea_nil (by simp)) (od_neNilL shk))) (by simp [hne])
      by_cases h7 : worth % 7 = 0
      · refine fw_ret (ev_tup (ea_cons (ev_str _) (ea_cons (ev_if (b := true) tk (fun _ => ev_op (d := .list [.int (allRows S)[m].1, .int key]) (e := .int 1) (f := .int key) (ev_lst (ea_cons (ev_op (ev_var rfl) (ev_op (ev_var rfl) elen (od_modI (by omega))) (od_ixL hkm)) (ea_cons (ev_var rfl) ea_nil)) (by simp)) (ev_eq (ev_cb (ea_cons (ev_op (ev_op (ev_var rfl) (ev_int 7) (od_modI (by decide))) (ev_int 0) od_eqI) ea_nil) cb_intB) (by simp [h7])) (od_ixL rfl)) nofun) ea_nil)) (by simp)) (fin (st := .take key) ⟨k1, by omega⟩ rfl)
      · refine fw_ret (ev_tup (ea_cons (ev_str _) (ea_cons (ev_if (b := true) tk (fun _ => ev_op (d := .list [.int (allRows S)[m].1, .int key]) (e := .int 0) (f := .int (allRows S)[m].1) (ev_lst (ea_cons (ev_op (ev_var rfl) (ev_op (ev_var rfl) elen (od_modI (by omega))) (od_ixL hkm)) (ea_cons (ev_var rfl) ea_nil)) (by simp)) (ev_eq (ev_cb (ea_cons (ev_op (ev_op (ev_var rfl) (ev_int 7) (od_modI (by decide))) (ev_int 0) od_eqI) ea_nil) cb_intB) (by simp [h7])) (od_ixL rfl)) nofun) ea_nil)) (by simp)) (fin (st := .take (allRows S)[m].1) ⟨hrow.1, hrow.2.1⟩ rfl)
  refine fw_then (Φ' := (ivRow K r scr).and (ivM G S)) (fw_if (b := false) (et_eq (twi 12 rfl) (decide_eq_false c2)) nofun fun _ => fw_next ⟨rfl, rfl⟩) ?_
  by_cases c3 : way < 14
  · refine fw_seq (N1 := fun _ _ => False) (fw_if (b := true) (et_eq (twi 14 rfl) (decide_eq_true c3)) (fun _ => ?_) nofun) fun _ _ z => z.elim
    have hw : way = 12 ∨ way = 13 := by omega
    rcases hw with rfl | rfl
    · exact fw_ret (ev_op (ev_lst (ea_cons (ev_tup (ea_cons (ev_str _) (ea_cons (ev_var rfl) ea_nil)) (by simp)) (ea_cons (ev_tup (ea_cons (ev_str _) (ea_cons (ev_var rfl) ea_nil)) (by simp)) ea_nil)) (by simp)) (ev_op (ev_var rfl) (ev_int 12) od_subI) (od_ixL rfl)) (fin (st := .find key) ⟨k1, by omega⟩ rfl)
    · exact fw_ret (ev_op (ev_lst (ea_cons (ev_tup (ea_cons (ev_str _) (ea_cons (ev_var rfl) ea_nil)) (by simp)) (ea_cons (ev_tup (ea_cons (ev_str _) (ea_cons (ev_var rfl) ea_nil)) (by simp)) ea_nil)) (by simp)) (ev_op (ev_var rfl) (ev_int 12) od_subI) (od_ixL rfl)) (fin (st := .look key) ⟨k1, by omega⟩ rfl)
  refine fw_then (Φ' := (ivRow K r scr).and (ivM G S)) (fw_if (b := false) (et_eq (twi 14 rfl) (decide_eq_false c3)) nofun fun _ => fw_next ⟨rfl, rfl⟩) ?_
  by_cases c4 : way < 16
  · refine fw_seq (N1 := fun _ _ => False) (fw_if (b := true) (et_eq (twi 16 rfl) (decide_eq_true c4)) (fun _ => ?_) nofun) fun _ _ z => z.elim
    refine fw_then (Φ' := (ivRow K r scr).and (ivM G S)) (fw_asg (ev_mNm (i := 1) hI.at_ rfl) ⟨rfl, rfl⟩) ?_
    have tst := et_or (X := ⟨[r], M, H⟩) (Φ := (ivRow K r scr).and (ivM G S)) (Γ := [Sl.val (.ref r), Sl.val (.ref G.m), Sl.dat (.bool stops), Sl.dat (.int way), Sl.dat (.int key), Sl.dat (.int worth), Sl.dat (.list (((allRows S).map (·.1)).map PyData.int)), Sl.dat (dInt S.marks.length), Sl.no]) (et_and (et_test (ev_op (ev_var (i := 7) rfl) (ev_int 0) od_gt)) fun _ => et_test (ev_op (ev_var (i := 3) rfl) (ev_int 14) (od_eqI (K := K)))) fun _ => et_test (ev_op (ev_var (i := 7) rfl) (ev_int 3) od_gt)
    by_cases hc : 0 < S.marks.length ∧ way = 14 ∨ 3 < S.marks.length
    · have hpos : 0 < S.marks.length := by omega
      have hix : ∃ m : Nat, m < S.marks.length ∧ worth % (S.marks.length : Int) = ((m : Nat) : Int) := by
        have h1 := Int.emod_nonneg worth (show (S.marks.length : Int) ≠ 0 by omega)
        have h2 := Int.emod_lt_of_pos worth (show (0 : Int) < (S.marks.length : Int) by omega)
        exact ⟨(worth % (S.marks.length : Int)).toNat, by omega, by omega⟩
      obtain ⟨m, hm, em⟩ := hix
      refine fw_ret (ev_if (b := true) (et_eq tst ?_) (fun _ => ev_tup (ea_cons (ev_str _) (ea_cons (ev_op (ev_var rfl) (ev_var rfl) (od_modI (by omega))) ea_nil)) (by simp)) nofun) (fin (st := .next m) hm (by rw [em]))
      rcases hc with ⟨h1, h2⟩ | h1
      · have : (0 : Int) < ((S.marks.length : Nat) : Int) := by omega
        rw [decide_eq_true this, decide_eq_true h2]
        rfl
      · have : (3 : Int) < ((S.marks.length : Nat) : Int) := by omega
        rw [decide_eq_true this, Bool.or_true]
    · refine fw_ret (ev_if (b := false) (et_eq tst ?_) nofun fun _ => ev_tup (ea_cons (ev_str _) ea_nil) (by simp)) (fin (st := .mark) (by show S.marks.length < 1000; omega) rfl)
      have h3 : ¬ (3 : Int) < ((S.marks.length : Nat) : Int) := by omega
      by_cases h4 : (0 : Int) < ((S.marks.length : Nat) : Int)
      · have h5 : ¬ way = 14 := by omega
        simp [h3, h5]
      · simp only [decide_eq_false h3, decide_eq_false h4]
        rfl
  refine fw_then (Φ' := (ivRow K r scr).and (ivM G S)) (fw_if (b := false) (et_eq (twi 16 rfl) (decide_eq_false c4)) nofun fun _ => fw_next ⟨rfl, rfl⟩) ?_
  have twe : ∀ {Γ : Gm} (n : Int), Γ[3]? = some (.dat (.int way)) → EvT ⟨[r], M, H⟩ ((ivRow K r scr).and (ivM G S)) (tTest (tOp (rEqD K) (tVar 3) (tC (.int n)))) Γ (decide (way = n)) := fun n h => et_test (ev_op (ev_var h) (ev_int n) od_eqI)
  by_cases c5 : way = 16
  · refine fw_seq (N1 := fun _ _ => False) (fw_if (b := true) (et_eq (twe 16 rfl) (decide_eq_true c5)) (fun _ => ?_) nofun) fun _ _ z => z.elim
    have hix : ∃ m : Nat, m < S.room ∧ worth % (S.room : Int) = ((m : Nat) : Int) := by
      have h1 := Int.emod_nonneg worth (show (S.room : Int) ≠ 0 by omega)
      have h2 := Int.emod_lt_of_pos worth (show (0 : Int) < (S.room : Int) by omega)
      exact ⟨(worth % (S.room : Int)).toNat, by omega, by omega⟩
    obtain ⟨m, hm, em⟩ := hix
    refine fw_ret (ev_tup (ea_cons (ev_str _) (ea_cons (ev_op (ev_int 1) (ev_op (ev_var rfl) (ev_m (v := .int S.room) (d := dInt S.room) (i := 1) hI.at_ rfl rfl rfl) (od_modI (by omega))) od_addI) ea_nil)) (by simp)) (fin (st := .relay (1 + m)) ⟨by omega, by omega⟩ (by rw [em]; simp))
  refine fw_then (Φ' := (ivRow K r scr).and (ivM G S)) (fw_if (b := false) (et_eq (twe 16 rfl) (decide_eq_false c5)) nofun fun _ => fw_next ⟨rfl, rfl⟩) ?_
  by_cases c6 : way = 17 ∧ stops = true
  · obtain ⟨c6, hst⟩ := c6
    have hix : ∃ m : Nat, m ≤ 4 ∧ worth % 5 = ((m : Nat) : Int) := by
      have h1 := Int.emod_nonneg worth (show (5 : Int) ≠ 0 by decide)
      have h2 := Int.emod_lt_of_pos worth (show (0 : Int) < 5 by decide)
      exact ⟨(worth % 5).toNat, by omega, by omega⟩
    obtain ⟨m, hm, em⟩ := hix
    exact fw_seq (N1 := fun _ _ => False) (fw_if (b := true) (et_eq (et_and (et_eq (twe 17 rfl) (decide_eq_true c6)) fun _ => et_B (ev_var rfl)) (by simp [hst])) (fun _ => fw_ret (ev_tup (ea_cons (ev_str _) (ea_cons (ev_op (ev_var rfl) (ev_int 5) (od_modI (by decide))) ea_nil)) (by simp)) (fin (st := .stop m) ⟨hm, hst⟩ (by rw [em]))) nofun) fun _ _ z => z.elim
  refine fw_then (Φ' := (ivRow K r scr).and (ivM G S)) (fw_if (b := false) (et_eq (et_and (twe 17 rfl) fun _ => et_B (ev_var rfl)) (by
    by_cases h : way = 17
    · have : stops = false := by
        cases stops with
        | true => exact absurd ⟨h, rfl⟩ c6
        | false => rfl
      simp [this]
    · simp [h])) nofun fun _ => fw_next ⟨rfl, rfl⟩) ?_
  by_cases c7 : 17 < way ∧ stops = true
  · exact fw_ret (ev_if (b := true) (et_eq (et_and (et_test (ev_op (ev_var rfl) (ev_int 17) od_gt)) fun _ => et_B (ev_var rfl)) (by simp [c7.1, c7.2])) (fun _ => ev_tup (ea_cons (ev_str _) ea_nil) (by simp)) nofun) (fin (st := .mend) c7.2 rfl)
  · exact fw_ret (ev_if (b := false) (et_eq (et_and (et_test (ev_op (ev_var rfl) (ev_int 17) od_gt)) fun _ => et_B (ev_var rfl)) (by
      by_cases h : 17 < way
      · have : stops = false := by
          cases stops with
          | true => exact absurd ⟨h, rfl⟩ c7
          | false => rfl
        simp [this]
      · simp [h])) nofun fun _ => ev_tup (ea_cons (ev_str _) (ea_cons (ev_var rfl) (ea_cons (ev_var rfl) ea_nil))) (by simp)) (fin (st := .put key worth) ⟨k1, by show key ≤ 999; omega, o1, by show worth ≤ 999; omega⟩ rfl)
end
end Sp

set_option Elab.async false
set_option linter.all false
set_option maxRecDepth 100000
set_option maxHeartbeats 4000000
/-! for i, x in enumerate(a tuple). -/
namespace SR
open PySem PySem.Spec PyProof.Rows L2
open AutoSeq1 (wpAny_loadPart')
section
variable {prog : Program} {w : World} {A : Around} {E : Value → Shared → Prop} {s : Shared}
end
end SR

set_option Elab.async false
set_option linter.all false
set_option maxRecDepth 100000
set_option maxHeartbeats 4000000
/-! Pictures judged, plainly. -/
namespace Sp
structure KnOk (sp : List (Option Cl)) (kn : List Nat) : Prop where
  nd : kn.Nodup
  lt : ∀ n ∈ kn, n < sp.length
def FdOk (sp : List (Option Cl)) (fd : List Nat) : Prop := ∀ n ∈ fd, ∃ c, sp[n]? = some (some c)
theorem KnOk.len {sp : List (Option Cl)} {kn : List Nat} (h : KnOk sp kn) : kn.length ≤ sp.length := nodup_len h.nd h.lt
theorem KnOk.snoc {sp : List (Option Cl)} {kn : List Nat} {n : Nat} (h : KnOk sp kn) (hn : n ∉ kn) (hl : n < sp.length) : KnOk sp (kn ++ [n]) := by
  refine ⟨?_, fun m hm => ?_⟩
  · rw [List.nodup_append]
    refine ⟨h.nd, by simp, fun a ha b hb => ?_⟩
    rw [List.mem_singleton.mp hb]
    rintro rfl
    exact hn ha
  · rcases List.mem_append.mp hm with hm | hm
    · exact h.lt m hm
    · rw [List.mem_singleton.mp hm]
      exact hl
theorem FdOk.snoc {sp : List (Option Cl)} {fd : List Nat} {n : Nat} {c : Cl} (h : FdOk sp fd) (hc : sp[n]? = some (some c)) : FdOk sp (fd ++ [n]) := fun m hm => by
  rcases List.mem_append.mp hm with hm | hm
  · exact h m hm
  · rw [List.mem_singleton.mp hm]
    exact ⟨c, hc⟩
inductive Vd where
  | page (i : Nat)
  | chain (i : Nat)
  | lost (n : Nat)
  | whole
/-- a picture whose parts are right -/
structure PicOk (n : Nat) (S : FS) : Prop where
  np : S.pages.length = S.fences.length + 1
  pn : S.pages.length ≤ 1000
  fb : ∀ f ∈ S.fences, 0 ≤ f ∧ f ≤ 999
  ns : S.spills.length ≤ 20
  pg : ∀ p ∈ S.pages, p.1.length ≤ n ∧ (∀ r ∈ p.1, RowOk r) ∧ ∀ l, p.2 = some l → l < S.spills.length
  cl : ∀ c, some c ∈ S.spills → RowOk c.1 ∧ ∀ m, c.2 = some m → m < S.spills.length
theorem PicOk.mono {n m : Nat} {S : FS} (h : PicOk n S) (hl : n ≤ m) : PicOk m S := ⟨h.np, h.pn, h.fb, h.ns, fun p hp => ⟨Nat.le_trans (h.pg p hp).1 hl, (h.pg p hp).2⟩, h.cl⟩
theorem PicOk.page {n m : Nat} {S : FS} (h : PicOk n S) (hl : n ≤ m) {i : Nat} {q : Pg} (hq : q.1.length ≤ m ∧ (∀ r ∈ q.1, RowOk r) ∧ ∀ l, q.2 = some l → l < S.spills.length) : PicOk m { S with pages := S.pages.set i q } := ⟨by simpa using h.np, by simpa using h.pn, h.fb, h.ns, fun p hp => by
  rcases List.mem_or_eq_of_mem_set hp with hp | rfl
  · exact ⟨Nat.le_trans (h.pg p hp).1 hl, (h.pg p hp).2⟩
  · exact hq, h.cl⟩
theorem PicOk.cell {n : Nat} {S : FS} (h : PicOk n S) {i : Nat} {q : Option Cl} (hq : ∀ c, q = some c → RowOk c.1 ∧ ∀ m, c.2 = some m → m < S.spills.length) : PicOk n { S with spills := S.spills.set i q } := ⟨h.np, h.pn, h.fb, by simpa using h.ns, fun p hp => ⟨(h.pg p hp).1, (h.pg p hp).2.1, fun l hl => by simpa using (h.pg p hp).2.2 l hl⟩, fun c hc => by
  rcases List.mem_or_eq_of_mem_set hc with hc | e
  · exact ⟨(h.cl c hc).1, fun m hm => by simpa using (h.cl c hc).2 m hm⟩
  · exact ⟨(hq c e.symm).1, fun m hm => by simpa using (hq c e.symm).2 m hm⟩⟩
end Sp

set_option Elab.async false
set_option linter.all false
set_option maxRecDepth 100000
set_option maxHeartbeats 4000000
/-! Promises of judging.py, and of the laws' looks at pictures. -/
namespace Sp
open PySem L2 SM SR SD SE
/-! pictures read back -/
end Sp

set_option Elab.async false
set_option linter.all false
set_option maxRecDepth 100000
set_option maxHeartbeats 4000000
/-! The word of a refusal: what is told of the classes. -/
namespace Sp
open PySem L2 SM SR SD SE
/-- what the classes must say -/
structure WordOk (K : PySem.W.Frag) (a : Ad) : Prop where
  exc : ∀ (j : Nat) t, (wTab a)[j]? = some t → ExcC K t.1
  is_ : ∀ (j i : Nat) t u, (wTab a)[j]? = some t → (wTab a)[i]? = some u → PySem.W.kitOne K (.ref t.1) (.ref u.1) = some (decide (i = j))
  val : ∀ (j : Nat) t, (wTab a)[j]? = some t → PySem.W.kitOne K (.ref t.1) (.type "ValueError") = some true
  exm : ∀ (j : Nat) t, (wTab a)[j]? = some t → PySem.W.exmOne K (.ref t.1) (.ref a.SpillError) = some true
  fld : ∀ (j : Nat) t f, (wTab a)[j]? = some t → t.2.2 = some f → XfC K t.1 ∧ PySem.W.findIn K (.ref t.1) f = some none
section
variable {P : Program} {w : World} {K : PySem.W.Frag} {a : Ad} {M : Ads} {H : Hp} {Φ : Iv} {Γ : Gm} {b D : Addr} {cls : Value} {dd : Option Addr} {i : Nat} {c : V} {cv : Value} {r : Bool}
/-- isinstance(e, c) -/
theorem ev_isO (C : ExcC K D) (hd : ∀ x, dd = some x → ∃ fs, H x = some (.xd fs)) (hi : Γ[i]? = some (.val (.ref b))) (hc : ∀ u, RelV c u → u = cv) (e : PySem.W.kitOne K (.ref D) cv = some r) :
    Ev (wd M H) Φ (tCB (rIsO K b (.ref D) dd) (tCons (tVar i) (tCons (tC c) tNil))) Γ (.bool r) := fun L H1 σ cu g Q q =>
  ⟨_, g.ok i _ hi, D, c, cv, r, rfl, C, rfl, hc, fun x hx => by
    obtain ⟨fs, h⟩ := hd x hx
    exact ⟨fs, cu.but.same x _ h⟩, e, q _ H1 (Same.refl H1) (.bl r)⟩
end
end Sp

set_option Elab.async false
set_option linter.all false
set_option maxRecDepth 100000
set_option maxHeartbeats 4000000
/-! The suite of _law_word, printed by word.py. -/
namespace Sp
open PySem L2 SM SR SD SE
def t_suite (P : Program) (w : World) (K : PySem.W.Frag) (a : Ad) (b : Addr) (cls : Value) (dd : Option Addr) : TS :=
  (tSeq (tAsg (tLst (tCons (tCB (rIsO K b cls dd) (tCons (tVar 1) (tCons (tC (.ref a.BadRows)) tNil))) (tCons (tCB (rIsO K b cls dd) (tCons (tVar 1) (tCons (tC (.ref a.BadDeeds)) tNil))) (tCons (tCB (rIsO K b cls dd) (tCons (tVar 1) (tCons (tC (.ref a.BadStep)) tNil))) (tCons (tCB (rIsO K b cls dd) (tCons (tVar 1) (tCons (tC (.ref a.BadText)) tNil))) tNil))))) (gName 2)) (tSeq (tAsg (tOp (rAddU K) (tVar 2) (tLst (tCons (tCB (rIsO K b cls dd) (tCons (tVar 1) (tCons (tC (.ref a.BadPicture)) tNil))) (tCons (tCB (rIsO K b cls dd) (tCons (tVar 1) (tCons (tC (.ref a.BadFile)) tNil))) (tCons (tCB (rIsO K b cls dd) (tCons (tVar 1) (tCons (tC (.ref a.BadKey)) tNil))) tNil))))) (gName 2)) (tSeq (tAsg (tOp (rAddU K) (tVar 2) (tLst (tCons (tCB (rIsO K b cls dd) (tCons (tVar 1) (tCons (tC (.ref a.BadWorth)) tNil))) (tCons (tCB (rIsO K b cls dd) (tCons (tVar 1) (tCons (tC (.ref a.NoRow)) tNil))) (tCons (tCB (rIsO K b cls dd) (tCons (tVar 1) (tCons (tC (.ref a.Full)) tNil))) (tCons (tCB (rIsO K b cls dd) (tCons (tVar 1) (tCons (tC (.ref a.NoMark)) tNil))) tNil)))))) (gName 2)) (tSeq (tAsg (tOp (rAddU K) (tVar 2) (tLst (tCons (tCB (rIsO K b cls dd) (tCons (tVar 1) (tCons (tC (.ref a.Stopped)) tNil))) (tCons (tCB (rIsO K b cls dd) (tCons (tVar 1) (tCons (tC (.ref a.BadCount)) tNil))) tNil)))) (gName 2)) (tSeq (tIfS (tOr (tTest (tOp (rNeD K) (tBM K "list" (rCountD K) (tVar 2) (tCons (tC (.bl true)) tNil)) (tC (.int 1)))) (tNot (tB (tCB (rIsO K b cls dd) (tCons (tVar 1) (tCons (tC (.ty "ValueError")) tNil)))))) (tRet (tC (.str "other"))) tNext) (tSeq (tAsg (tLst (tCons (tC (.str "rows")) (tCons (tC (.str "deeds")) (tCons (tC (.str "step")) (tCons (tC (.str "text")) (tCons (tC (.str "picture")) (tCons (tC (.str "file")) (tCons (tC (.str "key")) (tCons (tC (.str "worth")) (tCons (tC (.str "row")) (tCons (tC (.str "full")) (tCons (tC (.str "mark")) (tCons (tC (.str "stopped")) tNil))))))))))))) (gName 3)) (tSeq (tAsg (tOp (rIxU P w K) (tOp (rAddU K) (tVar 3) (tLst (tCons (tC (.str "count")) tNil))) (tBM K "list" (rIndexD K) (tVar 2) (tCons (tC (.bl true)) tNil))) (gName 4)) (tSeq (tIfS (tTest (tOp (rInU K) (tVar 4) (tTupB (tCons (tC (.str "rows")) (tCons (tC (.str "deeds")) (tCons (tC (.str "step")) tNil)))))) (tRet (tTupB (tCons (tVar 4) (tCons (tXo K b cls dd "number" (tVar 1)) tNil)))) tNext) (tRet (tIf (tTest (tOp (rEqD K) (tVar 4) (tC (.str "text")))) (tTupB (tCons (tVar 4) (tCons (tXo K b cls dd "row" (tVar 1)) tNil))) (tIf (tTest (tOp (rEqD K) (tVar 4) (tC (.str "picture")))) (tTupB (tCons (tVar 4) (tCons (tXo K b cls dd "part" (tVar 1)) tNil))) (tVar 4))))))))))))
end Sp

set_option Elab.async false
set_option linter.all false
set_option maxRecDepth 100000
set_option maxHeartbeats 4000000
/-! The word of a refusal: the suite. -/
namespace Sp
open PySem L2 SM SR SD SE
section
variable {P : Program} {w : World} {K : PySem.W.Frag} {a : Ad} {X : Wd} {M : Ads} {H : Hp} {Φ : Iv} {Γ : Gm} {b : Addr} {dd : Option Addr} {i : Nat} {tl te : TE} {ds : List D} {x : D}
theorem ev_lcount (h : Ev X Φ tl Γ (.list ds)) (he : Ev X Φ te Γ x) (p1 : PyData.plainAll ds = true) (p2 : x.plain = true) (p3 : x.depth ≤ 60) : Ev X Φ (tBM K "list" (rCountD K) tl (tCons te tNil)) Γ (.int ((ds.countP fun z => PyData.eqv z x : Nat) : Int)) := fun L H σ c g Q q =>
  h L H σ c g _ fun v H1 e1 r1 => by
    have rd := r1
    cases r1 with
    | @lst l vs _ hl hvs =>
      refine ⟨.inl ⟨rfl, vs, SqL.of (hid_le _ _ hl)⟩, he L H1 σ (c.up e1) (g.up e1) _ fun u H2 e2 r2 => ?_⟩
      have rd2 : Dp K H2 (.ref l) (.list ds) := (rd.mono (Same.s (Same.hid e2))).dp (Same.s hid_le)
      cases rd2 with
      | lst hs ha => exact ⟨l, _, u, x, ds, rfl, rfl, hs, ha, r2.dp (Same.s hid_le), p1, p2, p3, q _ H2 (e1.trans e2) (.int _)⟩
theorem ev_index {j : Nat} {z : D} (h : Ev X Φ tl Γ (.list ds)) (he : Ev X Φ te Γ x) (s1 : SeqAt.shaped (.list ds) = true) (s2 : SeqAt.shaped x = true) (hj : ds[j]? = some z) (hz : PyData.eqv z x = true) (hm : ∀ (m : Nat) (z' : D), m < j → ds[m]? = some z' → PyData.eqv z' x = false) : Ev X Φ (tBM K "list" (rIndexD K) tl (tCons te tNil)) Γ (dInt j) := fun L H σ c g Q q =>
  h L H σ c g _ fun v H1 e1 r1 => by
    have rd := r1
    cases r1 with
    | @lst l vs _ hl hvs =>
      refine ⟨.inl ⟨rfl, vs, SqL.of (hid_le _ _ hl)⟩, he L H1 σ (c.up e1) (g.up e1) _ fun u H2 e2 r2 => ?_⟩
      exact ⟨l, u, x, ds, j, z, rfl, rfl, (rd.mono (Same.s (Same.hid e2))).dp (Same.s hid_le), r2.dp (Same.s hid_le), s1, s2, hj, hz, hm, q _ H2 (e1.trans e2) (.int _)⟩
/-- e.f -/
theorem ev_xo {D x : Addr} {f : Str} {n : Int} (T : XfC K D) (hno : PySem.W.findIn K (.ref D) f = some none) (hd : H x = some (.xd [(f, .int n)])) (hi : Γ[i]? = some (.val (.ref b))) : Ev (wd M H) Φ (tXo K b (.ref D) (some x) f (tVar i)) Γ (.int n) := fun L H1 σ cu g Q q =>
  ⟨_, g.ok i _ hi, rfl, D, x, _, .int n, rfl, T, hno, rfl, cu.but.same x _ hd, by simp [List.lookup], q _ H1 (Same.refl H1) (.int n)⟩
theorem dts_strs {G : Hp} : ∀ {vs : List V} {ss : List Str}, Dts G vs (ss.map PyData.str) → vs = ss.map V.str
  | _, [], .nil => rfl
  | _, s :: ss, .cons r t => by
    cases r
    rw [dts_strs t]
    rfl
/-- a text in a tuple of texts -/
theorem od_inS {s : Str} {ss : List Str} {r : Bool} (hf : (ss.map V.str).all flatV = true) (hr : inV (.str s) (ss.map V.str) = r) : OpD (rInU K) (.str s) (.tuple (ss.map .str)) (.bool r) := fun N H v u lv hv hu Q q => by
  cases hv
  cases hu with
  | @tup p xs _ hp hxs =>
    have e := dts_strs hxs
    subst e
    refine .inr (.inl ⟨p, _, rfl, .inr (sqT hp), rfl, hf, ?_⟩)
    rw [if_neg (by decide), hr]
    exact q _ H (Same.refl H) (.bl r)
/-- what the suite tells of a class -/
def wordOf (t : Addr × Str × Option Str) (n : Int) : D := match t.2.2 with
  | none => .str t.2.1
  | some _ => .tuple [.str t.2.1, .int n]
theorem suite_run (W : WordOk K a) {j : Nat} {t : Addr × Str × Option Str} (ht : (wTab a)[j]? = some t) {n : Int} (h0 : t.2.2 = none → dd = none) (h1 : ∀ f, t.2.2 = some f → ∃ x, dd = some x ∧ H x = some (.xd [(f, .int n)])) :
    SW (wd M H) Iv.nil (t_suite P w K a b (.ref t.1) dd) [.no, .val (.ref b), .no, .no, .no] (fun _ => False) (fun d => d = wordOf t n) := by
  have hx : ∀ x, dd = some x → ∃ fs, H x = some (.xd fs) := fun x e => by
    cases hf : t.2.2 with
    | none =>
      rw [h0 hf] at e
      cases e
    | some f =>
      obtain ⟨y, e2, h⟩ := h1 f hf
      rw [e] at e2
      cases e2
      exact ⟨_, h⟩
  have is_ : ∀ {Γ : Gm} (i : Nat) (u : Addr × Str × Option Str), (wTab a)[i]? = some u → Γ[1]? = some (.val (.ref b)) → Ev (wd M H) Iv.nil (tCB (rIsO K b (.ref t.1) dd) (tCons (tVar 1) (tCons (tC (.ref u.1)) tNil))) Γ (.bool (decide (i = j))) := fun i u hu hg => ev_isO (W.exc j t ht) hx hg (fun v hv => hv) (W.is_ j i t u ht hu)
  have hj : j < 13 := (List.getElem?_eq_some_iff.mp ht).1
  refine sw_then (sw_asg (ev_lst (ea_cons (is_ 0 _ rfl rfl) (ea_cons (is_ 1 _ rfl rfl) (ea_cons (is_ 2 _ rfl rfl) (ea_cons (is_ 3 _ rfl rfl) ea_nil)))) (by simp))) ?_
  refine sw_then (sw_asg (ev_op (ev_var rfl) (ev_lst (ea_cons (is_ 4 _ rfl rfl) (ea_cons (is_ 5 _ rfl rfl) (ea_cons (is_ 6 _ rfl rfl) ea_nil))) (by simp)) (od_addL (by simp)))) ?_
  refine sw_then (sw_asg (ev_op (ev_var rfl) (ev_lst (ea_cons (is_ 7 _ rfl rfl) (ea_cons (is_ 8 _ rfl rfl) (ea_cons (is_ 9 _ rfl rfl) (ea_cons (is_ 10 _ rfl rfl) ea_nil)))) (by simp)) (od_addL (by simp)))) ?_
  refine sw_then (sw_asg (ev_op (ev_var rfl) (ev_lst (ea_cons (is_ 11 _ rfl rfl) (ea_cons (is_ 12 _ rfl rfl) ea_nil)) (by simp)) (od_addL (by simp)))) ?_
  have vt : ∀ {Γ : Gm}, Γ[1]? = some (.val (.ref b)) → Ev (wd M H) Iv.nil (tCB (rIsO K b (.ref t.1) dd) (tCons (tVar 1) (tCons (tC (.ty "ValueError")) tNil))) Γ (.bool true) := fun hg => ev_isO (W.exc j t ht) hx hg (fun v hv => hv) (W.val j t ht)
  have hj2 : j = 0 ∨ j = 1 ∨ j = 2 ∨ j = 3 ∨ j = 4 ∨ j = 5 ∨ j = 6 ∨ j = 7 ∨ j = 8 ∨ j = 9 ∨ j = 10 ∨ j = 11 ∨ j = 12 := by omega
  have in_ : ∀ {Γ : Gm} {s : Str} {r : Bool}, Γ[4]? = some (.dat (.str s)) → inV (.str s) [V.str "rows", V.str "deeds", V.str "step"] = r → EvT (wd M H) Iv.nil (tTest (tOp (rInU K) (tVar 4) (tTupB (tCons (tC (.str "rows")) (tCons (tC (.str "deeds")) (tCons (tC (.str "step")) tNil)))))) Γ r := fun hg hr => et_test (ev_op (ev_var hg) (ev_tup (ea_cons (ev_str _) (ea_cons (ev_str _) (ea_cons (ev_str _) ea_nil))) (by simp)) (od_inS (ss := ["rows", "deeds", "step"]) rfl hr))
  rcases hj2 with rfl | rfl | rfl | rfl | rfl | rfl | rfl | rfl | rfl | rfl | rfl | rfl | rfl
  · cases ht
    refine sw_then (sw_if (b := false) (et_eq (et_or (et_test (ev_op (ev_lcount (ev_var rfl) (ev_bl true) (by rfl) (by rfl) (by decide)) (ev_int 1) od_neI)) fun _ => et_not (et_B (vt rfl))) (by rfl)) nofun fun _ => sw_next rfl) ?_
    refine sw_then (sw_asg (ev_lst (ea_cons (ev_str _) (ea_cons (ev_str _) (ea_cons (ev_str _) (ea_cons (ev_str _) (ea_cons (ev_str _) (ea_cons (ev_str _) (ea_cons (ev_str _) (ea_cons (ev_str _) (ea_cons (ev_str _) (ea_cons (ev_str _) (ea_cons (ev_str _) (ea_cons (ev_str _) ea_nil)))))))))))) (by simp))) ?_
    refine sw_then (sw_asg (ev_op (ev_op (ev_var rfl) (ev_lst (ea_cons (ev_str _) ea_nil) (by simp)) (od_addL (by simp))) (ev_index (j := 0) (z := .bool true) (ev_var rfl) (ev_bl true) (by rfl) (by rfl) rfl (by rfl) fun m z' hm hz => ?_) (od_ixL rfl))) ?_
    · exact absurd hm (by omega)
    obtain ⟨x, rfl, hxd⟩ := h1 _ rfl
    obtain ⟨T1, T2⟩ := W.fld 0 _ _ rfl rfl
    exact sw_seq (N1 := fun _ => False) (sw_if (b := true) (in_ rfl (by rfl)) (fun _ => sw_ret (ev_tup (ea_cons (ev_var rfl) (ea_cons (ev_xo T1 T2 hxd rfl) ea_nil)) (by simp)) rfl) nofun) fun _ z => z.elim
  · cases ht
    refine sw_then (sw_if (b := false) (et_eq (et_or (et_test (ev_op (ev_lcount (ev_var rfl) (ev_bl true) (by rfl) (by rfl) (by decide)) (ev_int 1) od_neI)) fun _ => et_not (et_B (vt rfl))) (by rfl)) nofun fun _ => sw_next rfl) ?_
    refine sw_then (sw_asg (ev_lst (ea_cons (ev_str _) (ea_cons (ev_str _) (ea_cons (ev_str _) (ea_cons (ev_str _) (ea_cons (ev_str _) (ea_cons (ev_str _) (ea_cons (ev_str _) (ea_cons (ev_str _) (ea_cons (ev_str _) (ea_cons (ev_str _) (ea_cons (ev_str _) (ea_cons (ev_str _) ea_nil)))))))))))) (by simp))) ?_
    refine sw_then (sw_asg (ev_op (ev_op (ev_var rfl) (ev_lst (ea_cons (ev_str _) ea_nil) (by simp)) (od_addL (by simp))) (ev_index (j := 1) (z := .bool true) (ev_var rfl) (ev_bl true) (by rfl) (by rfl) rfl (by rfl) fun m z' hm hz => ?_) (od_ixL rfl))) ?_
    · match m, hm, hz with
      | 0, _, hz => cases hz; rfl
      | m + 1, hm, _ => exact absurd hm (by omega)
    obtain ⟨x, rfl, hxd⟩ := h1 _ rfl
    obtain ⟨T1, T2⟩ := W.fld 1 _ _ rfl rfl
    exact sw_seq (N1 := fun _ => False) (sw_if (b := true) (in_ rfl (by rfl)) (fun _ => sw_ret (ev_tup (ea_cons (ev_var rfl) (ea_cons (ev_xo T1 T2 hxd rfl) ea_nil)) (by simp)) rfl) nofun) fun _ z => z.elim
  · cases ht
    refine sw_then (sw_if (b := false) (et_eq (et_or (et_test (ev_op (ev_lcount (ev_var rfl) (ev_bl true) (by rfl) (by rfl) (by decide)) (ev_int 1) od_neI)) fun _ => et_not (et_B (vt rfl))) (by rfl)) nofun fun _ => sw_next rfl) ?_
    refine sw_then (sw_asg (ev_lst (ea_cons (ev_str _) (ea_cons (ev_str _) (ea_cons (ev_str _) (ea_cons (ev_str _) (ea_cons (ev_str _) (ea_cons (ev_str _) (ea_cons (ev_str _) (ea_cons (ev_str _) (ea_cons (ev_str _) (ea_cons (ev_str _) (ea_cons (ev_str _) (ea_cons (ev_str _) ea_nil)))))))))))) (by simp))) ?_
    refine sw_then (sw_asg (ev_op (ev_op (ev_var rfl) (ev_lst (ea_cons (ev_str _) ea_nil) (by simp)) (od_addL (by simp))) (ev_index (j := 2) (z := .bool true) (ev_var rfl) (ev_bl true) (by rfl) (by rfl) rfl (by rfl) fun m z' hm hz => ?_) (od_ixL rfl))) ?_
    · match m, hm, hz with
      | 0, _, hz => cases hz; rfl
      | 1, _, hz => cases hz; rfl
      | m + 2, hm, _ => exact absurd hm (by omega)
    obtain ⟨x, rfl, hxd⟩ := h1 _ rfl
    obtain ⟨T1, T2⟩ := W.fld 2 _ _ rfl rfl
    exact sw_seq (N1 := fun _ => False) (sw_if (b := true) (in_ rfl (by rfl)) (fun _ => sw_ret (ev_tup (ea_cons (ev_var rfl) (ea_cons (ev_xo T1 T2 hxd rfl) ea_nil)) (by simp)) rfl) nofun) fun _ z => z.elim
  · cases ht
    refine sw_then (sw_if (b := false) (et_eq (et_or (et_test (ev_op (ev_lcount (ev_var rfl) (ev_bl true) (by rfl) (by rfl) (by decide)) (ev_int 1) od_neI)) fun _ => et_not (et_B (vt rfl))) (by rfl)) nofun fun _ => sw_next rfl) ?_
    refine sw_then (sw_asg (ev_lst (ea_cons (ev_str _) (ea_cons (ev_str _) (ea_cons (ev_str _) (ea_cons (ev_str _) (ea_cons (ev_str _) (ea_cons (ev_str _) (ea_cons (ev_str _) (ea_cons (ev_str _) (ea_cons (ev_str _) (ea_cons (ev_str _) (ea_cons (ev_str _) (ea_cons (ev_str _) ea_nil)))))))))))) (by simp))) ?_
    refine sw_then (sw_asg (ev_op (ev_op (ev_var rfl) (ev_lst (ea_cons (ev_str _) ea_nil) (by simp)) (od_addL (by simp))) (ev_index (j := 3) (z := .bool true) (ev_var rfl) (ev_bl true) (by rfl) (by rfl) rfl (by rfl) fun m z' hm hz => ?_) (od_ixL rfl))) ?_
    · match m, hm, hz with
      | 0, _, hz => cases hz; rfl
      | 1, _, hz => cases hz; rfl
      | 2, _, hz => cases hz; rfl
      | m + 3, hm, _ => exact absurd hm (by omega)
    refine sw_then (sw_if (b := false) (in_ rfl (by rfl)) nofun fun _ => sw_next rfl) ?_
    obtain ⟨x, rfl, hxd⟩ := h1 _ rfl
    obtain ⟨T1, T2⟩ := W.fld 3 _ _ rfl rfl
    exact sw_ret (ev_if (b := true) (et_eq (et_test (ev_op (ev_var rfl) (ev_str _) (od_eq (by decide +kernel) (by decide +kernel)))) (by first | rfl | decide +kernel)) (fun _ => ev_tup (ea_cons (ev_var rfl) (ea_cons (ev_xo T1 T2 hxd rfl) ea_nil)) (by simp)) nofun) rfl
  · cases ht
    refine sw_then (sw_if (b := false) (et_eq (et_or (et_test (ev_op (ev_lcount (ev_var rfl) (ev_bl true) (by rfl) (by rfl) (by decide)) (ev_int 1) od_neI)) fun _ => et_not (et_B (vt rfl))) (by rfl)) nofun fun _ => sw_next rfl) ?_
    refine sw_then (sw_asg (ev_lst (ea_cons (ev_str _) (ea_cons (ev_str _) (ea_cons (ev_str _) (ea_cons (ev_str _) (ea_cons (ev_str _) (ea_cons (ev_str _) (ea_cons (ev_str _) (ea_cons (ev_str _) (ea_cons (ev_str _) (ea_cons (ev_str _) (ea_cons (ev_str _) (ea_cons (ev_str _) ea_nil)))))))))))) (by simp))) ?_
    refine sw_then (sw_asg (ev_op (ev_op (ev_var rfl) (ev_lst (ea_cons (ev_str _) ea_nil) (by simp)) (od_addL (by simp))) (ev_index (j := 4) (z := .bool true) (ev_var rfl) (ev_bl true) (by rfl) (by rfl) rfl (by rfl) fun m z' hm hz => ?_) (od_ixL rfl))) ?_
    · match m, hm, hz with
      | 0, _, hz => cases hz; rfl
      | 1, _, hz => cases hz; rfl
      | 2, _, hz => cases hz; rfl
      | 3, _, hz => cases hz; rfl
      | m + 4, hm, _ => exact absurd hm (by omega)
    refine sw_then (sw_if (b := false) (in_ rfl (by rfl)) nofun fun _ => sw_next rfl) ?_
    obtain ⟨x, rfl, hxd⟩ := h1 _ rfl
    obtain ⟨T1, T2⟩ := W.fld 4 _ _ rfl rfl
    exact sw_ret (ev_if (b := false) (et_eq (et_test (ev_op (ev_var rfl) (ev_str _) (od_eq (by decide +kernel) (by decide +kernel)))) (by first | rfl | decide +kernel)) nofun fun _ => ev_if (b := true) (et_eq (et_test (ev_op (ev_var rfl) (ev_str _) (od_eq (by decide +kernel) (by decide +kernel)))) (by first | rfl | decide +kernel)) (fun _ => ev_tup (ea_cons (ev_var rfl) (ea_cons (ev_xo T1 T2 hxd rfl) ea_nil)) (by simp)) nofun) rfl
  · cases ht
    refine sw_then (sw_if (b := false) (et_eq (et_or (et_test (ev_op (ev_lcount (ev_var rfl) (ev_bl true) (by rfl) (by rfl) (by decide)) (ev_int 1) od_neI)) fun _ => et_not (et_B (vt rfl))) (by rfl)) nofun fun _ => sw_next rfl) ?_
    refine sw_then (sw_asg (ev_lst (ea_cons (ev_str _) (ea_cons (ev_str _) (ea_cons (ev_str _) (ea_cons (ev_str _) (ea_cons (ev_str _) (ea_cons (ev_str _) (ea_cons (ev_str _) (ea_cons (ev_str _) (ea_cons (ev_str _) (ea_cons (ev_str _) (ea_cons (ev_str _) (ea_cons (ev_str _) ea_nil)))))))))))) (by simp))) ?_
    refine sw_then (sw_asg (ev_op (ev_op (ev_var rfl) (ev_lst (ea_cons (ev_str _) ea_nil) (by simp)) (od_addL (by simp))) (ev_index (j := 5) (z := .bool true) (ev_var rfl) (ev_bl true) (by rfl) (by rfl) rfl (by rfl) fun m z' hm hz => ?_) (od_ixL rfl))) ?_
    · match m, hm, hz with
      | 0, _, hz => cases hz; rfl
      | 1, _, hz => cases hz; rfl
      | 2, _, hz => cases hz; rfl
      | 3, _, hz => cases hz; rfl
      | 4, _, hz => cases hz; rfl
      | m + 5, hm, _ => exact absurd hm (by omega)
    refine sw_then (sw_if (b := false) (in_ rfl (by rfl)) nofun fun _ => sw_next rfl) ?_
    exact sw_ret (ev_if (b := false) (et_eq (et_test (ev_op (ev_var rfl) (ev_str _) (od_eq (by decide +kernel) (by decide +kernel)))) (by first | rfl | decide +kernel)) nofun fun _ => ev_if (b := false) (et_eq (et_test (ev_op (ev_var rfl) (ev_str _) (od_eq (by decide +kernel) (by decide +kernel)))) (by first | rfl | decide +kernel)) nofun fun _ => ev_var rfl) rfl
  · cases ht
    refine sw_then (sw_if (b := false) (et_eq (et_or (et_test (ev_op (ev_lcount (ev_var rfl) (ev_bl true) (by rfl) (by rfl) (by decide)) (ev_int 1) od_neI)) fun _ => et_not (et_B (vt rfl))) (by rfl)) nofun fun _ => sw_next rfl) ?_
    refine sw_then (sw_asg (ev_lst (ea_cons (ev_str _) (ea_cons (ev_str _) (ea_cons (ev_str _) (ea_cons (ev_str _) (ea_cons (ev_str _) (ea_cons (ev_str _) (ea_cons (ev_str _) (ea_cons (ev_str _) (ea_cons (ev_str _) (ea_cons (ev_str _) (ea_cons (ev_str _) (ea_cons (ev_str _) ea_nil)))))))))))) (by simp))) ?_
    refine sw_then (sw_asg (ev_op (ev_op (ev_var rfl) (ev_lst (ea_cons (ev_str _) ea_nil) (by simp)) (od_addL (by simp))) (ev_index (j := 6) (z := .bool true) (ev_var rfl) (ev_bl true) (by rfl) (by rfl) rfl (by rfl) fun m z' hm hz => ?_) (od_ixL rfl))) ?_
    · match m, hm, hz with
      | 0, _, hz => cases hz; rfl
      | 1, _, hz => cases hz; rfl
      | 2, _, hz => cases hz; rfl
      | 3, _, hz => cases hz; rfl
      | 4, _, hz => cases hz; rfl
      | 5, _, hz => cases hz; rfl
      | m + 6, hm, _ => exact absurd hm (by omega)
    refine sw_then (sw_if (b := false) (in_ rfl (by rfl)) nofun fun _ => sw_next rfl) ?_
    exact sw_ret (ev_if (b := false) (et_eq (et_test (ev_op (ev_var rfl) (ev_str _) (od_eq (by decide +kernel) (by decide +kernel)))) (by first | rfl | decide +kernel)) nofun fun _ => ev_if (b := false) (et_eq (et_test (ev_op (ev_var rfl) (ev_str _) (od_eq (by decide +kernel) (by decide +kernel)))) (by first | rfl | decide +kernel)) nofun fun _ => ev_var rfl) rfl
  · cases ht
    refine sw_then (sw_if (b := false) (et_eq (et_or (et_test (ev_op (ev_lcount (ev_var rfl) (ev_bl true) (by rfl) (by rfl) (by decide)) (ev_int 1) od_neI)) fun _ => et_not (et_B (vt rfl))) (by rfl)) nofun fun _ => sw_next rfl) ?_
    refine sw_then (sw_asg (ev_lst (ea_cons (ev_str _) (ea_cons (ev_str _) (ea_cons (ev_str _) (ea_cons (ev_str _) (ea_cons (ev_str _) (ea_cons (ev_str _) (ea_cons (ev_str _) (ea_cons (ev_str _) (ea_cons (ev_str _) (ea_cons (ev_str _) (ea_cons (ev_str _) (ea_cons (ev_str _) ea_nil)))))))))))) (by simp))) ?_
    refine sw_then (sw_asg (ev_op (ev_op (ev_var rfl) (ev_lst (ea_cons (ev_str _) ea_nil) (by simp)) (od_addL (by simp))) (ev_index (j := 7) (z := .bool true) (ev_var rfl) (ev_bl true) (by rfl) (by rfl) rfl (by rfl) fun m z' hm hz => ?_) (od_ixL rfl))) ?_
    · match m, hm, hz with
      | 0, _, hz => cases hz; rfl
      | 1, _, hz => cases hz; rfl
      | 2, _, hz => cases hz; rfl
      | 3, _, hz => cases hz; rfl
      | 4, _, hz => cases hz; rfl
      | 5, _, hz => cases hz; rfl
      | 6, _, hz => cases hz; rfl
      | m + 7, hm, _ => exact absurd hm (by omega)
    refine sw_then (sw_if (b := false) (in_ rfl (by rfl)) nofun fun _ => sw_next rfl) ?_
    exact sw_ret (ev_if (b := false) (et_eq (et_test (ev_op (ev_var rfl) (ev_str _) (od_eq (by decide +kernel) (by decide +kernel)))) (by first | rfl | decide +kernel)) nofun fun _ => ev_if (b := false) (et_eq (et_test (ev_op (ev_var rfl) (ev_str _) (od_eq (by decide +kernel) (by decide +kernel)))) (by first | rfl | decide +kernel)) nofun fun _ => ev_var rfl) rfl
  · cases ht
    refine sw_then (sw_if (b := false) (et_eq (et_or (et_test (ev_op (ev_lcount (ev_var rfl) (ev_bl true) (by rfl) (by rfl) (by decide)) (ev_int 1) od_neI)) fun _ => et_not (et_B (vt rfl))) (by rfl)) nofun fun _ => sw_next rfl) ?_
    refine sw_then (sw_asg (ev_lst (ea_cons (ev_str _) (ea_cons (ev_str _) (ea_cons (ev_str _) (ea_cons (ev_str _) (ea_cons (ev_str _) (ea_cons (ev_str _) (ea_cons (ev_str _) (ea_cons (ev_str _) (ea_cons (ev_str _) (ea_cons (ev_str _) (ea_cons (ev_str _) (ea_cons (ev_str _) ea_nil)))))))))))) (by simp))) ?_
    refine sw_then (sw_asg (ev_op (ev_op (ev_var rfl) (ev_lst (ea_cons (ev_str _) ea_nil) (by simp)) (od_addL (by simp))) (ev_index (j := 8) (z := .bool true) (ev_var rfl) (ev_bl true) (by rfl) (by rfl) rfl (by rfl) fun m z' hm hz => ?_) (od_ixL rfl))) ?_
    · match m, hm, hz with
      | 0, _, hz => cases hz; rfl
      | 1, _, hz => cases hz; rfl
      | 2, _, hz => cases hz; rfl
      | 3, _, hz => cases hz; rfl
      | 4, _, hz => cases hz; rfl
      | 5, _, hz => cases hz; rfl
      | 6, _, hz => cases hz; rfl
      | 7, _, hz => cases hz; rfl
      | m + 8, hm, _ => exact absurd hm (by omega)
    refine sw_then (sw_if (b := false) (in_ rfl (by rfl)) nofun fun _ => sw_next rfl) ?_
    exact sw_ret (ev_if (b := false) (et_eq (et_test (ev_op (ev_var rfl) (ev_str _) (od_eq (by decide +kernel) (by decide +kernel)))) (by first | rfl | decide +kernel)) nofun fun _ => ev_if (b := false) (et_eq (et_test (ev_op (ev_var rfl) (ev_str _) (od_eq (by decide +kernel) (by decide +kernel)))) (by first | rfl | decide +kernel)) nofun fun _ => ev_var rfl) rfl
  · cases ht
    refine sw_then (sw_if (b := false) (et_eq (et_or (et_test (ev_op (ev_lcount (ev_var rfl) (ev_bl true) (by rfl) (by rfl) (by decide)) (ev_int 1) od_neI)) fun _ => et_not (et_B (vt rfl))) (by rfl)) nofun fun _ => sw_next rfl) ?_
    refine sw_then (sw_asg (ev_lst (ea_cons (ev_str _) (ea_cons (ev_str _) (ea_cons (ev_str _) (ea_cons (ev_str _) (ea_cons (ev_str _) (ea_cons (ev_str _) (ea_cons (ev_str _) (ea_cons (ev_str _) (ea_cons (ev_str _) (ea_cons (ev_str _) (ea_cons (ev_str _) (ea_cons (ev_str _) ea_nil)))))))))))) (by simp))) ?_
    refine sw_then (sw_asg (ev_op (ev_op (ev_var rfl) (ev_lst (ea_cons (ev_str _) ea_nil) (by simp)) (od_addL (by simp))) (ev_index (j := 9) (z := .bool true) (ev_var rfl) (ev_bl true) (by rfl) (by rfl) rfl (by rfl) fun m z' hm hz => ?_) (od_ixL rfl))) ?_
    · match m, hm, hz with
      | 0, _, hz => cases hz; rfl
      | 1, _, hz => cases hz; rfl
      | 2, _, hz => cases hz; rfl
      | 3, _, hz => cases hz; rfl
      | 4, _, hz => cases hz; rfl
      | 5, _, hz => cases hz; rfl
      | 6, _, hz => cases hz; rfl
      | 7, _, hz => cases hz; rfl
      | 8, _, hz => cases hz; rfl
      | m + 9, hm, _ => exact absurd hm (by omega)
    refine sw_then (sw_if (b := false) (in_ rfl (by rfl)) nofun fun _ => sw_next rfl) ?_
    exact sw_ret (ev_if (b := false) (et_eq (et_test (ev_op (ev_var rfl) (ev_str _) (od_eq (by decide +kernel) (by decide +kernel)))) (by first | rfl | decide +kernel)) nofun fun _ => ev_if (b := false) (et_eq (et_test (ev_op (ev_var rfl) (ev_str _) (od_eq (by decide +kernel) (by decide +kernel)))) (by first | rfl | decide +kernel)) nofun fun _ => ev_var rfl) rfl
  · cases ht
    refine sw_then (sw_if (b := false) (et_eq (et_or (et_test (ev_op (ev_lcount (ev_var rfl) (ev_bl true) (by rfl) (by rfl) (by decide)) (ev_int 1) od_neI)) fun _ => et_not (et_B (vt rfl))) (by rfl)) nofun fun _ => sw_next rfl) ?_
    refine sw_then (sw_asg (ev_lst (ea_cons (ev_str _) (ea_cons (ev_str _) (ea_cons (ev_str _) (ea_cons (ev_str _) (ea_cons (ev_str _) (ea_cons (ev_str _) (ea_cons (ev_str _) (ea_cons (ev_str _) (ea_cons (ev_str _) (ea_cons (ev_str _) (ea_cons (ev_str _) (ea_cons (ev_str _) ea_nil)))))))))))) (by simp))) ?_
    refine sw_then (sw_asg (ev_op (ev_op (ev_var rfl) (ev_lst (ea_cons (ev_str _) ea_nil) (by simp)) (od_addL (by simp))) (ev_index (j := 10) (z := .bool true) (ev_var rfl) (ev_bl true) (by rfl) (by rfl) rfl (by rfl) fun m z' hm hz => ?_) (od_ixL rfl))) ?_
    · match m, hm, hz with
      | 0, _, hz => cases hz; rfl
      | 1, _, hz => cases hz; rfl
      | 2, _, hz => cases hz; rfl
      | 3, _, hz => cases hz; rfl
      | 4, _, hz => cases hz; rfl
      | 5, _, hz => cases hz; rfl
      | 6, _, hz => cases hz; rfl
      | 7, _, hz => cases hz; rfl
      | 8, _, hz => cases hz; rfl
      | 9, _, hz => cases hz; rfl
      | m + 10, hm, _ => exact absurd hm (by omega)
    refine sw_then (sw_if (b := false) (in_ rfl (by rfl)) nofun fun _ => sw_next rfl) ?_
    exact sw_ret (ev_if (b := false) (et_eq (et_test (ev_op (ev_var rfl) (ev_str _) (od_eq (by decide +kernel) (by decide +kernel)))) (by first | rfl | decide +kernel)) nofun fun _ => ev_if (b := false) (et_eq (et_test (ev_op (ev_var rfl) (ev_str _) (od_eq (by decide +kernel) (by decide +kernel)))) (by first | rfl | decide +kernel)) nofun fun _ => ev_var rfl) rfl
  · cases ht
    refine sw_then (sw_if (b := false) (et_eq (et_or (et_test (ev_op (ev_lcount (ev_var rfl) (ev_bl true) (by rfl) (by rfl) (by decide)) (ev_int 1) od_neI)) fun _ => et_not (et_B (vt rfl))) (by rfl)) nofun fun _ => sw_next rfl) ?_
    refine sw_then (sw_asg (ev_lst (ea_cons (ev_str _) (ea_cons (ev_str _) (ea_cons (ev_str _) (ea_cons (ev_str _) (ea_cons (ev_str _) (ea_cons (ev_str _) (ea_cons (ev_str _) (ea_cons (ev_str _) (ea_cons (ev_str _) (ea_cons (ev_str _) (ea_cons (ev_str _) (ea_cons (ev_str _) ea_nil)))))))))))) (by simp))) ?_
    refine sw_then (sw_asg (ev_op (ev_op (ev_var rfl) (ev_lst (ea_cons (ev_str _) ea_nil) (by simp)) (od_addL (by simp))) (ev_index (j := 11) (z := .bool true) (ev_var rfl) (ev_bl true) (by rfl) (by rfl) rfl (by rfl) fun m z' hm hz => ?_) (od_ixL rfl))) ?_
    · match m, hm, hz with
      | 0, _, hz => cases hz; rfl
      | 1, _, hz => cases hz; rfl
      | 2, _, hz => cases hz; rfl
      | 3, _, hz => cases hz; rfl
      | 4, _, hz => cases hz; rfl
      | 5, _, hz => cases hz; rfl
      | 6, _, hz => cases hz; rfl
      | 7, _, hz => cases hz; rfl
      | 8, _, hz => cases hz; rfl
      | 9, _, hz => cases hz; rfl
      | 10, _, hz => cases hz; rfl
      | m + 11, hm, _ => exact absurd hm (by omega)
    refine sw_then (sw_if (b := false) (in_ rfl (by rfl)) nofun fun _ => sw_next rfl) ?_
    exact sw_ret (ev_if (b := false) (et_eq (et_test (ev_op (ev_var rfl) (ev_str _) (od_eq (by decide +kernel) (by decide +kernel)))) (by first | rfl | decide +kernel)) nofun fun _ => ev_if (b := false) (et_eq (et_test (ev_op (ev_var rfl) (ev_str _) (od_eq (by decide +kernel) (by decide +kernel)))) (by first | rfl | decide +kernel)) nofun fun _ => ev_var rfl) rfl
  · cases ht
    refine sw_then (sw_if (b := false) (et_eq (et_or (et_test (ev_op (ev_lcount (ev_var rfl) (ev_bl true) (by rfl) (by rfl) (by decide)) (ev_int 1) od_neI)) fun _ => et_not (et_B (vt rfl))) (by rfl)) nofun fun _ => sw_next rfl) ?_
    refine sw_then (sw_asg (ev_lst (ea_cons (ev_str _) (ea_cons (ev_str _) (ea_cons (ev_str _) (ea_cons (ev_str _) (ea_cons (ev_str _) (ea_cons (ev_str _) (ea_cons (ev_str _) (ea_cons (ev_str _) (ea_cons (ev_str _) (ea_cons (ev_str _) (ea_cons (ev_str _) (ea_cons (ev_str _) ea_nil)))))))))))) (by simp))) ?_
    refine sw_then (sw_asg (ev_op (ev_op (ev_var rfl) (ev_lst (ea_cons (ev_str _) ea_nil) (by simp)) (od_addL (by simp))) (ev_index (j := 12) (z := .bool true) (ev_var rfl) (ev_bl true) (by rfl) (by rfl) rfl (by rfl) fun m z' hm hz => ?_) (od_ixL rfl))) ?_
    · match m, hm, hz with
      | 0, _, hz => cases hz; rfl
      | 1, _, hz => cases hz; rfl
      | 2, _, hz => cases hz; rfl
      | 3, _, hz => cases hz; rfl
      | 4, _, hz => cases hz; rfl
      | 5, _, hz => cases hz; rfl
      | 6, _, hz => cases hz; rfl
      | 7, _, hz => cases hz; rfl
      | 8, _, hz => cases hz; rfl
      | 9, _, hz => cases hz; rfl
      | 10, _, hz => cases hz; rfl
      | 11, _, hz => cases hz; rfl
      | m + 12, hm, _ => exact absurd hm (by omega)
    refine sw_then (sw_if (b := false) (in_ rfl (by rfl)) nofun fun _ => sw_next rfl) ?_
    exact sw_ret (ev_if (b := false) (et_eq (et_test (ev_op (ev_var rfl) (ev_str _) (od_eq (by decide +kernel) (by decide +kernel)))) (by first | rfl | decide +kernel)) nofun fun _ => ev_if (b := false) (et_eq (et_test (ev_op (ev_var rfl) (ev_str _) (od_eq (by decide +kernel) (by decide +kernel)))) (by first | rfl | decide +kernel)) nofun fun _ => ev_var rfl) rfl
end
end Sp

set_option Elab.async false
set_option linter.all false
set_option maxRecDepth 100000
set_option maxHeartbeats 4000000
/-! The word of a refusal: try, the suite, and what comes behind. -/
namespace Sp
open PySem PySem.Spec PyProof.Rows L2 SM SR SD SE LamX
/-- the states that come by are as long as the names -/
theorem takes_len {X : Cx} {W : WX} (t : Takes X W) : Takes X fun cls d σ H => σ.length = X.N.length → W cls d σ H := fun u s' ⟨a, B, sI, pins, σ, H, cls, d, e, I, nb, up, sky, na, os, ag, w⟩ => t u s' ⟨a, B, sI, pins, σ, H, cls, d, e, I, nb, up, sky, na, os, ag, w I.len⟩
/-- what a work must come to, so that its word is told -/
def TTw (K : PySem.W.Frag) (a : Ad) : (XK → Hp → VK → Prop) → Hp → VK → Prop := fun tl H Q => tl (fun cls d H' => ∃ (j : Nat) (t : Addr × Str × Option Str) (n : Int) (M : Ads), (wTab a)[j]? = some t ∧ cls = .ref t.1 ∧ (t.2.2 = none → d = none) ∧ (∀ f, t.2.2 = some f → ∃ x, d = some x ∧ H' x = some (.xd [(f, .int n)])) ∧ Lv M H' ∧ ∀ v H'', Same H' H'' → Dt (hid M H'') v (wordOf t n) → Q v H'') H fun _ H' => Q (.str "") H'
theorem suite_at {P : Program} {w : World} {K : PySem.W.Frag} {a : Ad} (W : WordOk K a) {H : Hp} {Q : VK} {cls : Value} {d : Option Addr} {D : Ends} (hD : D.rt = Q) {σ : L2.St} (hl : σ.length = 5)
    (h : ∃ (j : Nat) (t : Addr × Str × Option Str) (n : Int) (M : Ads), (wTab a)[j]? = some t ∧ cls = .ref t.1 ∧ (t.2.2 = none → d = none) ∧ (∀ f, t.2.2 = some f → ∃ x, d = some x ∧ H x = some (.xd [(f, .int n)])) ∧ Lv M H ∧ ∀ v H'', Same H H'' → Dt (hid M H'') v (wordOf t n) → Q v H'') :
    ∃ b, PySem.W.exmOne K cls (.ref a.SpillError) = some b ∧ (b = true → ∀ e, H e = none → t_suite P w K a e cls d { nx := fun σ' H' => D.nx (σ'.set 1 none) H', rt := D.rt, bk := fun σ' H' => D.bk (σ'.set 1 none) H', ct := fun σ' H' => D.ct (σ'.set 1 none) H' } (σ.set 1 (some (.ref e))) H) ∧ (b = false → False) := by
  obtain ⟨j, t, n, M, ht, rfl, h0, h1, lv, q⟩ := h
  refine ⟨true, W.exm j t ht, fun _ e he => ?_, nofun⟩
  have g : EnvD (wd M H) Iv.nil [] H (σ.set 1 (some (.ref e))) [.no, .val (.ref e), .no, .no, .no] := by
    refine ⟨by simp [hl], fun i s es => ?_⟩
    match i, es with
    | 0, es =>
      cases es
      trivial
    | 1, es =>
      cases es
      show (σ.set 1 (some (V.ref e)))[1]? = some (some (V.ref e))
      rw [List.getElem?_set]
      simp [hl]
    | 2, es =>
      cases es
      trivial
    | 3, es =>
      cases es
      trivial
    | 4, es =>
      cases es
      trivial
    | i + 5, es => simp at es
  refine suite_run W ht h0 h1 [] H _ _ (At0.nil.cur lv) g (fun _ _ _ _ _ _ _ _ z => z.2.elim) fun v ro H' Φ' bt hp rd ed => ?_
  obtain ⟨rfl, dv, rfl, rfl⟩ := ed
  rw [hD]
  exact q v H' bt.same (Dt.mono (Same.s (hid_sub fun a ha => Or.inl ha)) rd)
/-- the names, the exception's one being en -/
abbrev nWord (en : Str) : List Str := ["_law_work", en, "_law_kinds", "_law_words", "_law_word_here"]
theorem word_gives {en : Str} {X : Cx} {a : Ad} (W : WordOk X.K a) {sg : Scope} {g : Addr} {cdg : Value} {q : Str} {b₀ : Stmt} {suite : List Stmt} {jj : Nat} {p1 p2 p3 p4 p5 p6 p7 p8 : Pos} (Sg : FnScope (nWord en) ["_law_work"] sg) (hge : sg.names.lookup ("SpillError" : Str) = some .globalImplicit) (hle : sg.names.lookup en = some .local) (hse : X.mg ("SpillError" : Str) = some (.ref a.SpillError))
    (hsu : ∀ (s : Shared) (H : Hp) (e : Addr) (oe : Obj) (cls : Value) (d : Option Addr) (pn : List (Addr × Obj)), Zc cls d oe → (∃ vs, oe.data = .fields vs) → PSs ((cxOf C8.CX0 X.prog X.w X.K X.mg X.base (nWord en) "_law_word" sg g cdg X.A X.stack s H C8.E0).nox.suite e ((e, oe) :: pn)) (b₀ :: suite) (t_suite X.prog X.w X.K a e cls d)) :
    GivesTo X (nWord en) "_law_word" sg g cdg [.Try [.Expr (.Call (.Name "_law_work" p1) [] [] p2) p3] [.ExceptHandler (some (.Name "SpillError" p4)) (some en) (b₀ :: suite) p5] [] [] p6, .Return (some (.Constant (.str "") jj p7)) p8] "_law_work" q (TTw X.K a) := by
  intro f c' s H Q tl act hc h
  have hgl : Gl (cxOf C8.CX0 X.prog X.w X.K X.mg X.base (nWord en) "_law_word" sg g cdg X.A X.stack s H C8.E0).nox ("SpillError" : Str) := hge
  refine ⟨_, pss_cons (ps_try_as (X := (cxOf C8.CX0 X.prog X.w X.K X.mg X.base (nWord en) "_law_word" sg g cdg X.A X.stack s H C8.E0).nox) (c := .ref a.SpillError) (i := 1)
      (tb := fun W D σ H => ∃ Ech : XK, (∀ cls d σ' H', Ech cls d H' → σ'.length = 5 → W cls d σ' H') ∧ σ[0]? = some (some (.ref f)) ∧ H c' = some (CodeO c' q) ∧ tl Ech H fun _ H' => D.nx σ H')
      rfl rfl Sg.nd rfl hle ⟨hgl, by decide, .inl hse⟩ LamX.takes0 (fun W pn xe tk _ => ?_) (fun e oe cls d pn hz hf => hsu s H e oe cls d pn hz hf)) (pss_one (ps_ret pe_str)), ?_⟩
  · refine ⟨fun pins s' σ H' D I h' => ?_⟩
    obtain ⟨Ech, hW, h1, h2, h3⟩ := h'
    have hp := act _ pn xe Ech p1 p2 (takes_len tk) fun cls d σ' H' z hl => hW cls d σ' H' z hl
    exact (pss_one (ps_expr (pos := p3) hp)).run pins s' σ H' D I ⟨h1, h2, h3⟩
  · refine ⟨_, fun cls d σ' H' z hl => suite_at W rfl hl z, rfl, hc, ?_⟩
    exact h
end Sp

set_option Elab.async false
set_option linter.all false
set_option maxRecDepth 100000
set_option maxHeartbeats 4000000
/-! What the classes say, looked at by a Bool. -/
namespace Sp
open PySem PySem.Spec PyProof.Rows L2 SM SR SD SE
theorem excB_ok {K : PySem.W.Frag} {D : Addr} (h : excB K D = true) : ExcC K D := by
  simp only [excB, Bool.and_eq_true, decide_eq_true_eq] at h
  obtain ⟨h1, h2, h3, h4, h5, h6, h7, h8⟩ := h
  exact ⟨h1, h2, h3, h4, h5, h6, h7, h8⟩
theorem wordB_ok {K : PySem.W.Frag} {a : Ad} (h : wordB K a = true) : WordOk K a := by
  simp only [wordB, Bool.and_eq_true, List.all_eq_true] at h
  obtain ⟨h1, h2⟩ := h
  have one : ∀ (j : Nat) t, (wTab a)[j]? = some t → wordB1 K a t = true := fun j t ht => h1 t (List.mem_of_getElem? ht)
  have lt : ∀ (j : Nat) t, (wTab a)[j]? = some t → j < 13 := fun j t ht => (List.getElem?_eq_some_iff.mp ht).1
  refine ⟨fun j t ht => ?_, fun j i t u ht hu => ?_, fun j t ht => ?_, fun j t ht => ?_, fun j t f ht hf => ?_⟩
  · have := one j t ht
    simp only [wordB1, Bool.and_eq_true] at this
    exact excB_ok this.1
  · have := h2 j (List.mem_range.mpr (lt j t ht)) i (List.mem_range.mpr (lt i u hu))
    simp only [wordB2, ht, hu, decide_eq_true_eq] at this
    exact this
  · have := one j t ht
    simp only [wordB1, Bool.and_eq_true, decide_eq_true_eq] at this
    exact this.2.1
  · have := one j t ht
    simp only [wordB1, Bool.and_eq_true, decide_eq_true_eq] at this
    exact this.2.2.1
  · have := one j t ht
    simp only [wordB1, Bool.and_eq_true, hf, decide_eq_true_eq] at this
    exact ⟨L2.xfB_ok this.2.2.2.1, this.2.2.2.2⟩
end Sp

set_option Elab.async false
set_option linter.all false
set_option maxRecDepth 100000
set_option maxHeartbeats 4000000
/-! The tables of code objects are held; what stays when a lambda is made. -/
namespace Sp
open PySem L2 SM SR SD SE LamX
/-- the tables are held -/
def ivT (T : List (Addr × Str)) : Iv := ⟨T.map (·.1), fun _ H => Tabs T H, fun Z k n _ h p hp => by
  obtain ⟨ps, h1, h2, h3⟩ := h p hp
  refine ⟨ps, k _ _ (fun z => (n _ z).1 (List.mem_map.mpr ⟨p, hp, rfl⟩)) h1, h2, fun pos cv hc => ?_⟩
  obtain ⟨c, e, hcc⟩ := h3 pos cv hc
  exact ⟨c, e, k _ _ (fun z => (n _ z).2.2.2 _ hcc) hcc⟩, fun _ _ h => h⟩
/-- what stays when a lambda is made -/
structure ExtOk (T : List (Addr × Str)) (Φ : Iv) : Prop where
  st : ∀ {N : Ads} {H H1 : Hp}, ExtN H H1 → Tabs T H1 → SameS (hid N H) (hid N H1) → Φ.p N H → Φ.p N H1
  nt : ∀ {N : Ads} {H : Hp}, Φ.p N H → ∀ b ∈ Φ.fp, (∃ p ∈ T, p.1 = b) ∨ ∀ ps, H b ≠ some (.tbl ps)
/-- the tables are among what is held -/
def TabIn (T : List (Addr × Str)) (Φ : Iv) : Prop := ∀ N H, Φ.p N H → Tabs T H
theorem TabIn.andl {T : List (Addr × Str)} {Φ Ψ : Iv} (h : TabIn T Φ) : TabIn T (Φ.and Ψ) := fun N H p => h N H p.1
theorem TabIn.andr {T : List (Addr × Str)} {Φ Ψ : Iv} (h : TabIn T Ψ) : TabIn T (Φ.and Ψ) := fun N H p => h N H p.2
theorem tabIn_T {T : List (Addr × Str)} : TabIn T (ivT T) := fun _ _ p => p
theorem ExtOk.and {T : List (Addr × Str)} {Φ Ψ : Iv} (a : ExtOk T Φ) (b : ExtOk T Ψ) : ExtOk T (Φ.and Ψ) := ⟨fun e t s h => ⟨a.st e t s h.1, b.st e t s h.2⟩, fun h x hx => by
  rcases List.mem_append.mp hx with hx | hx
  · exact a.nt h.1 x hx
  · exact b.nt h.2 x hx⟩
theorem extOk_T {T : List (Addr × Str)} : ExtOk T (ivT T) := ⟨fun _ t _ _ => t, fun _ b hb => .inl (by
  obtain ⟨p, hp, e⟩ := List.mem_map.mp hb
  exact ⟨p, hp, e⟩)⟩
theorem extN_same {N : Ads} {H H1 : Hp} (e : ExtN H H1) : SameS (hid N H) (hid N H1) := fun b o h z => by
  obtain ⟨m, h⟩ := hid_some h
  refine (hid_out m).trans (e b o h fun ps q => ?_)
  subst q
  cases z
theorem extOk_row {T : List (Addr × Str)} {K : PySem.W.Frag} {r scr : Addr} : ExtOk T (ivRow K r scr) := ⟨fun e _ s h => by
  obtain ⟨ns, p, q, c, h1, h2, h3⟩ := h
  exact ⟨ns, p, q, c, e _ _ h1 (fun ps z => by cases z), h2.keep fun o z => e _ _ z (fun ps y => by cases y), h3⟩, fun h b hb => .inr fun ps => by
  obtain ⟨ns, p, q, c, h1, _⟩ := h
  have hb : b = r := by simpa [ivRow] using hb
  rw [hb, h1]
  intro z
  cases z⟩
theorem extOk_m {T : List (Addr × Str)} {G : MA} {S : FS} : ExtOk T (ivM G S) := ⟨fun e _ s h => by
  obtain ⟨vps, vss, h1, h2, h3, h4, h5, h6, h7, h8⟩ := h
  exact ⟨vps, vss, e _ _ h1 (fun ps z => by cases z), e _ _ h2 (fun ps z => by cases z), e _ _ h3 (fun ps z => by cases z), h4.mono s, e _ _ h5 (fun ps z => by cases z), h6.mono s, e _ _ h7 (fun ps z => by cases z), h8⟩, fun h b hb => .inr fun ps e => by
  obtain ⟨vps, vss, h1, h2, h3, h4, h5, h6, h7, h8⟩ := h
  have hb : b ∈ G.foot := hb
  simp only [MA.foot, List.mem_cons, List.not_mem_nil, or_false] at hb
  rcases hb with rfl | rfl | rfl | rfl | rfl
  · rw [h1] at e; cases e
  · rw [h2] at e; cases e
  · rw [h3] at e; cases e
  · rw [h5] at e; cases e
  · rw [h7] at e; cases e⟩
end Sp

set_option Elab.async false
set_option linter.all false
set_option maxRecDepth 100000
set_option maxHeartbeats 4000000
/-! A lambda is made. -/
namespace Sp
open PySem L2 SM SR SD SE LamX
section
variable {X : Wd} {Φ Ψ : Iv} {H H1 : Hp} {L : Lo} {σ : L2.St} {Γ : Gm} {T : List (Addr × Str)}
/-- where lambdas may be made: the tables may change, nothing is hidden -/
structure LamW (X : Wd) (T : List (Addr × Str)) : Prop where
  tA : ∀ p ∈ T, p.1 ∈ X.A
  no : ∀ b, b ∉ X.M
  t0 : ∀ b ps, X.H0 b = some (.tbl ps) → ∃ p ∈ T, p.1 = b
  sA : ∀ b ∈ X.A, ∃ p ∈ T, p.1 = b
theorem Cur.lam (lw : LamW X T) (ok : ExtOk T Φ) (c : Cur X Φ L H) (e : ExtN H H1) (t : Tabs T H1) : Cur X Φ L H1 ∧ SameS (hd X Φ L H) (hd X Φ L H1) ∧ Kp L H H1 := by
  have tl : ∀ p ∈ T, H1 p.1 ≠ none := fun p hp z => by
    obtain ⟨ps, h, _⟩ := t p hp
    rw [h] at z
    cases z
  have live : ∀ b, H b ≠ none → (∀ ps, H b ≠ some (.tbl ps)) → H1 b ≠ none := fun b hb hn z => by
    cases q : H b with
    | none => exact hb q
    | some o =>
      rw [e b o q fun ps y => hn ps (by rw [q, y])] at z
      cases z
  have s := extN_same (N := hdn X Φ L) e
  refine ⟨⟨⟨fun b o n h => ?_, fun b h => ?_⟩, fun b m => ?_, c.new, c.om, c.nd, c.dj, ok.st e t s c.at_, fun p hp => (c.ls p hp).imp fun _ z => e _ _ z fun ps y => by cases y⟩, s, fun p hp => ?_⟩
  · refine e b o (c.but.keep b o n h) fun ps y => ?_
    obtain ⟨p, hp, q⟩ := lw.t0 b ps (by rw [h, y])
    exact n (by rw [← q]; exact lw.tA p hp)
  · by_cases hb : b ∈ X.A
    · obtain ⟨p, hp, rfl⟩ := lw.sA b hb
      exact tl p hp
    · cases q : X.H0 b with
      | none => exact absurd q h
      | some o =>
        refine live b (by rw [c.but.keep b o hb q]; nofun) fun ps y => ?_
        rw [c.but.keep b o hb q] at y
        obtain ⟨p, hp, z⟩ := lw.t0 b ps (by rw [q, Option.some.inj y])
        exact hb (by rw [← z]; exact lw.tA p hp)
  · rcases m with m | m | m
    · obtain ⟨p, hp, rfl⟩ := List.mem_map.mp m
      obtain ⟨xs, hx⟩ := c.ls p hp
      exact live _ (by rw [hx]; nofun) fun ps y => by
        rw [hx] at y
        cases y
    · exact absurd m (lw.no b)
    · rcases ok.nt c.at_ b m with ⟨p, hp, rfl⟩ | n
      · exact tl p hp
      · exact live b (c.lv b (Or.inr (Or.inr m))) n
  · obtain ⟨xs, hx⟩ := c.ls p hp
    rw [hx]
    exact e _ _ hx fun ps y => by cases y
end
end Sp

set_option Elab.async false
set_option linter.all false
set_option maxRecDepth 100000
set_option maxHeartbeats 4000000
/-! The word of a work that a lambda does. -/
namespace Sp
open PySem L2 SM SR SD SE LamX
section
variable {X : Wd} {Φ Ψ : Iv} {H H1 : Hp} {L : Lo} {σ : L2.St} {Γ Γ' : Gm} {T : List (Addr × Str)} {K : PySem.W.Frag} {a : Ad}
/-- the word of what a work comes to -/
def wordR (a : Ad) : Rs → D → Prop
  | .ok _, d => d = .str ""
  | .er c, d => ∃ (j : Nat) (t : Addr × Str × Option Str), (wTab a)[j]? = some t ∧ t.1 = c ∧ t.2.2 = none ∧ d = wordOf t 0
  | .ef c f n, d => ∃ (j : Nat) (t : Addr × Str × Option Str), (wTab a)[j]? = some t ∧ t.1 = c ∧ t.2.2 = some f ∧ d = wordOf t n
/-- _law_word(lambda: ..), what is held staying as it is -/
theorem eg_word {t : XK → TE} {r : Rs} {d : D} {S : D → Iv → Prop} (lw : LamW X T) (ok : ExtOk T Φ) (ti : TabIn T Φ) (hb : ∀ E, EvR X Φ (t E) Γ E r) (hw : wordR a r d) (s : S d Φ) : Eg X Φ (tLam T (TTw K a) t) Γ S := fun L H σ c g Q q => by
  refine ⟨ti _ _ c.at_, fun H1 e t1 => ?_⟩
  obtain ⟨c1, s1, k1⟩ := Cur.lam lw ok c e t1
  have fin : ∀ v H2, Same H1 H2 → Dt (hd X Φ L H2) v d → Q v H2 := fun v H2 s2 rd => q v H2 d Φ (c1.up s2) (s1.trans (Same.s (Same.hid s2))) (k1.trans (Kp.same c1 s2)) s rd
  refine hb _ L H1 σ c1 (g.kp s1 k1) _ ?_
  cases r with
  | ok d0 =>
    intro v H2 s2 _
    refine fin _ H2 s2 ?_
    rw [show d = .str "" from hw]
    exact .str _
  | er cc =>
    intro H2 s2
    obtain ⟨j, t, ht, rfl, hn, rfl⟩ := hw
    exact ⟨j, t, 0, _, ht, rfl, fun _ => rfl, (fun f hf => by rw [hn] at hf; cases hf), (c1.up s2).lv, fun v H3 s3 rd => fin v H3 (s2.trans s3) rd⟩
  | ef cc f n =>
    intro b H2 s2 hx
    obtain ⟨j, t, ht, rfl, hf, rfl⟩ := hw
    exact ⟨j, t, n, _, ht, rfl, (fun hn => by rw [hf] at hn; cases hn), (fun f' hf' => by
      rw [hf] at hf'
      cases hf'
      exact ⟨b, rfl, hx⟩), (c1.up s2).lv, fun v H3 s3 rd => fin v H3 (s2.trans s3) rd⟩
/-- _law_word(lambda: ..) != e, where it is e -/
theorem egt_neWord {t : XK → TE} {te : TE} {r : Rs} {d : D} {S : Bool → Iv → Prop} (lw : LamW X T) (ok : ExtOk T Φ) (ti : TabIn T Φ) (hb : ∀ E, EvR X Φ (t E) Γ E r) (hw : wordR a r d) (he : Ev X Φ te Γ d) (hs : SeqAt.shaped d = true) (hq : PyData.eqv d d = true) (s : S false Φ) :
    EgT X Φ (tTest (tOp (rNeD K) (tLam T (TTw K a) t) te)) Γ S :=
  egt_test (eg_op (eg_word lw ok ti hb hw (eg_of he ⟨_, od_ne hs hs, _, by rw [hq]; rfl, s⟩)))
end
end Sp

set_option Elab.async false
set_option linter.all false
set_option maxRecDepth 100000
set_option maxHeartbeats 4000000
/-! A law that makes lambdas: its entry, its end. -/
namespace Sp
open PySem PySem.Spec PyProof.Rows L2 SM SR SD SE LamX
section
variable {K : PySem.W.Frag} {H : Hp} {scr : Addr} {t : TS} {T : List (Addr × Str)}
/-- row = [script, 0, 0, 0], and what comes behind it; the tables are held -/
theorem law_enterT {Ns : List Str} {ns : List Int} {Q : VK} (hN : 1 < Ns.length) (hs : SqF K H scr (ns.map V.int)) (ht : Tabs T H)
    (h : ∀ (X : Wd) (r : Addr), LamW X T → (∀ b, X.H0 b = none) → r ∉ T.map (·.1) → RowOf K X ((ivRow K r scr).and (ivT T)) r scr → FW X t ((List.replicate Ns.length Sl.no).set 1 (.val (.ref r))) ((ivRow K r scr).and (ivT T)) (fun _ _ => False) (fun ro _ => ro = .dat (.bool true))) (hq : ∀ H', Q (.bl true) H') :
    tSeq (tAsg (tLst (tCons (tVar 0) (tCons (tC (.int 0)) (tCons (tC (.int 0)) (tCons (tC (.int 0)) tNil))))) (gName 1)) t { nx := fun _ H' => Q .non H', rt := Q } (L2.start Ns [.ref scr]) H := by
  refine ⟨_, rfl, by show 4 ≤ sizeLine; decide, fun r nr => ?_⟩
  have e := new_same (o := .lst [.ref scr, .int 0, .int 0, .int 0]) nr
  have ra : RowAt K (upd H r (.lst [.ref scr, .int 0, .int 0, .int 0])) r scr := ⟨ns, 0, 0, 0, upd_same, hs.keep fun o z => e _ _ z, by decide, by decide, by decide⟩
  have nT : r ∉ T.map (·.1) := fun z => by
    obtain ⟨p, hp, ep⟩ := List.mem_map.mp z
    obtain ⟨ps, h1, _⟩ := ht p hp
    rw [ep, nr] at h1
    cases h1
  refine h ⟨T.map (·.1), fun _ => False, fun _ => none⟩ r ⟨fun p hp => List.mem_map.mpr ⟨p, hp, rfl⟩, fun b z => z, (fun b ps z => by cases z), fun b hb => List.mem_map.mp hb⟩ (fun _ => rfl) nT (RowOf.and ⟨by simp [ivRow], fun N G p => p, fun N G G' _ _ _ ra => ra, .inr rfl⟩ nT) [] _ _ _ ⟨⟨(fun b o _ z => by cases z), fun b z => absurd rfl z⟩, fun b m => ?_, nofun, nofun, List.nodup_nil, nofun, ⟨ra, ht.ext fun b o z => e b o z⟩, nofun⟩ ⟨?_, fun i s hi => ?_⟩ (fun _ _ _ _ _ _ _ _ z => z.elim) fun v ro H' Φ' _ _ rd ed => ?_
  · rcases m with m | m | m
    · cases m
    · exact m.elim
    · rcases List.mem_append.mp m with m | m
      · have hb : b = r := by simpa [ivRow] using m
        rw [hb, upd_same]
        nofun
      · obtain ⟨p, hp, rfl⟩ := List.mem_map.mp m
        obtain ⟨ps, h1, _⟩ := ht p hp
        rw [e _ _ h1]
        nofun
  · simp [L2.start]
    omega
  · by_cases h1 : i = 1
    · subst h1
      rw [List.getElem?_set_self (by simpa using hN)] at hi
      cases hi
      show ((L2.start Ns [.ref scr]).set 1 (some (.ref r)))[1]? = some (some (.ref r))
      rw [List.getElem?_set_self (by simp [L2.start]; omega)]
    · rw [List.getElem?_set_ne (Ne.symm h1)] at hi
      rw [List.eq_of_mem_replicate (List.mem_of_getElem? hi)]
      trivial
  · subst ed
    cases rd
    exact hq H'
end
/-! ### a list that the caller tracks is frozen for a while -/
theorem frz_hok {P : Program} {w : World} {H : Hp} {h : Heap} {b : Addr} {xs : List V} (ok : HOk P w H h) (e : H b = some (.lst xs)) {o : Obj} (ho : h.get? b = some o) : HOk P w (upd H b (.frz o (.lst xs))) h := fun c u hu => by
  have tr : ∀ {d : Addr} {z : HO}, H d = some z → isSeq z = false ∨ (∃ ys, z = .tup ys) → upd H b (.frz o (.lst xs)) d = some z := fun {d z} hd hz => by
    rw [upd_ne fun q => ?_]
    · exact hd
    · rw [q, e] at hd
      cases hd
      rcases hz with z | ⟨ys, z⟩ <;> cases z
  by_cases hc : c = b
  · rw [hc, upd_same] at hu
    cases hu
    rw [hc]
    exact ⟨ho, ok b _ e⟩
  · rw [upd_ne hc] at hu
    have q := ok c u hu
    have go : ∀ u : HO, ObjOk P w H h c u → ObjOk P w (upd H b (.frz o (.lst xs))) h c u := fun u => by
      induction u with
      | lst ys => exact id
      | tup ys => exact id
      | dK kvs => exact id
      | dT kvs =>
        intro q
        obtain ⟨q1, q2, ys, q3, q4⟩ := q
        exact ⟨q1, q2, ys, Paired.mapP q3 fun _ _ z => ⟨z.1, tr z.2.1 (.inr ⟨_, rfl⟩), z.2.2⟩, q4⟩
      | set S n => exact id
      | ins C dx fs =>
        intro q
        exact ⟨tr q.1 (.inl rfl), q.2⟩
      | own x => exact id
      | xd fs => exact id
      | met f x => exact id
      | rng lo hi => exact id
      | frz o u ih => exact fun q => ⟨q.1, ih q.2⟩
      | tbl ps => exact id
      | ext φ => exact id
    exact go u q
theorem thaw {P : Program} {w : World} {K : PySem.W.Frag} {mg : Str → Option Value} {base : Heap} {k : Nat} {f : Addr} {fd : FuncData} {ps : List Str} {sp : Sp} (F : FnOk P w K mg base (L2.CX P w) k f fd ps sp) :
    FnOk P w K mg base (L2.CX P w) k f fd ps fun vs H Q E => sp vs H Q E ∨ ∃ b xs, H b = some (.lst xs) ∧ ∀ o, sp vs (upd H b (.frz o (.lst xs))) Q E := by
  refine ⟨fun vs H Q E h => ?_, fun A outer s H args us vs Q E hr e0 hb hv h => ?_⟩
  · rcases h with h | ⟨b, xs, e, h⟩
    · exact F.len vs H Q E h
    · exact F.len vs _ Q E (h { cls := .none, data := .plain })
  · rcases h with h | ⟨b, xs, e, h⟩
    · exact F.run A outer s H args us vs Q E hr e0 hb hv h
    obtain ⟨_, its, n, _, ho⟩ := e0.hok b _ e
    obtain ⟨o, eo⟩ : ∃ o : Obj, o = { cls := .type "list", data := .seq its.toArray n } := ⟨_, rfl⟩
    rw [← eo] at ho
    have nn : ∀ c, H c = none → upd H b (.frz o (.lst xs)) c = none := fun c hc => by
      rw [upd_ne fun q => by rw [q, e] at hc; cases hc]
      exact hc
    have bk : ∀ c z, H c = some z → (∀ ys, z ≠ .lst ys) → upd H b (.frz o (.lst xs)) c = some z := fun c z hc hz => by
      rw [upd_ne fun q => by rw [q, e] at hc; exact hz xs (Option.some.inj hc).symm]
      exact hc
    refine codeAny_mono (F.run A outer s (upd H b (.frz o (.lst xs))) args us vs Q E hr ⟨e0.frames, e0.mod, fun c z q => ⟨(e0.bs c z q).1, nn c (e0.bs c z q).2⟩, e0.bsz, e0.funs, fun c hc => nn c (e0.frf c hc), frz_hok e0.hok e ho, e0.bare⟩ hb hv (h o)) fun r s' q => ?_
    cases r with
    | error x =>
      obtain ⟨y, B, H', cls, d, rfl, fl, hok, ub, na, os, ag, hE⟩ := q
      exact ⟨y, B, H', cls, d, rfl, fl, hok, ⟨fun c z q1 q2 => ub.keep c z q1 (nn c q2), ub.slot, fun c z q1 q2 => ub.free c z q1 (nn c q2), ub.there, fun c ys q1 => ub.tups c ys (bk c _ q1 (fun ys z => by cases z)), fun c o' u q1 => ub.frzs c o' u (bk c _ q1 (fun ys z => by cases z)), fun c qs q1 => ub.tbls c qs (bk c _ q1 (fun ys z => by cases z))⟩, na, os, ag, hE⟩
    | ok fl =>
      cases fl with
      | next => exact q
      | brk => exact q
      | cont => exact q
      | ret u =>
        obtain ⟨v, H', os, bare, un, hok, rv, qq⟩ := q
        exact ⟨v, H', os, bare, ⟨fun c z q1 q2 => un.keep c z q1 (nn c q2), fun c z q1 q2 => un.slot c z q1 (nn c q2), fun c z q1 q2 => un.free c z q1 (nn c q2), un.there, fun c ys q1 => un.tups c ys (bk c _ q1 (fun ys z => by cases z)), fun c o' u q1 => un.frzs c o' u (bk c _ q1 (fun ys z => by cases z)), fun c qs q1 => un.tbls c qs (bk c _ q1 (fun ys z => by cases z))⟩, hok, rv, qq⟩
/-- the law's promise, with tables -/
def spLawT (K : PySem.W.Frag) (T : List (Addr × Str)) : Sp := fun vs H Q E => ∃ (scr : Addr) (ns : List Int), vs = [.ref scr] ∧ SqF K H scr (ns.map V.int) ∧ Tabs T H ∧ ∀ H', Q (.bl true) H'
theorem spLawT_of {K : PySem.W.Frag} {T : List (Addr × Str)} {H : Hp} {a : Addr} {ns : List Int} {E : XK} (ht : ∀ p ∈ T, H p.1 = some (.tbl #[])) (hs : SqL K H a (ns.map V.int)) :
    spLawT K T [.ref a] H (fun v _ => v = .bl true) E ∨ ∃ b xs, H b = some (.lst xs) ∧ ∀ o, spLawT K T [.ref a] (upd H b (.frz o (.lst xs))) (fun v _ => v = .bl true) E := by
  have tb : Tabs T H := fun p hp => TabS.nil (ht p hp)
  rcases hs with (hs | ⟨o, hs⟩) | hs
  · refine .inr ⟨a, _, hs, fun o => ⟨a, ns, rfl, .inl ⟨o, upd_same⟩, fun p hp => TabS.nil ?_, fun _ => rfl⟩⟩
    rw [upd_ne fun q => ?_]
    · exact ht p hp
    · have := ht p hp
      rw [q, hs] at this
      cases this
  · exact .inl ⟨a, ns, rfl, .inl ⟨o, hs⟩, tb, fun _ => rfl⟩
  · exact .inl ⟨a, ns, rfl, .inr hs, tb, fun _ => rfl⟩
end Sp

set_option Elab.async false
set_option linter.all false
set_option maxRecDepth 100000
set_option maxHeartbeats 4000000
/-! The call of _law_word with a lambda: its derivation. -/
namespace Sp
open PySem PySem.Spec PyProof.Rows L2 SM SR SD SE LamX
/-- a def that makes lambdas: its code object, its table -/
structure LamB (base : Heap) (mg : Str → Option Value) (a : Ad) (cdv : Value) (q : Str) : Prop where
  ex : ∃ c Pt, cdv = .ref c ∧ TabB base mg c Pt ∧ (Pt, q) ∈ a.T ∧ ∀ p ∈ a.T, p.1 = Pt → p.2 = q
/-- the def of the words -/
structure Wf (P : Program) (w : World) (K : PySem.W.Frag) (mg : Str → Option Value) (base : Heap) (a : Ad) (en : Str) : Prop where
  ex : ∃ (g : Addr) (fd : FuncData) (pg : Arguments) (bg : List Stmt) (sg : Scope), mg "_law_word" = some (.ref g) ∧ FunD K "_law_word" "_law_word" pg bg sg [] [] g fd ∧ Binds K fd ["_law_work"] [] ∧ FnScope (nWord en) ["_law_work"] sg ∧ Vis sg "_law_work" ∧
    ∀ (N : List Str) (q : Str) (sc : Scope) (f : Addr) (cdv : Value) (A : Around) (outer : List Env) (s : Shared) (H : Hp) (E : XK) (cdg : Value), Room 2 (A.deeper (envOfC q sc s.heap.objs.size f cdv)) →
      GivesTo (cxOf (L2.CX P w) P w K mg base N q sc f cdv A outer s H E) (nWord en) "_law_word" sg g cdg bg "_law_work" ((envOfC q sc s.heap.objs.size f cdv).qual ++ "<lambda>") (TTw K a)
theorem pe_word {P : Program} {w : World} {K : PySem.W.Frag} {mg : Str → Option Value} {base : Heap} {a : Ad} {en : Str} {N : List Str} {q : Str} {sc : Scope} {f : Addr} {cdv : Value} {A : Around} {outer : List Env} {s : Shared} {H : Hp} {E : XK} {k : Nat} {params : Arguments} {body : Expr} {scope : Scope} {t : XK → TE} {p lpos pos : Pos}
    (W : Wf P w K mg base a en) (B : LamB base mg a cdv ((envOfC q sc s.heap.objs.size f cdv).qual ++ "<lambda>")) (hr : Room (k + 2) (A.deeper (envOfC q sc s.heap.objs.size f cdv))) (L : LamS sc scope) (hdef : defaultsOf params (envOfC q sc s.heap.objs.size f cdv) = ([], []))
    (hbind : ∀ (q : Str) (cl : List (Str × Addr)) (pm cv ctv : Value), bindArgs (PySem.W.kla_fn "<lambda>" q params body scope cl pm cv ctv) ⟨[], []⟩ = pure [])
    (hbody : ∀ (A' : Around) (outer' : List Env) (s' : Shared) (H' : Hp) (E' : XK) (f' c' : Addr), Room k (A'.deeper (lamEnv (cxOf (L2.CX P w) P w K mg base N q sc f cdv A outer s H E) scope s'.heap.objs.size f' c')) → PE (lamCx (cxOf (L2.CX P w) P w K mg base N q sc f cdv A outer s H E) A' outer' s' H' E' scope f' c') body (t E'))
    (hg : Gl (cxOf (L2.CX P w) P w K mg base N q sc f cdv A outer s H E) "_law_word" := by rfl) :
    PE (cxOf (L2.CX P w) P w K mg base N q sc f cdv A outer s H E) (.Call (.Name "_law_word" p) [.Lambda params body scope lpos] [] pos) (tLam a.T (TTw K a) t) := by
  obtain ⟨g, fd, pg, bg, sg, hm, F, hb, Sg, hv, hG⟩ := W.ex
  obtain ⟨c, Pt, rfl, TB, hmT, hu⟩ := B.ex
  obtain ⟨oc, od, dV, kV, doc, pm, an, cdw, ct, osl, rfl, lk, hcd, _, _⟩ := F.ex
  exact pe_lamcall (k := k) hg hm F.kp lk hcd hb Sg rfl hv (hG N q sc f _ A outer s H E cdw (hr.mono (by omega))) TB rfl hmT hu hr L hdef hbind hbody
/-- a def whose code object is known -/
theorem funD_okC {P : Program} {w : World} {K : PySem.W.Frag} {mg : Str → Option Value} {base : Heap} {x qual : Str} {params : Arguments} {body : List Stmt} {scope : Scope} {dvs : List V} {kws : List (Str × V)} {f : Addr} {fd : FuncData} {CX : CXT} {N ps : List Str} {k : Nat} {sp : Sp} (F : FunD K x qual params body scope dvs kws f fd) (S : FnScope N ps scope) (len : ∀ vs H Q E, sp vs H Q E → vs.length = ps.length)
    (hb : ∀ (cdv : Value) (A : Around) (outer : List Env) (s : Shared) (H : Hp) (vs : List V) (Q : VK) (E : XK), fd.code = cdv → Room k (A.deeper (envOfC qual scope s.heap.objs.size f cdv)) → sp vs H Q E → ∃ t, PSs (cxOf CX P w K mg base N qual scope f cdv A outer s H E) body t ∧ t { nx := fun _ H' => Q .non H', rt := Q } (L2.start N vs) H) :
    FnOk P w K mg base CX (k + 1) f fd ps sp := by
  obtain ⟨oc, od, dV, kV, doc, pm, an, cdv, ct, osl, rfl, lk, hcd, h1, h2⟩ := F.ex
  exact fn_of lk hcd S len fun A outer s H vs Q E hr h => hb cdv A outer s H vs Q E rfl hr h
end Sp

set_option Elab.async false
set_option linter.all false
set_option maxRecDepth 100000
set_option maxHeartbeats 4000000
/-! Lambdas that are kept as values, with or without one default, and called where their maker waits. -/
namespace SL
open PySem PySem.Spec PyProof.Rows L2 LamX
/-- a lambda's words -/
structure LW where
  params : Arguments
  body : Expr
  scope : Scope
section
variable {X : Cx} {pins : List (Addr × Obj)} {σ : L2.St} {H : Hp} {s : Shared}
/-- all but the tables stay, and what was free of tracking is not lost -/
structure Ex (T : List (Addr × Str)) (H H1 : Hp) : Prop where
  n : ExtN H H1
  l : ∀ b, H1 b = Option.none → H b = Option.none
  t : Tabs T H1
theorem Ex.trans {T : List (Addr × Str)} {H H1 H2 : Hp} (a : Ex T H H1) (b : Ex T H1 H2) : Ex T H H2 := ⟨a.n.trans b.n, fun c h => a.l c (b.l c h), b.t⟩
/-! ### the lambda as a value -/
/-! ### it is called -/
/-- its names: captured ones, globals, and a parameter that its maker does not have -/
structure LamL (N : List Str) (sc scope : Scope) : Prop where
  kind : scope.kind = .function
  co : scope.isCoroutine = false
  gen : scope.isGenerator = false
  cell : ∀ y ∈ scope.names, y.2 ≠ .cell
  loc : ∀ y ∈ scope.names, y.2 = .local → y.1 ∉ N
  free : ∀ y ∈ scope.names, y.2 = .free → sc.names.lookup y.1 = some .cell ∨ sc.names.lookup y.1 = some .free
theorem LamL.has {N : List Str} {scope : Scope} (L : LamL N X.env.scope scope) (ok : X.Ok) : ∀ y ∈ scope.names, y.2 = .free → ∃ c, X.env.cells.lookup y.1 = some c := fun y hy e => (L.free y hy e).elim (fun k => ok.has _ (.inl k)) fun k => ok.has _ (.inr k)
variable {HZ : Hp} {s1 : Shared}
def dflH (H : Hp) : Option Int → Addr → Prop
  | none, _ => True
  | some i, d => H d = some (.tup [.int i])
end
section
variable {X : Cx}
end
end SL

set_option Elab.async false
set_option linter.all false
set_option maxRecDepth 100000
set_option maxHeartbeats 4000000
/-! The lambdas of a def's text; the word of a work that calls them. -/
namespace SL
open PySem PySem.Spec PyProof.Rows L2 LamX
/-- the first without a default -/
def dfl1 : Nat → Option Int
  | 0 => none
  | _ => some 0
end SL
namespace Sp
open PySem PySem.Spec PyProof.Rows L2 SM SR SD SE LamX
end Sp

set_option Elab.async false
set_option linter.all false
set_option maxRecDepth 100000
set_option maxHeartbeats 4000000
/-! A file as it is held while it is written. -/
namespace Sp
open PySem L2 SM SR SD SE
/-! ### cells under writes -/
section
variable {cs : List (MKey × D)} {S : FS} {n : Nat}
theorem nodup_sub {α : Type} [DecidableEq α] : ∀ {l m : List α}, l.Nodup → (∀ x ∈ l, x ∈ m) → l.length ≤ m.length
  | [], _, _, _ => Nat.zero_le _
  | x :: l, m, nd, h => by
    have hx := h x List.mem_cons_self
    have := nodup_sub (l := l) (m := m.erase x) (List.nodup_cons.mp nd).2 fun y hy => (List.mem_erase_of_ne fun z => (List.nodup_cons.mp nd).1 (by rw [← z]; exact hy)).mpr (h y (List.mem_cons_of_mem _ hy))
    rw [List.length_erase_of_mem hx] at this
    have hp : 0 < m.length := List.length_pos_of_mem hx
    rw [List.length_cons]
    omega
theorem Rep.len (r : Rep cs S) : cs.length ≤ 2221 := by
  have h := nodup_sub (m := kRoot :: ((List.range 1100).map (kPage 0) ++ ((List.range 1100).map (kPage 1) ++ (List.range 20).map kSpill))) r.nd fun k hk => by
    obtain ⟨p, hp, rfl⟩ := List.mem_map.mp hk
    rcases r.keys p hp with e | ⟨v, n, hv, hn, e⟩ | ⟨n, hn, e⟩
    · rw [e]
      exact List.mem_cons_self
    · rw [e]
      refine List.mem_cons_of_mem _ (List.mem_append.mpr ?_)
      rcases (by omega : v = 0 ∨ v = 1) with rfl | rfl
      · exact .inl (List.mem_map.mpr ⟨n, List.mem_range.mpr hn, rfl⟩)
      · exact .inr (List.mem_append_left _ (List.mem_map.mpr ⟨n, List.mem_range.mpr hn, rfl⟩))
    · rw [e]
      exact List.mem_cons_of_mem _ (List.mem_append_right _ (List.mem_append_right _ (List.mem_map.mpr ⟨n, List.mem_range.mpr hn, rfl⟩)))
  simpa using h
end
section
variable {P : Program} {w : World} {K : PySem.W.Frag} {a : Ad} {X : Wd} {F : FA} {S S' : FS} {Γ : Gm} {N : Gm → Iv → Prop} {Rt : Ro → Iv → Prop} {E : XK} {ta : TA} {te : TE} {kd d : D} {L : Lo} {H : Hp} {M : Ads} {Q : VK} {ds : List D} {r : Rs} {m : Str}
/-! ### promises of what writes a file -/
end
end Sp

set_option Elab.async false
set_option linter.all false
set_option maxRecDepth 100000
set_option maxHeartbeats 4000000
/-! Promises of the file's writers, and of the rest of its readers. -/
namespace Sp
open PySem L2 SM SR SD SE
/-- writes, till one is stopped -/
def wrR (a : Ad) (S : FS) (ws : List Wr) (d : D) : FS × Rs := ((wrL S ws).1, if (wrL S ws).2 then .ok d else .er a.Stopped)
/-- Stopped ahead of all -/
def upR (a : Ad) (S : FS) (x : FS × Rs) : FS × Rs := if S.down = true then (S, .er a.Stopped) else x
def putR (a : Ad) (S : FS) (k v : Int) : FS × Rs := if (putT S k v).1 = .full then (S, .er a.Full) else wrR a S (putT S k v).2 (.str (tlS (putT S k v).1))
def takeR (a : Ad) (S : FS) (k : Int) : FS × Rs := match (takeT S k).1 with
  | some v => wrR a S (takeT S k).2 (.int v)
  | none => (S, .er a.NoRow)
/-- the marks' numbers are 0, 1 .. -/
def MkOk (S : FS) : Prop := S.marks.map (·.1) = (List.range S.count).map fun n => ((n : Nat) : Int)
instance (S : FS) : Decidable (MkOk S) := inferInstanceAs (Decidable (_ = _))
def f_next (a : Ad) (S : FS) : List D → Option (FS × Rs)
  | [d] => if MkOk S ∧ S.count ≤ 90000 ∧ (allRows S).length ≤ 90000 then some (upR a S (match d with
    | .int i => if 0 ≤ i ∧ i < S.count then (match nextOf S i.toNat with
      | [] => (S, .ok .none)
      | r :: _ => (setMark S i.toNat r.1, .ok (dRow r))) else (S, .er a.NoMark)
    | _ => (S, .er a.NoMark))) else none
  | _ => none
end Sp

set_option Elab.async false
set_option linter.all false
set_option maxRecDepth 100000
set_option maxHeartbeats 4000000
/-! Readings, printed by gen.py. -/
namespace Sp
open PySem L2 SM SR SD SE
end Sp

set_option Elab.async false
set_option linter.all false
set_option maxRecDepth 100000
set_option maxHeartbeats 4000000
/-! The reading of _law_use, printed by gen.py. -/
namespace Sp
open PySem L2 SM SR SD SE LamX
end Sp

set_option Elab.async false
set_option linter.all false
set_option maxRecDepth 100000
set_option maxHeartbeats 4000000
/-! The store stopped, brought up; a file's stop, free, size. -/
namespace Sp
open PySem L2 SM SR SD SE
section
variable {P : Program} {w : World} {K : PySem.W.Frag} {a : Ad}
theorem StAt.ne {M : Ads} {H : Hp} {s c : Addr} {S : SS} (h : StAt P w a M H s c S) : c ≠ s := by
  obtain ⟨dx, kvs, h1, ⟨xs, h2, _⟩, _⟩ := h
  intro z
  rw [z, h1] at h2
  cases h2
variable {X : Wd} {F : FA} {S S' : FS} {Γ : Gm} {N : Gm → Iv → Prop} {Rt : Ro → Iv → Prop} {E : XK} {te : TE}
end
end Sp

set_option Elab.async false
set_option linter.all false
set_option maxRecDepth 100000
set_option maxHeartbeats 4000000
/-! A file's marks; link. -/
namespace Sp
open PySem L2 SM SR SD SE
/-! ### marks, plain -/
def MkL (ms : List (Int × Int)) (n : Nat) : Prop := ms.map (·.1) = (List.range n).map fun n => ((n : Nat) : Int)
theorem MkOk.l {S : FS} (h : MkOk S) : MkL S.marks S.count := h
section
variable {P : Program} {w : World} {K : PySem.W.Frag} {a : Ad} {X : Wd} {Φ : Iv} {F : FA} {S S' : FS} {Γ : Gm} {N : Gm → Iv → Prop} {Rt : Ro → Iv → Prop} {E : XK} {te ti : TE} {ta : TA} {d : D}
theorem FileAt.ne {M : Ads} {H : Hp} (kc : Kc K a) (h : FileAt P w a M H F S) : F.f ≠ F.s ∧ F.f ≠ F.c ∧ F.m ≠ F.s ∧ F.m ≠ F.c ∧ F.f ≠ F.m ∧ F.s ≠ F.c := by
  obtain ⟨cs, _, r⟩ := h.raw
  exact r.ne kc
end
end Sp

set_option Elab.async false
set_option linter.all false
set_option maxRecDepth 100000
set_option maxHeartbeats 4000000
/-! A file's link, mend, relay. -/
namespace Sp
open PySem L2 SM SR SD SE
section
variable {a : Ad} {S : FS} {x : Wr} {xs : List Wr} {d : D}
end
section
variable {P : Program} {w : World} {K : PySem.W.Frag} {a : Ad} {X : Wd} {F : FA} {S S' : FS} {Γ : Gm} {N : Gm → Iv → Prop} {Rt : Ro → Iv → Prop} {E : XK} {te ti : TE} {ta : TA} {d kd d0 : D} {x : Wr} {xs : List Wr}
end
end Sp

set_option Elab.async false
set_option linter.all false
set_option maxRecDepth 100000
set_option maxHeartbeats 4000000
/-! A file laid anew. -/
namespace Sp
open PySem L2 SM SR SD SE
section
variable {P : Program} {w : World} {K : PySem.W.Frag} {a : Ad} {X : Wd} {F : FA} {S S' : FS} {Γ : Gm} {N : Gm → Iv → Prop} {Rt : Ro → Iv → Prop} {E : XK} {te ti : TE} {ta : TA} {d0 : D}
end
end Sp

set_option Elab.async false
set_option linter.all false
set_option maxRecDepth 100000
set_option maxHeartbeats 4000000
/-! A file's put. -/
namespace Sp
open PySem L2 SM SR SD SE
theorem lastVal_any (rs : List Row) (k : Int) : (lastVal rs k).isSome = rs.any fun r => decide (r.1 = k) := by
  unfold lastVal
  have : ∀ (rs : List Row) (o : Option Int), (rs.foldl (fun o r => if r.1 = k then some r.2 else o) o).isSome = (o.isSome || rs.any fun r => decide (r.1 = k)) := by
    intro rs
    induction rs with
    | nil => intro o; simp
    | cons r rs ih =>
      intro o
      rw [List.foldl_cons, ih, List.any_cons]
      by_cases e : r.1 = k
      · rw [if_pos e, decide_eq_true e]
        simp
      · rw [if_neg e, decide_eq_false e]
        simp
  exact (this rs none).trans (by simp)
section
variable {P : Program} {w : World} {K : PySem.W.Frag} {a : Ad} {X : Wd} {Φ : Iv} {F : FA} {S S' : FS} {Γ : Gm} {N : Gm → Iv → Prop} {Rt : Ro → Iv → Prop} {E : XK} {te ti : TE} {ta : TA} {d0 : D}
end
end Sp

set_option Elab.async false
set_option linter.all false
set_option maxRecDepth 100000
set_option maxHeartbeats 4000000
/-! A file's take. -/
namespace Sp
open PySem L2 SM SR SD SE
theorem val_of {rs : List Row} {k : Int} {r : Row} (h : Rise rs) (hr : r ∈ rs) (e : r.1 = k) : lastVal rs k = some r.2 := by
  obtain ⟨A, B, rfl⟩ := List.append_of_mem hr
  obtain ⟨h1, h2, h3⟩ := List.pairwise_append.mp h
  obtain ⟨h4, h5⟩ := List.pairwise_cons.mp h2
  have hB : lastVal (r :: B) k = some r.2 := by
    show (r :: B).foldl (fun o r => if r.1 = k then some r.2 else o) none = some r.2
    rw [List.foldl_cons, if_pos e]
    have : ∀ (l : List Row) (o : Option Int), (∀ x ∈ l, x.1 ≠ k) → l.foldl (fun o r => if r.1 = k then some r.2 else o) o = o := by
      intro l
      induction l with
      | nil => intro o _; rfl
      | cons x l ih =>
        intro o hl
        rw [List.foldl_cons, if_neg (hl x List.mem_cons_self)]
        exact ih o fun y hy => hl y (List.mem_cons_of_mem _ hy)
    exact this B _ fun x hx z => by
      have := h4 x hx
      omega
  rw [lastVal_app, hB]
section
variable {P : Program} {w : World} {K : PySem.W.Frag} {a : Ad} {X : Wd} {Φ : Iv} {F : FA} {S S' : FS} {Γ : Gm} {N : Gm → Iv → Prop} {R : Ro → Iv → Prop} {E : XK} {te ti : TE} {ta : TA} {d0 : D} {t : TS} {rs : List Row} {i : Nat}
end
end Sp

set_option Elab.async false
set_option linter.all false
set_option maxRecDepth 100000
set_option maxHeartbeats 4000000
/-! The promise of _law_use. -/
namespace Sp
open PySem L2 SM SR SD SE LamX
/-- steps, any numbers -/
inductive Stq where
  | find (k : Int)
  | look (k : Int)
  | put (k v : Int)
  | take (k : Int)
  | mark
  | next (m : Int)
  | relay (n : Int)
  | stop (n : Int)
  | mend
abbrev dStq : Stq → D
  | .find k => .tuple [.str "find", .int k]
  | .look k => .tuple [.str "look", .int k]
  | .put k v => .tuple [.str "put", .int k, .int v]
  | .take k => .tuple [.str "take", .int k]
  | .mark => .tuple [.str "mark"]
  | .next m => .tuple [.str "next", .int m]
  | .relay n => .tuple [.str "relay", .int n]
  | .stop n => .tuple [.str "stop", .int n]
  | .mend => .tuple [.str "mend"]
/-- what a file does of a step -/
def useR (a : Ad) (S : FS) : Stq → FS × Rs
  | .find k => (S, asked a S (.int k) fun k => .ok (dO (lastVal (rowsOf S (pageAt S k)) k)))
  | .look k => (S, asked a S (.int k) fun k => .ok (dInt (looksOf S k)))
  | .put k v => upR a S (if isNum (.int k) 0 999 = false then (S, .er a.BadKey) else if isNum (.int v) 0 999 = false then (S, .er a.BadWorth) else putR a S k v)
  | .take k => upR a S (if isNum (.int k) 0 999 = false then (S, .er a.BadKey) else takeR a S k)
  | .mark => upR a S ({ S with marks := S.marks ++ [((S.count : Int), -1)], count := S.count + 1 }, .ok (dInt S.count))
  | .next m => upR a S (if 0 ≤ m ∧ m < S.count then (match nextOf S m.toNat with
      | [] => (S, .ok .none)
      | r :: _ => (setMark S m.toNat r.1, .ok (dRow r))) else (S, .er a.NoMark))
  | .relay n => upR a S (if isNum (.int n) 1 S.room = false then (S, .er a.BadCount) else wrR a S (relayT S n.toNat) (dInt (partsOf n.toNat (allRows S)).length))
  | .stop n => upR a S (if isNum (.int n) 0 99 = false then (S, .er a.BadCount) else ({ S with left := some n }, .ok .none))
  | .mend => ((wrL (upS S) (frees (lostCells S))).1, .ok (.list ((lostCells S).map dInt)))
/-- a file that can be used so -/
structure UseOk (S : FS) : Prop where
  wf : WF S
  mks : MkOk S
  ct : S.count < 90000
  rw : (allRows S).length ≤ 999
/-- places of A, and tables, may change -/
structure ExF (T : List (Addr × Str)) (A : List Addr) (H H' : Hp) : Prop where
  n : ∀ b o, b ∉ A → H b = some o → (∀ ps, o ≠ .tbl ps) → H' b = some o
  l : ∀ b, H' b = none → H b = none
  t : Tabs T H'
section
variable {P : Program} {w : World} {K : PySem.W.Frag} {a : Ad} {X : Wd} {Φ : Iv} {F : FA} {S : FS} {Γ : Gm} {E : XK} {te : TE} {r : Rs}
end
/-! ### the file stays when lambdas are made -/
theorem FileAt.extN {P : Program} {w : World} {a : Ad} {M : Ads} {H H1 : Hp} {F : FA} {S : FS} (e : ExtN H H1) (h : FileAt P w a M H F S) : FileAt P w a M H1 F S := by
  obtain ⟨dx, cs, h1, h2, ⟨dy, kvs, h3, ⟨xs, h4, h5, h6⟩, h7⟩, h8⟩ := h
  exact ⟨dx, cs, e _ _ h1 (fun ps z => by cases z), e _ _ h2 (fun ps z => by cases z), ⟨dy, kvs, e _ _ h3 (fun ps z => by cases z), ⟨xs, e _ _ h4 (fun ps z => by cases z), MPair.mono (fun b ys q => e _ _ q fun ps z => by cases z) h5, h6⟩, h7.mono (extN_same e)⟩, h8⟩
end Sp

set_option Elab.async false
set_option linter.all false
set_option maxRecDepth 100000
set_option maxHeartbeats 4000000
/-! Promises of plays.py. -/
namespace Sp
open PySem L2 SM SR SD SE
def isStep (d : D) : Bool := match d with
  | .tuple (.str x :: ps) => (match sizesP.lookup x with
    | some n => decide (n = ps.length)
    | none => false) && ps.all fun p => isNum p 0 999
  | _ => false
def badStepAt (ds : List D) (i : Nat) : Bool := decide (300 ≤ i) || !isStep (ds.getD i .none)
def badStep (ds : List D) : Option Nat := (List.range ds.length).find? (badStepAt ds)
/-- a file that can be used so, by looks -/
def useOkB (S : FS) : Bool := decide (MkOk S) && (decide (S.count < 90000) && decide ((allRows S).length ≤ 999))
theorem UseOk.b {S : FS} (h : UseOk S) : useOkB S = true := by
  simp only [useOkB, Bool.and_eq_true, decide_eq_true_eq]
  exact ⟨h.mks, h.ct, h.rw⟩
/-- what do tells -/
def doR (a : Ad) (r : Rs) : D := match r with
  | .ok d => d
  | .er c => .str (if c = a.Stopped then "stopped" else "no")
  | .ef _ _ _ => .none
end Sp

set_option Elab.async false
set_option linter.all false
set_option maxRecDepth 100000
set_option maxHeartbeats 4000000
/-! Readings, printed by gen.py. -/
namespace Sp
open PySem L2 SM SR SD SE
end Sp

set_option Elab.async false
set_option linter.all false
set_option maxRecDepth 100000
set_option maxHeartbeats 4000000
/-! plays.py: use, do. -/
namespace Sp
open PySem L2 SM SR SD SE
section
variable {X : Wd} {Φ : Iv} {Γ : Gm} {H : Hp} {Q : VK} {E : XK} {P : Program} {w : World} {K : PySem.W.Frag} {a : Ad} {tx ty : TE} {d : D}
end
end Sp

set_option Elab.async false
set_option linter.all false
set_option maxRecDepth 100000
set_option maxHeartbeats 4000000
/-! _law_use: the dict of lambdas, the word. -/
namespace Sp
open PySem L2 SM SR SD SE LamX
section
variable {T : List (Addr × Str)} {q : Str} {lam : Nat → Addr → Addr → Addr → HO} {σ : L2.St} {H H1 H2 : Hp} {Q : VK}
/-- the lambda number j stands at f -/
def LamAt (q : Str) (lam : Nat → Addr → Addr → Addr → HO) (H : Hp) (j : Nat) (f : Addr) : Prop := ∃ c d, H f = some (lam j f c d) ∧ H c = some (CodeO c q) ∧ SL.dflH H (SL.dfl1 j) d
abbrev LamE (lam : Nat → Addr → Addr → Addr → HO) : Prop := ∀ j f c d, ∃ φ, lam j f c d = .ext φ
/-- what is no dict stays -/
theorem LamAt.keep (le : LamE lam) {j : Nat} {f : Addr} (k : ∀ b o, H b = some o → (∀ ps, o ≠ .tbl ps) → (∀ kvs, o ≠ .dK kvs) → (∀ xs, o ≠ .lst xs) → H1 b = some o) (h : LamAt q lam H j f) : LamAt q lam H1 j f := by
  obtain ⟨c, d, h1, h2, h3⟩ := h
  refine ⟨c, d, k _ _ h1 (fun ps z => ?_) (fun ps z => ?_) (fun ps z => ?_), k _ _ h2 codeO_ne (fun kvs z => by unfold CodeO at z; cases z) (fun kvs z => by unfold CodeO at z; cases z), ?_⟩
  · obtain ⟨φ, e⟩ := le j f c d
    rw [e] at z
    cases z
  · obtain ⟨φ, e⟩ := le j f c d
    rw [e] at z
    cases z
  · obtain ⟨φ, e⟩ := le j f c d
    rw [e] at z
    cases z
  · cases j with
    | zero => trivial
    | succ j => exact k d _ h3 (fun ps z => by cases z) (fun ps z => by cases z) (fun ps z => by cases z)
theorem LamAt.ex (le : LamE lam) {j : Nat} {f : Addr} (e : ExtN H H1) (h : LamAt q lam H j f) : LamAt q lam H1 j f := h.keep le fun b o z n _ _ => e b o z n
abbrev wNames : List Str := ["find", "look", "put", "take", "mark", "next", "relay", "stop", "mend"]
def wkv (fs : List Addr) : List (Key × V) := (wNames.zip fs).map fun p => (Sum.inr p.1, V.ref p.2)
/-- what is made so far: found at l, the lambdas fs in the dict at p -/
structure Wk (T : List (Addr × Str)) (q : Str) (lam : Nat → Addr → Addr → Addr → HO) (H0 H : Hp) (l p : Addr) (fs : List Addr) : Prop where
  ex : SL.Ex T H0 H
  l0 : H0 l = none
  p0 : H0 p = none
  hl : H l = some (.lst [])
  hp : H p = some (.dK (wkv fs))
  lams : ∀ (i : Nat) f, fs[i]? = some f → LamAt q lam H i f
theorem upd_l {p : Addr} {o : HO} (b : Addr) (h : upd H p o b = none) : H b = none := by
  unfold upd at h
  split at h
  · cases h
  · exact h
/-- a dict that is H0's new is changed -/
theorem ex_put {H0 : Hp} {p : Addr} {kvs kvs' : List (Key × V)} (e : SL.Ex T H0 H) (p0 : H0 p = none) (hp : H p = some (.dK kvs)) : SL.Ex T H0 (upd H p (.dK kvs')) := by
  refine ⟨fun b o h n => ?_, fun b h => e.l b (upd_l b h), fun t ht => ?_⟩
  · rw [upd_ne (ne_of_none h p0)]
    exact e.n b o h n
  · obtain ⟨ps, h1, h2, h3⟩ := e.t t ht
    refine ⟨ps, ?_, h2, fun pos cv hc => ?_⟩
    · rw [upd_ne fun z => by rw [z, hp] at h1; cases h1]
      exact h1
    · obtain ⟨c, rfl, hcc⟩ := h3 pos cv hc
      refine ⟨c, rfl, ?_⟩
      rw [upd_ne fun z => by
        rw [z, hp] at hcc
        unfold CodeO at hcc
        cases hcc]
      exact hcc
theorem Wk.put (le : LamE lam) {H0 : Hp} {l p : Addr} {fs gs : List Addr} {kvs' : List (Key × V)} (h : Wk T q lam H0 H l p fs) (e : SL.Ex T H H1) (hk : kvs' = wkv (fs ++ gs)) (hp1 : H1 p = some (.dK (wkv fs))) (lams : ∀ (i : Nat) f, gs[i]? = some f → LamAt q lam H1 (fs.length + i) f) : Wk T q lam H0 (upd H1 p (.dK kvs')) l p (fs ++ gs) := by
  have e1 := h.ex.trans e
  have lp : l ≠ p := fun z => by
    have := h.hl
    rw [z, h.hp] at this
    cases this
  refine ⟨ex_put e1 h.p0 hp1, h.l0, h.p0, ?_, by rw [hk]; exact upd_same, fun i f hf => ?_⟩
  · rw [upd_ne lp]
    exact e.n _ _ h.hl fun ps z => by cases z
  · have up : ∀ b o, H1 b = some o → (∀ ps, o ≠ .tbl ps) → (∀ kvs, o ≠ .dK kvs) → (∀ xs, o ≠ .lst xs) → upd H1 p (.dK kvs') b = some o := fun b o z _ n _ => by
      rw [upd_ne fun y => n _ (Option.some.inj (z.symm.trans (y ▸ hp1)))]
      exact z
    by_cases hi : i < fs.length
    · rw [List.getElem?_append_left hi] at hf
      exact ((h.lams i f hf).ex le e.n).keep le up
    · rw [List.getElem?_append_right (by omega)] at hf
      have := lams (i - fs.length) f hf
      rw [show fs.length + (i - fs.length) = i by omega] at this
      exact this.keep le up
end
section
variable {P : Program} {w : World} {K : PySem.W.Frag} {a : Ad}
end
end Sp

set_option Elab.async false
set_option linter.all false
set_option maxRecDepth 100000
set_option maxHeartbeats 4000000
/-! _law_use is called from a law. -/
namespace Sp
open PySem L2 SM SR SD SE LamX
/-- the same is held, in another order -/
structure IvEq (Φ Ψ : Iv) : Prop where
  f : ∀ b, b ∈ Φ.fp ↔ b ∈ Ψ.fp
  p : ∀ N H, Φ.p N H ↔ Ψ.p N H
theorem IvEq.symm {Φ Ψ : Iv} (h : IvEq Φ Ψ) : IvEq Ψ Φ := ⟨fun b => (h.f b).symm, fun N H => (h.p N H).symm⟩
theorem IvEq.refl (Φ : Iv) : IvEq Φ Φ := ⟨fun _ => Iff.rfl, fun _ _ => Iff.rfl⟩
theorem IvEq.trans {Φ Ψ Ω : Iv} (h : IvEq Φ Ψ) (k : IvEq Ψ Ω) : IvEq Φ Ω := ⟨fun b => (h.f b).trans (k.f b), fun N H => (h.p N H).trans (k.p N H)⟩
theorem IvEq.and {Φ Ψ Φ' Ψ' : Iv} (h : IvEq Φ Φ') (k : IvEq Ψ Ψ') : IvEq (Φ.and Ψ) (Φ'.and Ψ') := ⟨fun b => by
  show b ∈ Φ.fp ++ Ψ.fp ↔ b ∈ Φ'.fp ++ Ψ'.fp
  rw [List.mem_append, List.mem_append, h.f, k.f], fun N H => and_congr (h.p N H) (k.p N H)⟩
section
variable {X : Wd} {Φ Ψ : Iv} {L : Lo} {H : Hp} {σ : L2.St} {Γ : Gm}
theorem IvEq.hdn (h : IvEq Φ Ψ) : SE.hdn X Φ L = SE.hdn X Ψ L := by
  funext b
  show (b ∈ L.map (·.2) ∨ b ∈ X.M ∨ b ∈ Φ.fp) = (b ∈ L.map (·.2) ∨ b ∈ X.M ∨ b ∈ Ψ.fp)
  rw [h.f b]
theorem IvEq.cur (h : IvEq Φ Ψ) (c : Cur X Φ L H) : Cur X Ψ L H := ⟨c.but, by rw [← h.hdn]; exact c.lv, c.new, c.om, c.nd, fun p hp z => c.dj p hp ((h.f _).mpr z), by rw [← h.hdn]; exact (h.p _ _).mp c.at_, c.ls⟩
theorem IvEq.sl (h : IvEq Φ Ψ) {i : Nat} {x : Option (Option V)} {s : Sl} (g : SlOk X Φ L H i x s) : SlOk X Ψ L H i x s := by
  have e := h.hdn (X := X) (L := L)
  cases s <;> first | exact g | (simp only [SlOk, hd] at g ⊢; rw [← e]; exact g)
theorem IvEq.env (h : IvEq Φ Ψ) (g : EnvD X Φ L H σ Γ) : EnvD X Ψ L H σ Γ := ⟨g.len, fun i s e => h.sl (g.ok i s e)⟩
/-- what stays when a file is used: places of A change, lambdas are made -/
def UseSt (T : List (Addr × Str)) (Φ : Iv) : Prop := ∀ (A : List Addr) (N : Ads) (H H' : Hp), (∀ b o, b ∉ A → H b = some o → (∀ ps, o ≠ .tbl ps) → H' b = some o) → (∀ b ∈ A, b ∉ Φ.fp ∧ (∀ xs, H b ≠ some (.tup xs)) ∧ ∀ o u, H b ≠ some (.frz o u)) → Tabs T H' → SameS (hid N H) (hid N H') → Φ.p N H → Φ.p N H'
theorem UseSt.and {T : List (Addr × Str)} (h : UseSt T Φ) (k : UseSt T Ψ) : UseSt T (Φ.and Ψ) := fun A N H H' e n t s p => ⟨h A N H H' e (fun b hb => ⟨fun z => (n b hb).1 (List.mem_append_left _ z), (n b hb).2⟩) t s p.1, k A N H H' e (fun b hb => ⟨fun z => (n b hb).1 (List.mem_append_right _ z), (n b hb).2⟩) t s p.2⟩
theorem useSt_T {T : List (Addr × Str)} : UseSt T (ivT T) := fun _ _ _ _ _ _ t _ _ => t
theorem useSt_row {T : List (Addr × Str)} {K : PySem.W.Frag} {r scr : Addr} : UseSt T (ivRow K r scr) := fun A N H H' e n t s p => by
  obtain ⟨ns, p, q, c, h1, h2, h3⟩ := p
  exact ⟨ns, p, q, c, e _ _ (fun z => (n _ z).1 (by simp [ivRow])) h1 (fun ps z => by cases z), h2.keep fun o z => e _ _ (fun y => (n _ y).2.2 _ _ z) z (fun ps y => by cases y), h3⟩
theorem useSt_m {T : List (Addr × Str)} {G : MA} {S : FS} : UseSt T (ivM G S) := fun A N H H' e n t s p => by
  have out : ∀ b ∈ G.foot, b ∉ A := fun b hb hz => (n b hz).1 hb
  obtain ⟨vps, vss, h1, h2, h3, h4, h5, h6, h7, h8⟩ := p
  exact ⟨vps, vss, e _ _ (out _ (by simp [MA.foot])) h1 (fun ps z => by cases z), e _ _ (out _ (by simp [MA.foot])) h2 (fun ps z => by cases z), e _ _ (out _ (by simp [MA.foot])) h3 (fun ps z => by cases z), h4.mono s, e _ _ (out _ (by simp [MA.foot])) h5 (fun ps z => by cases z), h6.mono s, e _ _ (out _ (by simp [MA.foot])) h7 (fun ps z => by cases z), h8⟩
theorem useSt_f {P : Program} {w : World} {a : Ad} {T : List (Addr × Str)} {F : FA} {S : FS} : UseSt T (ivF P w a F S) := fun A N H H' e n t s p => by
  have out : ∀ b ∈ F.foot, b ∉ A := fun b hb hz => (n b hz).1 hb
  obtain ⟨dx, cs, h1, h2, ⟨dy, kvs, h3, ⟨xs, h4, h5, h6⟩, h7⟩, h8⟩ := p
  exact ⟨dx, cs, e _ _ (out _ (by simp [FA.foot])) h1 (fun ps z => by cases z), e _ _ (out _ (by simp [FA.foot])) h2 (fun ps z => by cases z), ⟨dy, kvs, e _ _ (out _ (by simp [FA.foot])) h3 (fun ps z => by cases z), ⟨xs, e _ _ (out _ (by simp [FA.foot])) h4 (fun ps z => by cases z), MPair.mono (fun b ys q => e _ _ (fun y => (n _ y).2.1 _ q) q fun ps z => by cases z) h5, h6⟩, h7.mono s⟩, h8⟩
theorem extOk_f {P : Program} {w : World} {a : Ad} {T : List (Addr × Str)} {F : FA} {S : FS} : ExtOk T (ivF P w a F S) := ⟨fun e _ s h => FileAt.extN e h |>.up (Same.refl _) (SameS.refl _), fun h b hb => .inr fun ps z => by
  obtain ⟨dx, cs, h1, h2, ⟨dy, kvs, h3, ⟨xs, h4, h5, h6⟩, h7⟩, h8⟩ := h
  have hb : b = F.f ∨ b = F.s ∨ b = F.c ∨ b = F.m := by simpa [FA.foot, ivF] using hb
  rcases hb with rfl | rfl | rfl | rfl
  · rw [h1] at z; cases z
  · rw [h3] at z; cases z
  · rw [h4] at z; unfold DX at z; cases z
  · rw [h2] at z; cases z⟩
end
section
variable {P : Program} {w : World} {K : PySem.W.Frag} {a : Ad} {X : Wd} {Φ : Iv} {F : FA} {S : FS} {Γ : Gm} {E : XK} {te tf : TE}
end
end Sp

set_option Elab.async false
set_option linter.all false
set_option maxRecDepth 100000
set_option maxHeartbeats 4000000
/-! Readings, printed by gen.py. -/
namespace Sp
open PySem L2 SM SR SD SE
end Sp

set_option Elab.async false
set_option linter.all false
set_option maxRecDepth 100000
set_option maxHeartbeats 4000000
/-! judging.py: links, pages, cells, pictures, rising keys. -/
namespace Sp
open PySem L2 SM SR SD SE
section
variable {P : Program} {w : World} {K : PySem.W.Frag} {a : Ad} {X : Wd} {Φ : Iv} {Γ : Gm} {i n : Nat} {wi : TI} {tt : TT} {ds : List D} {pr : D → Bool}
end
end Sp

set_option Elab.async false
set_option linter.all false
set_option maxRecDepth 100000
set_option maxHeartbeats 4000000
/-! judging.py: pictures. -/
namespace Sp
open PySem L2 SM SR SD SE
section
variable {P : Program} {w : World} {K : PySem.W.Frag} {a : Ad}
end
end Sp

set_option Elab.async false
set_option linter.all false
set_option maxRecDepth 100000
set_option maxHeartbeats 4000000
/-! judging.py: chains walked, the known cells being a dict. -/
namespace Sp
open PySem L2 SM SR SD SE
section
variable {X : Wd} {Φ : Iv} {H H' : Hp} {L : Lo} {σ : L2.St} {Γ Γ' : Gm} {v : V} {d e : D} {i j n : Nat} {te tp th : TE} {N : Gm → Iv → Prop} {R : Ro → Iv → Prop} {E : XK} {P : Program} {w : World} {K : PySem.W.Frag} {a : Ad} {o : Addr} {kn kn' : List Nat} {S0 : D → Iv → Prop} {b : Bool}
end
end Sp

set_option Elab.async false
set_option linter.all false
set_option maxRecDepth 100000
set_option maxHeartbeats 4000000
/-! judging.py: judged. -/
namespace Sp
open PySem L2 SM SR SD SE
/-! pictures whose parts are right, read back -/
section
variable {P : Program} {w : World} {K : PySem.W.Frag} {a : Ad} {M : Ads} {H : Hp} {Φ : Iv} {Γ : Gm} {E : XK}
end
end Sp

set_option Elab.async false
set_option linter.all false
set_option maxRecDepth 100000
set_option maxHeartbeats 4000000
/-! The law's own look at a picture. -/
namespace Sp
open PySem L2 SM SR SD SE
section
variable {X : Wd} {Φ : Iv} {H : Hp} {L : Lo} {σ : L2.St} {Γ : Gm} {v : V} {d x : D} {i j n : Nat} {te tv : TE} {N : Gm → Iv → Prop} {R : Ro → Iv → Prop} {E : XK} {P : Program} {w : World} {K : PySem.W.Frag} {a : Ad} {ds : List D}
end
section
variable {P : Program} {w : World} {K : PySem.W.Frag} {a : Ad}
end
end Sp

set_option Elab.async false
set_option linter.all false
set_option maxRecDepth 100000
set_option maxHeartbeats 4000000
/-! Lists of one's own: copied by three, read, set. -/
namespace SE
open PySem L2 SM SR SD Sp
section
variable {X : Wd} {Φ : Iv} {H H1 H2 : Hp} {L : Lo} {σ : L2.St} {Γ Γ' : Gm} {v : V} {d e : D} {i j k : Nat} {te ti tl : TE} {l : Addr} {ds : List D} {P : Program} {w : World} {K : PySem.W.Frag} {N : Gm → Iv → Prop} {R : Ro → Iv → Prop} {S : D → Iv → Prop}
/-- new lists are owned -/
theorem Cur.grow {ps : Lo} (c : Cur X Φ L H) (e : Same H H2) (nd : (ps.map (·.2)).Nodup) (hf : ∀ p ∈ ps, H p.2 = none) (hl2 : ∀ p ∈ ps, ∃ xs, H2 p.2 = some (.lst xs)) : Cur X Φ (ps ++ L) H2 ∧ SameS (hd X Φ L H) (hd X Φ (ps ++ L) H2) := by
  have out : ∀ p ∈ ps, p.2 ∉ hdn X Φ L := fun p hp => c.lv.out (hf p hp)
  have mem : ∀ x, x ∈ hdn X Φ (ps ++ L) → x ∈ ps.map (·.2) ∨ x ∈ hdn X Φ L := fun x m => by
    rcases m with m | m
    · rw [List.map_append] at m
      rcases List.mem_append.mp m with m | m
      · exact .inl m
      · exact .inr (Or.inl m)
    · exact .inr (Or.inr m)
  have s : SameS (hd X Φ L H) (hd X Φ (ps ++ L) H2) := fun b o h z => by
    obtain ⟨m, h⟩ := hid_some h
    refine (hid_out fun y => ?_).trans (e _ _ h)
    rcases mem b y with y | y
    · obtain ⟨p, hp, rfl⟩ := List.mem_map.mp y
      rw [hf p hp] at h
      cases h
    · exact m y
  refine ⟨⟨c.but.trans (But.of e), fun b m => ?_, fun p hp => ?_, fun p hp => ?_, ?_, fun p hp => ?_, Iv.same e s c.at_, fun p hp => ?_⟩, s⟩
  · rcases mem b m with y | y
    · obtain ⟨p, hp, rfl⟩ := List.mem_map.mp y
      obtain ⟨xs, hx⟩ := hl2 p hp
      rw [hx]
      nofun
    · exact (c.lv.mono e) b y
  · rcases List.mem_append.mp hp with hp | hp
    · exact c.but.free (hf p hp)
    · exact c.new p hp
  · rcases List.mem_append.mp hp with hp | hp
    · exact fun z => out p hp (Or.inr (Or.inl z))
    · exact c.om p hp
  · rw [List.map_append, List.nodup_append]
    refine ⟨nd, c.nd, fun a ha b hb z => ?_⟩
    subst z
    obtain ⟨p, hp, rfl⟩ := List.mem_map.mp ha
    exact out p hp (Or.inl hb)
  · rcases List.mem_append.mp hp with hp | hp
    · exact fun z => out p hp (Or.inr (Or.inr z))
    · exact c.dj p hp
  · rcases List.mem_append.mp hp with hp | hp
    · exact hl2 p hp
    · exact (c.ls p hp).imp fun _ z => e _ _ z
/-! own lists read -/
/-! slices whose ends are drawn -/
theorem cut_to (ds : List D) (n : Nat) (h : n ≤ ds.length) : cut ds none (some ((n : Nat) : Int)) = ds.take n := by
  unfold cut HT.sIx
  simp only
  rw [if_neg (by omega)]
  have : (min ((n : Nat) : Int).toNat ds.length) = n := by omega
  rw [this]
  simp
theorem cut_from2 (ds : List D) (n : Nat) : cut ds (some ((n : Nat) : Int)) none = ds.drop n := by
  by_cases h : n ≤ ds.length
  · exact cut_from ds n h
  · unfold cut HT.sIx
    simp only
    rw [if_neg (by omega)]
    have : (min ((n : Nat) : Int).toNat ds.length) = ds.length := by omega
    rw [this, List.drop_eq_nil_of_le (show ds.length ≤ n by omega)]
    simp
end
end SE

set_option Elab.async false
set_option linter.all false
set_option maxRecDepth 100000
set_option maxHeartbeats 4000000
/-! A picture told otherwise. -/
namespace Sp
open PySem L2 SM SR SD SE
section
variable {X : Wd} {Φ : Iv} {Γ : Gm} {tr : TE} {r scr : Addr} {E : XK} {P : Program} {w : World} {K : PySem.W.Frag} {a : Ad} {S0 : D → Iv → Prop}
/-- a picture as long as another -/
structure Alk (n : Nat) (S S1 : FS) : Prop where
  ok : PicOk n S1
  p : S1.pages.length = S.pages.length
  c : S1.spills.length = S.spills.length
  f : S1.fences.length = S.fences.length
end
end Sp

set_option Elab.async false
set_option linter.all false
set_option maxRecDepth 100000
set_option maxHeartbeats 4000000
/-! Steps without stops keep a file whole; the laws' steps, drawn and done. -/
namespace Sp
open PySem L2 SM SR SD SE
theorem wrL_none : ∀ (ws : List Wr) (S : FS), S.left = none → (wrL S ws).2 = true ∧ (wrL S ws).1.left = none
  | [], S, h => ⟨rfl, h⟩
  | x :: ws, S, h => by
    unfold wrL
    rw [if_neg (by rw [h]; nofun)]
    exact wrL_none ws (cnt S x) (by show S.left.map (· - 1) = none; rw [h]; rfl)
theorem apL_room : ∀ (ws : List Wr) (S : FS), (apL S ws).room = S.room ∧ (apL S ws).spare = S.spare ∧ (apL S ws).marks = S.marks
  | [], S => ⟨rfl, rfl, rfl⟩
  | x :: ws, S => by
    obtain ⟨h1, h2, h3⟩ := apL_room ws (ap S x)
    have e : (ap S x).room = S.room ∧ (ap S x).spare = S.spare ∧ (ap S x).marks = S.marks := by cases x <;> exact ⟨rfl, rfl, rfl⟩
    exact ⟨h1.trans e.1, h2.trans e.2.1, h3.trans e.2.2⟩
/-- a file no write of which is stopped -/
structure Up (room spare many : Nat) (S : FS) : Prop where
  wf : WF S
  wh : Whole S
  dn : S.down = false
  lf : S.left = none
  rm : S.room = room
  sp : S.spare = spare
  rs : (allRows S).length ≤ many
  mks : S.marks.length ≤ many
theorem Up.wr {room spare many : Nat} {S : FS} {ws : List Wr} {rs : List Row} (h : Up room spare many S) (g : Goes S ws rs) (hl : rs.length ≤ many + 1) : Up room spare (many + 1) (wrL S ws).1 := by
  obtain ⟨j, hj, sp, t1, t2⟩ := wrL_spec ws S h.dn
  obtain ⟨w1, w2⟩ := wrL_none ws S h.lf
  obtain ⟨rfl, hd⟩ := t1 w1
  obtain ⟨t, ht, hr⟩ := g.t
  have e1 := g.wf _ (Nat.le_refl _)
  have e2 := hr _ (Nat.le_refl _)
  rw [if_neg (by omega)] at e2
  rw [List.take_length] at e1 e2 sp
  obtain ⟨r1, r2, r3⟩ := apL_room ws S
  refine ⟨sp.wf e1, sp.whole (g.whole h.wh), hd, w2, by rw [sp.room, r1, h.rm], by rw [sp.spare, r2, h.sp], ?_, ?_⟩
  · rw [sp.chain.2.2.1, e2]
    exact hl
  · rw [sp.marks, r3]
    have := h.mks
    omega
theorem Up.more {room spare many : Nat} {S : FS} (h : Up room spare many S) : Up room spare (many + 1) S := ⟨h.wf, h.wh, h.dn, h.lf, h.rm, h.sp, by have := h.rs; omega, by have := h.mks; omega⟩
theorem Up.step {room spare many : Nat} {S : FS} {st : Stp} (h : Up room spare many S) (hs : StpGot S false st) (hm : many < 900) : StpOk S st ∧ Up room spare (many + 1) (doS S st).1 := by
  have hr := h.rs
  have hmk := h.mks
  cases st with
  | find k =>
    rw [doS_up h.dn]
    exact ⟨hs, h.more⟩
  | look k =>
    rw [doS_up h.dn]
    exact ⟨hs, h.more⟩
  | put k v =>
    rw [doS_up h.dn]
    refine ⟨hs, h.wr (put_goes h.wf hs).1 ?_⟩
    split
    · omega
    · have : (insR (k, v) (allRows S)).length ≤ (allRows S).length + 1 := by
        rw [(insR_perm (k, v) (allRows S)).length_eq, List.length_append]
        exact Nat.add_le_add (List.length_filter_le _ _) (Nat.le_refl _)
      omega
  | take k =>
    rw [doS_up h.dn]
    refine ⟨hs, h.wr (take_goes h.wf).1 ?_⟩
    split
    · omega
    · have : (delR k (allRows S)).length ≤ (allRows S).length := List.length_filter_le _ _
      omega
  | mark =>
    rw [doS_up h.dn]
    exact ⟨hs, ⟨h.wf.ext rfl rfl rfl rfl rfl h.wf.wh, h.wh, h.dn, h.lf, h.rm, h.sp, by show (allRows S).length ≤ _; omega, by show (S.marks ++ _).length ≤ _; simp; omega⟩⟩
  | next m =>
    rw [doS_up h.dn]
    refine ⟨hs, ?_⟩
    show Up room spare (many + 1) (match nextOf S m with
      | r :: _ => (setMark S m r.1, dRow r)
      | [] => (S, .none)).1
    cases nextOf S m with
    | nil => exact h.more
    | cons r rs => exact ⟨h.wf.ext rfl rfl rfl rfl rfl h.wf.wh, h.wh, h.dn, h.lf, h.rm, h.sp, by show (allRows S).length ≤ _; omega, by show (S.marks.set m _).length ≤ _; simp; omega⟩
  | relay n =>
    have ok : StpOk S (.relay n) := ⟨hs.1, hs.2, by omega⟩
    rw [doS_up h.dn]
    exact ⟨ok, h.wr (relay_goes h.wf ok.1 ok.2.1 ok.2.2).1 (by omega)⟩
  | stop n => exact absurd hs.2 (by decide)
  | mend => exact absurd (show false = true from hs) (by decide)
section
variable {X : Wd} {Φ Ψ : Iv} {H H' : Hp} {L : Lo} {σ : L2.St} {Γ : Gm} {v : V} {d : D} {i j : Nat} {te : TE} {ta : TA} {N : Gm → Iv → Prop} {R : Ro → Iv → Prop} {E : XK} {P : Program} {w : World} {K : PySem.W.Frag} {a : Ad} {G : MA} {S S1 : FS} {r scr : Addr} {S0 : D → Iv → Prop}
end
/-! what is judged -/
end Sp

set_option Elab.async false
set_option linter.all false
set_option maxRecDepth 100000
set_option maxHeartbeats 4000000
/-! A file and the laws' own going, side by side. -/
namespace Sp
open PySem L2 SM SR SD SE
def toQ : Stp → Stq
  | .find k => .find k
  | .look k => .look k
  | .put k w => .put k w
  | .take k => .take k
  | .mark => .mark
  | .next m => .next m
  | .relay n => .relay n
  | .stop n => .stop n
  | .mend => .mend
theorem dQ (st : Stp) : dStq (toQ st) = dStp st := by cases st <;> rfl
theorem find_all {S : FS} (h : WF S) (k : Int) : lastVal (rowsOf S (pageAt S k)) k = lastVal (allRows S) k := by
  have hall : ∀ r, r ∈ allRows S → r.1 = k → r ∈ rowsOf S (pageAt S k) := fun r hr e => by
    obtain ⟨pg, hp, hr⟩ := List.mem_flatMap.mp hr
    obtain ⟨n, hn⟩ := List.mem_iff_getElem?.mp hp
    have := ((h.rs n pg hn).2 r hr).1
    unfold pageAt
    rw [← e, this, List.getD_eq_getElem?_getD, hn]
    exact hr
  have hsub : ∀ r ∈ rowsOf S (pageAt S k), r ∈ allRows S := fun r hr => by
    unfold pageAt at hr
    rw [List.getD_eq_getElem?_getD] at hr
    cases hn : S.pages[atP S.fences k]? with
    | none =>
      rw [hn] at hr
      simp [rowsOf, chainOf, chainF] at hr
    | some pg =>
      rw [hn] at hr
      exact List.mem_flatMap.mpr ⟨pg, List.mem_of_getElem? hn, hr⟩
  by_cases hk : ∃ r ∈ allRows S, r.1 = k
  · obtain ⟨r, hr, e⟩ := hk
    have hp := hall r hr e
    have hrise : Rise (rowsOf S (pageAt S k)) := by
      unfold pageAt
      rw [List.getD_eq_getElem?_getD]
      cases hn : S.pages[atP S.fences k]? with
      | none => simp [rowsOf, chainOf, chainF, Rise]
      | some pg => exact (h.rs _ pg hn).1
    rw [val_of h.all.1 hr e, val_of hrise hp e]
  · rw [lastVal_none fun r hr e => hk ⟨r, hr, e⟩, lastVal_none fun r hr e => hk ⟨r, hsub r hr, e⟩]
section
variable {a : Ad} {S : FS}
theorem num_in {k : Int} {m : Int} {n : Int} (h1 : m ≤ k) (h2 : k ≤ n) : isNum (.int k) m n = true := by
  simp [isNum, h1, h2]
theorem askd_up {k : Int} {r : Int → Rs} (hd : S.down = false) (h : 0 ≤ k ∧ k ≤ 999) : asked a S (.int k) r = r k := by
  unfold asked
  rw [if_neg (by rw [hd]; decide)]
  show (if isNum (.int k) 0 999 then r k else _) = _
  rw [if_pos (num_in h.1 h.2)]
theorem mks_len (h : MkOk S) : S.marks.length = S.count := by
  have := congrArg List.length h
  simpa using this
/-! ### marks stay so -/
theorem apL_count : ∀ (ws : List Wr) (S : FS), (apL S ws).count = S.count
  | [], S => rfl
  | x :: ws, S => (apL_count ws (ap S x)).trans (by cases x <;> rfl)
theorem wrL_mk : ∀ (ws : List Wr) (S : FS), (wrL S ws).1.marks = S.marks ∧ (wrL S ws).1.count = S.count
  | [], S => ⟨rfl, rfl⟩
  | x :: ws, S => by
    unfold wrL
    by_cases h : S.left = some 0
    · rw [if_pos h]
      exact ⟨rfl, rfl⟩
    · rw [if_neg h]
      obtain ⟨h1, h2⟩ := wrL_mk ws (cnt S x)
      exact ⟨h1.trans (by cases x <;> rfl), h2.trans (by cases x <;> rfl)⟩
theorem MkOk.of {S S' : FS} (h : MkOk S) (e1 : S'.marks = S.marks) (e2 : S'.count = S.count) : MkOk S' := by
  unfold MkOk
  rw [e1, e2]
  exact h
theorem MkOk.step {st : Stp} (h : MkOk S) : MkOk (doS S st).1 := by
  unfold doS
  split
  · exact h.of (wrL_mk _ _).1 (wrL_mk _ _).2
  · split
    · exact h
    · cases st with
      | find k => exact h
      | look k => exact h
      | put k v => exact h.of (wrL_mk _ _).1 (wrL_mk _ _).2
      | take k => exact h.of (wrL_mk _ _).1 (wrL_mk _ _).2
      | relay k => exact h.of (wrL_mk _ _).1 (wrL_mk _ _).2
      | mend => exact h.of (wrL_mk _ _).1 (wrL_mk _ _).2
      | stop k => exact h
      | mark =>
        have hl := mks_len h
        unfold MkOk at h ⊢
        show (S.marks ++ [((S.marks.length : Int), (-1 : Int))]).map (fun p : Int × Int => p.1) = (List.range (S.count + 1)).map _
        rw [List.range_succ, List.map_append, List.map_append, h, hl]
        rfl
      | next m =>
        show MkOk (match nextOf S m with
          | r :: _ => (setMark S m r.1, dRow r)
          | [] => (S, .none)).1
        cases nextOf S m with
        | nil => exact h
        | cons r rs =>
          unfold MkOk at h ⊢
          show (S.marks.set m ((S.marks.getD m (0, 0)).1, r.1)).map (fun p : Int × Int => p.1) = _
          rw [List.map_set]
          refine Eq.trans ?_ h
          refine List.ext_getElem? fun i => ?_
          by_cases hi : i = m
          · subst hi
            by_cases hl : i < S.marks.length
            · rw [List.getElem?_set_self (by simpa using hl)]
              simp [List.getD_eq_getElem?_getD, hl]
            · rw [List.getElem?_eq_none (by simp; omega), List.getElem?_eq_none (by simp; omega)]
          · rw [List.getElem?_set_ne (Ne.symm hi)]
end
end Sp

set_option Elab.async false
set_option linter.all false
set_option maxRecDepth 100000
set_option maxHeartbeats 4000000
/-! A file made out of data; the laws' own going, its worth kept. -/
namespace Sp
open PySem L2 SM SR SD SE
section
variable {X : Wd} {Φ Ψ : Iv} {L : Lo} {σ : L2.St} {Γ : Gm} {i j : Nat} {ta : TA} {te : TE} {N : Gm → Iv → Prop} {R : Ro → Iv → Prop} {E : XK} {P : Program} {w : World} {K : PySem.W.Frag} {a : Ad} {S : FS} {G : MA} {S0 : D → Iv → Prop}
end
end Sp

set_option Elab.async false
set_option linter.all false
set_option maxRecDepth 100000
set_option maxHeartbeats 4000000
/-! Expressions of data are worked out by themselves. -/
namespace Sp
open PySem L2 SM SR SD SE
section
variable {X : Wd} {Φ : Iv} {Γ : Gm} {K : PySem.W.Frag} {P : Program} {w : World} {S : D → Prop}
/-- an item of a list at a drawn place -/
theorem ix_all {ds : List D} {k : Int} (s : ∀ d ∈ ds, S d) (h1 : 0 ≤ k) (h2 : k < ds.length) : ∃ f, OpD (rIxU P w K) (.list ds) (.int k) f ∧ S f := by
  have hk : k.toNat < ds.length := by omega
  refine ⟨ds[k.toNat], od_ixL ?_, s _ (List.getElem_mem hk)⟩
  unfold L2.atI ixN
  rw [if_pos h1, if_pos h2]
  show ds[k.toNat]? = _
  simp [hk]
/-- what comes behind is asked in the end -/
theorem fw_cps {t u : TS} {N : Gm → Iv → Prop} {R : Ro → Iv → Prop} (h : FW X t Γ Φ (fun Γ' Φ' => FW X u Γ' Φ' N R) R) : FW X (tSeq t u) Γ Φ N R := fw_seq h fun _ _ z => z
end
section
variable {X : Wd} {Φ : Iv} {Γ : Gm} {t u : TT} {a b : Bool}
end
end Sp

set_option Elab.async false
set_option linter.all false
set_option maxRecDepth 100000
set_option maxHeartbeats 4000000
/-! What laws that use a file have in common. -/
namespace Sp
open PySem L2 SM SR SD SE
theorem free_len {S : FS} (h : S.spills.length = S.spare) : (freeCells S).length = (S.spills.filter Option.isNone).length := by
  unfold freeCells
  rw [← h]
  have e : S.spills = (List.range S.spills.length).map fun n => S.spills.getD n none := by
    refine List.ext_getElem? fun i => ?_
    by_cases hi : i < S.spills.length
    · simp [hi, List.getD_eq_getElem?_getD]
    · rw [List.getElem?_eq_none (by omega), List.getElem?_eq_none (by simp; omega)]
  conv => rhs; rw [e]
  rw [List.filter_map, List.length_map]
  rfl
section
variable {X : Wd} {Φ : Iv} {Γ : Gm} {i j : Nat} {P : Program} {w : World} {K : PySem.W.Frag} {G : MA} {S : FS}
end
end Sp

set_option Elab.async false
set_option linter.all false
set_option maxRecDepth 100000
set_option maxHeartbeats 4000000
/-! Laws that use a file beside their own going: the entry, the steps. -/
namespace Sp
open PySem L2 SM SR SD SE LamX
/-- what holds in such a law -/
structure Lw (K : PySem.W.Frag) (a : Ad) (X : Wd) (Φ0 : Iv) (r scr : Addr) : Prop where
  lw : LamW X a.T
  hX : ∀ b, X.H0 b = none
  us : UseSt a.T Φ0
  ok : ExtOk a.T Φ0
  ti : TabIn a.T Φ0
  rin : r ∈ Φ0.fp
  tin : ∀ p ∈ a.T, p.1 ∈ Φ0.fp
  ro : RowOf K X Φ0 r scr
/-- a file and the laws' own going -/
abbrev ivTwo (P : Program) (w : World) (a : Ad) (Φ0 : Iv) (F : FA) (G : MA) (S S2 : FS) : Iv := (Φ0.and (ivF P w a F S)).and (ivM G S2)
def FOk (Φ0 : Iv) (F : FA) : Prop := ∀ b ∈ F.foot, b ∉ Φ0.fp
def GOk (X : Wd) (Φ0 : Iv) (F : FA) (G : MA) : Prop := ∀ b ∈ G.foot, b ∉ Φ0.fp ++ F.foot ∧ X.H0 b = none
section
variable {P : Program} {w : World} {K : PySem.W.Frag} {a : Ad} {X : Wd} {Φ Ψ Φ0 : Iv} {r scr : Addr} {F : FA} {G : MA} {S S2 : FS} {Γ : Gm} {E : XK} {te tf : TE} {S0 : D → Iv → Prop} {i j : Nat}
theorem Lw.and (h : Lw K a X Φ0 r scr) (us : UseSt a.T Ψ) (ok : ExtOk a.T Ψ) (nr : r ∉ Ψ.fp) : Lw K a X (Φ0.and Ψ) r scr := ⟨h.lw, h.hX, h.us.and us, h.ok.and ok, h.ti.andl, List.mem_append_left _ h.rin, fun p hp => List.mem_append_left _ (h.tin p hp), h.ro.and nr⟩
theorem Lw.two (h : Lw K a X Φ0 r scr) (hF : FOk Φ0 F) (hG : GOk X Φ0 F G) : Lw K a X (ivTwo P w a Φ0 F G S S2) r scr := (h.and useSt_f extOk_f fun z => hF r z h.rin).and useSt_m extOk_m fun z => (hG r z).1 (List.mem_append_left _ h.rin)
end
end Sp

set_option Elab.async false
set_option linter.all false
set_option maxRecDepth 100000
set_option maxHeartbeats 4000000
/-! A law calls a method that changes its file. -/
namespace Sp
open PySem L2 SM SR SD SE LamX
section
variable {P : Program} {w : World} {K : PySem.W.Frag} {a : Ad} {X : Wd} {Φ Ψ Φ0 : Iv} {r scr : Addr} {F : FA} {G : MA} {S S' S2 : FS} {Γ : Gm} {E : XK} {ta : TA} {ds : List D} {d : D} {m : Str} {S0 : D → Iv → Prop} {i j : Nat}
end
end Sp

set_option Elab.async false
set_option linter.all false
set_option maxRecDepth 100000
set_option maxHeartbeats 4000000
/-! A whole file is judged whole. -/
namespace Sp
end Sp

set_option Elab.async false
set_option linter.all false
set_option maxRecDepth 100000
set_option maxHeartbeats 4000000
/-! Steps with stops. -/
namespace Sp
open PySem L2 SM SR SD SE
/-- a file, stopped or not -/
structure Al (room spare many : Nat) (S : FS) : Prop where
  wf : WF S
  rm : S.room = room
  sp : S.spare = spare
  rs : (allRows S).length ≤ many
  mks : S.marks.length ≤ many
/-- not stopped, no cell lost -/
structure Ws (S : FS) : Prop where
  dn : S.down = false
  wh : Whole S
section
variable {room spare many : Nat} {S : FS}
theorem Al.more (h : Al room spare many S) : Al room spare (many + 1) S := ⟨h.wf, h.rm, h.sp, by have := h.rs; omega, by have := h.mks; omega⟩
theorem Al.mono {n : Nat} (h : Al room spare many S) (hn : many ≤ n) : Al room spare n S := ⟨h.wf, h.rm, h.sp, Nat.le_trans h.rs hn, Nat.le_trans h.mks hn⟩
theorem Al.wr {ws : List Wr} {rs : List Row} (h : Al room spare many S) (hd : S.down = false) (g : Goes S ws rs) (hl : rs.length ≤ many + 1) : Al room spare (many + 1) (wrL S ws).1 ∧ ((wrL S ws).2 = true → Whole S → Ws (wrL S ws).1) ∧ ((wrL S ws).2 = false → (wrL S ws).1.down = true) := by
  obtain ⟨j, hj, sp, t1, t2⟩ := wrL_spec ws S hd
  obtain ⟨t, ht, hr⟩ := g.t
  have e1 := g.wf j hj
  have e2 := hr j hj
  obtain ⟨r1, r2, r3⟩ := apL_room (ws.take j) S
  have hrs := h.rs
  have hmk := h.mks
  refine ⟨⟨sp.wf e1, by rw [sp.room, r1, h.rm], by rw [sp.spare, r2, h.sp], ?_, by rw [sp.marks, r3]; omega⟩, fun w hw => ?_, fun w => (t2 w).2⟩
  · rw [sp.chain.2.2.1, e2]
    split <;> omega
  · obtain ⟨rfl, dn⟩ := t1 w
    rw [List.take_length] at sp
    exact ⟨dn, sp.whole (g.whole hw)⟩
theorem upS_same (S : FS) : SameP S (upS S) := ⟨rfl, rfl, rfl, rfl, rfl, rfl, rfl, rfl⟩
theorem Al.mend (h : Al room spare many S) : Al room spare (many + 1) (doS S .mend).1 ∧ Ws (doS S .mend).1 := by
  have su := upS_same S
  have hu : Al room spare many (upS S) := ⟨su.wf h.wf, h.rm, h.sp, h.rs, h.mks⟩
  obtain ⟨g, wh⟩ := mend_goes hu.wf
  obtain ⟨w1, w2⟩ := wrL_none (frees (lostCells (upS S))) (upS S) rfl
  have := hu.wr rfl g (by have := hu.rs; omega)
  refine ⟨this.1, ?_⟩
  obtain ⟨j, hj, sp, t1, t2⟩ := wrL_spec (frees (lostCells (upS S))) (upS S) rfl
  obtain ⟨rfl, dn⟩ := t1 w1
  rw [List.take_length] at sp
  exact ⟨dn, sp.whole wh⟩
/-- what is told of writes -/
theorem told_wr {ws : List Wr} {rs : List Row} {d : D} (h : Al room spare many S) (w : Ws S) (g : Goes S ws rs) (hl : rs.length ≤ many + 1) (hd : PyData.eqv d (.str "stopped") = false) : Al room spare (many + 1) (wrD S ws d).1 ∧ ((wrD S ws d).2 = .str "stopped" ∨ PyData.eqv (wrD S ws d).2 (.str "stopped") = false ∧ Ws (wrD S ws d).1) := by
  obtain ⟨a1, a2, a3⟩ := h.wr w.dn g hl
  refine ⟨a1, ?_⟩
  unfold wrD
  cases hw : (wrL S ws).2 with
  | true => exact .inr ⟨hd, a2 hw w.wh⟩
  | false => exact .inl rfl
theorem Al.step {b : Bool} {st : Stp} (h : Al room spare many S) (w : Ws S) (hs : StpGot S b st) (hm : many < 900) : StpOk S st ∧ Al room spare (many + 1) (doS S st).1 ∧ ((doS S st).2 = .str "stopped" ∨ PyData.eqv (doS S st).2 (.str "stopped") = false ∧ Ws (doS S st).1) := by
  have hr := h.rs
  have hmk := h.mks
  cases st with
  | find k =>
    rw [doS_up w.dn]
    refine ⟨hs, h.more, .inr ⟨?_, w⟩⟩
    show PyData.eqv (dO _) _ = false
    cases lastVal (allRows S) k <;> rfl
  | look k =>
    rw [doS_up w.dn]
    exact ⟨hs, h.more, .inr ⟨rfl, w⟩⟩
  | put k v =>
    rw [doS_up w.dn]
    refine ⟨hs, told_wr h w (put_goes h.wf hs).1 ?_ ?_⟩
    · split
      · omega
      · have : (insR (k, v) (allRows S)).length ≤ (allRows S).length + 1 := by
          rw [(insR_perm (k, v) (allRows S)).length_eq, List.length_append]
          exact Nat.add_le_add (List.length_filter_le _ _) (Nat.le_refl _)
        omega
    · cases (putT S k v).1
      · exact (show PyData.eqv (.str "again") (.str "stopped") = false by decide +kernel)
      · exact (show PyData.eqv (.str "new") (.str "stopped") = false by decide +kernel)
      · exact (show PyData.eqv (.str "full") (.str "stopped") = false by decide +kernel)
  | take k =>
    rw [doS_up w.dn]
    refine ⟨hs, told_wr h w (take_goes h.wf).1 ?_ ?_⟩
    · split
      · omega
      · have : (delR k (allRows S)).length ≤ (allRows S).length := List.length_filter_le _ _
        omega
    · cases (takeT S k).1 with
      | some v => rfl
      | none => exact (show PyData.eqv (.str "row") (.str "stopped") = false by decide +kernel)
  | mark =>
    rw [doS_up w.dn]
    exact ⟨hs, ⟨h.wf.ext rfl rfl rfl rfl rfl h.wf.wh, h.rm, h.sp, by show (allRows S).length ≤ _; omega, by show (S.marks ++ _).length ≤ _; simp; omega⟩, .inr ⟨rfl, w.dn, w.wh⟩⟩
  | next m =>
    rw [doS_up w.dn]
    refine ⟨hs, ?_⟩
    show Al room spare (many + 1) (match nextOf S m with
      | r :: _ => (setMark S m r.1, dRow r)
      | [] => (S, .none)).1 ∧ ((match nextOf S m with
      | r :: _ => (setMark S m r.1, dRow r)
      | [] => (S, .none)).2 = _ ∨ PyData.eqv (match nextOf S m with
      | r :: _ => (setMark S m r.1, dRow r)
      | [] => (S, .none)).2 _ = false ∧ Ws (match nextOf S m with
      | r :: _ => (setMark S m r.1, dRow r)
      | [] => (S, .none)).1)
    cases nextOf S m with
    | nil => exact ⟨h.more, .inr ⟨rfl, w⟩⟩
    | cons r rs => exact ⟨⟨h.wf.ext rfl rfl rfl rfl rfl h.wf.wh, h.rm, h.sp, by show (allRows S).length ≤ _; omega, by show (S.marks.set m _).length ≤ _; simp; omega⟩, .inr ⟨rfl, w.dn, w.wh⟩⟩
  | relay n =>
    have ok : StpOk S (.relay n) := ⟨hs.1, hs.2, by omega⟩
    rw [doS_up w.dn]
    exact ⟨ok, told_wr h w (relay_goes h.wf ok.1 ok.2.1 ok.2.2).1 (by omega) rfl⟩
  | stop n =>
    rw [doS_up w.dn]
    have hs : n ≤ 4 ∧ b = true := hs
    exact ⟨by show n ≤ 99; omega, ⟨h.wf.ext rfl rfl rfl rfl rfl h.wf.wh, h.rm, h.sp, by show (allRows S).length ≤ _; omega, by show S.marks.length ≤ _; omega⟩, .inr ⟨rfl, w.dn, w.wh⟩⟩
  | mend =>
    obtain ⟨h1, h2⟩ := h.mend
    exact ⟨trivial, h1, .inr ⟨rfl, h2⟩⟩
end
end Sp

set_option Elab.async false
set_option linter.all false
set_option maxRecDepth 100000
set_option maxHeartbeats 4000000
/-! The word of a work on a law's file. -/
namespace Sp
open PySem L2 SM SR SD SE LamX
section
variable {P : Program} {w : World} {K : PySem.W.Frag} {a : Ad} {X : Wd} {Φ Φ0 : Iv} {r scr : Addr} {F : FA} {G : MA} {S S' S2 : FS} {Γ : Gm} {E : XK} {ta : TA} {ds : List D} {d : D} {m : Str} {S0 : D → Iv → Prop} {i j : Nat} {rr : Rs}
end
end Sp
namespace Sp
open PySem L2 SM SR SD SE
section
variable {room spare many : Nat} {S : FS}
/-- a step of a file, stopped or not -/
theorem Al.any {st : Stp} (h : Al room spare many S) (hs : StpOk S st) : Al room spare (many + 1) (doS S st).1 := by
  have hr := h.rs
  have hmk := h.mks
  cases hd : S.down with
  | true =>
    cases st with
    | mend => exact h.mend.1
    | _ =>
      rw [doS_down hd]
      exact h.more
  | false =>
    cases st with
    | find k =>
      rw [doS_up hd]
      exact h.more
    | look k =>
      rw [doS_up hd]
      exact h.more
    | put k v =>
      rw [doS_up hd]
      refine (h.wr hd (put_goes h.wf hs).1 ?_).1
      split
      · omega
      · have : (insR (k, v) (allRows S)).length ≤ (allRows S).length + 1 := by
          rw [(insR_perm (k, v) (allRows S)).length_eq, List.length_append]
          exact Nat.add_le_add (List.length_filter_le _ _) (Nat.le_refl _)
        omega
    | take k =>
      rw [doS_up hd]
      refine (h.wr hd (take_goes h.wf).1 ?_).1
      split
      · omega
      · have : (delR k (allRows S)).length ≤ (allRows S).length := List.length_filter_le _ _
        omega
    | mark =>
      rw [doS_up hd]
      exact ⟨h.wf.ext rfl rfl rfl rfl rfl h.wf.wh, h.rm, h.sp, by show (allRows S).length ≤ _; omega, by show (S.marks ++ _).length ≤ _; simp; omega⟩
    | next m =>
      rw [doS_up hd]
      show Al room spare (many + 1) (match nextOf S m with
        | r :: _ => (setMark S m r.1, dRow r)
        | [] => (S, .none)).1
      cases nextOf S m with
      | nil => exact h.more
      | cons r rs => exact ⟨h.wf.ext rfl rfl rfl rfl rfl h.wf.wh, h.rm, h.sp, by show (allRows S).length ≤ _; omega, by show (S.marks.set m _).length ≤ _; simp; omega⟩
    | relay n =>
      have ok : 1 ≤ n ∧ n ≤ S.room ∧ (allRows S).length ≤ 999 := hs
      rw [doS_up hd]
      exact (h.wr hd (relay_goes h.wf ok.1 ok.2.1 ok.2.2).1 (by omega)).1
    | stop n =>
      rw [doS_up hd]
      exact ⟨h.wf.ext rfl rfl rfl rfl rfl h.wf.wh, h.rm, h.sp, by show (allRows S).length ≤ _; omega, by show S.marks.length ≤ _; omega⟩
    | mend => exact h.mend.1
end
end Sp

set_option Elab.async false
set_option linter.all false
set_option maxRecDepth 100000
set_option maxHeartbeats 4000000
/-! The entry of laws that make lambdas. -/
namespace Sp
open PySem L2 SM SR SD SE LamX
theorem law_lw {K : PySem.W.Frag} {a : Ad} {H : Hp} {E : XK} {t : TS} {Ns : List Str} {Q : VK} {vs : List V} (hN : 1 < Ns.length) (hl : spLawT K a.T vs H Q E)
    (h : ∀ (X : Wd) (Φ0 : Iv) (r scr : Addr), Lw K a X Φ0 r scr → FW X t ((List.replicate Ns.length Sl.no).set 1 (.val (.ref r))) Φ0 (fun _ _ => False) (fun ro _ => ro = .dat (.bool true))) :
    tSeq (tAsg (tLst (tCons (tVar 0) (tCons (tC (.int 0)) (tCons (tC (.int 0)) (tCons (tC (.int 0)) tNil))))) (gName 1)) t { nx := fun _ H' => Q .non H', rt := Q } (L2.start Ns vs) H := by
  obtain ⟨scr, ns, rfl, hs, ht, hq⟩ := hl
  refine law_enterT (K := K) hN hs ht (fun X r lw hX nT ro => ?_) hq
  exact h X _ r scr ⟨lw, hX, useSt_row.and useSt_T, extOk_row.and extOk_T, tabIn_T.andr, by simp [ivRow, Iv.and], fun p hp => List.mem_append_right _ (List.mem_map.mpr ⟨p, hp, rfl⟩), ro⟩
theorem cut_to2 (ds : List D) (n : Nat) : cut ds none (some ((n : Nat) : Int)) = ds.take n := by
  by_cases h : n ≤ ds.length
  · exact cut_to ds n h
  · rw [List.take_of_length_le (by omega)]
    refine cut_all ds none _ ⟨rfl, ?_⟩
    rw [HT.sIx_nat]
    omega
end Sp

set_option Elab.async false
set_option linter.all false
set_option maxRecDepth 100000
set_option maxHeartbeats 4000000
/-! A book: a dict of rows that is held. -/
namespace Sp
open PySem L2 SM SR SD SE LamX
def ivB (o : Addr) (rs : List Row) : Iv := ⟨[o], fun _ H => H o = some (.dK (rs.map rowKV)), fun Z k n _ h => k _ _ (fun z => (n _ z).1 (by simp)) h, fun _ _ h => h⟩
theorem rise_nd {rs : List Row} (h : Rise rs) : (rs.map (·.1)).Nodup := List.pairwise_map.mpr (h.imp fun {a b} z => by
  have z : a.1 < b.1 := z
  intro e
  omega)
theorem useSt_B {T : List (Addr × Str)} {o : Addr} {rs : List Row} : UseSt T (ivB o rs) := fun A N H H' e n t s p => e _ _ (fun z => (n _ z).1 (by simp [ivB])) p (fun ps z => by cases z)
theorem extOk_B {T : List (Addr × Str)} {o : Addr} {rs : List Row} : ExtOk T (ivB o rs) := ⟨fun e _ s h => e _ _ h (fun ps z => by cases z), fun h b hb => .inr fun ps e => by
  have hb : b = o := by simpa [ivB] using hb
  have h : _ = some (HO.dK (rs.map rowKV)) := h
  rw [hb, h] at e
  cases e⟩
section
variable {P : Program} {w : World} {K : PySem.W.Frag} {a : Ad} {X : Wd} {Φ Ψ : Iv} {L : Lo} {H : Hp} {σ : L2.St} {Γ : Gm} {i j : Nat} {ta : TA} {te tk : TE} {N : Gm → Iv → Prop} {R : Ro → Iv → Prop} {E : XK} {rs : List Row} {o : Addr} {k v : Int}
end
end Sp

set_option Elab.async false
set_option linter.all false
set_option maxRecDepth 100000
set_option maxHeartbeats 4000000
/-! sorted(d.items()) of ints to ints; dict(d). -/
namespace SR
open PySem PySem.Spec PyProof.Rows L2 LiI
theorem ObjOk.at_ {P : Program} {w : World} {H : Hp} {h : Heap} {a : Addr} {o : HO} (x : ObjOk P w H h a o) : ∃ ob, h.get? a = some ob := by
  cases o with
  | lst xs => obtain ⟨_, _, _, _, e⟩ := x; exact ⟨_, e⟩
  | tup xs => obtain ⟨_, _, _, o, e, _⟩ := x; exact ⟨_, e⟩
  | dK kvs => obtain ⟨_, _, _, _, o, _, _, e, _⟩ := x; exact ⟨_, e⟩
  | dT kvs => obtain ⟨_, _, _, _, o, _, _, e, _⟩ := x; exact ⟨_, e⟩
  | set S n => obtain ⟨o, _, _, _, e, _⟩ := x; exact ⟨_, e⟩
  | ins C dx fs => obtain ⟨_, _, _, e, _⟩ := x; exact ⟨_, e⟩
  | own y => obtain ⟨_, e⟩ := x; exact ⟨_, e⟩
  | xd fs => obtain ⟨_, ⟨_, _, _, e, _⟩, _⟩ := x; exact ⟨_, e⟩
  | rng lo hi => obtain ⟨_, _, _, e⟩ := x; exact ⟨_, e⟩
  | frz ob u => obtain ⟨e, _⟩ := x; exact ⟨_, e⟩
  | tbl ps => exact ⟨_, show h.get? a = some _ from x⟩
  | met f y => exact ⟨_, show h.get? a = some _ from x⟩
  | ext φ => obtain ⟨_, ⟨_, e⟩, _⟩ := x; exact ⟨_, e⟩
section
variable {prog : Program} {w : World} {A : Around} {E : Value → Shared → Prop} {s : Shared}
end
section
variable {X : Cx} {e : Expr} {te : TE} {p apos cpos pos : Pos}
end
end SR

set_option Elab.async false
set_option linter.all false
set_option maxRecDepth 100000
set_option maxHeartbeats 4000000
/-! A book is changed, copied, sorted. -/
namespace SE
open PySem L2 SM SR SD
end SE
namespace Sp
open PySem L2 SM SR SD SE LamX
/-! ### plain -/
theorem lastVal_cons (r : Row) (rs : List Row) (k : Int) : lastVal (r :: rs) k = match lastVal rs k with
    | some v => some v
    | none => if r.1 = k then some r.2 else none := lastVal_app [r] rs k
theorem lastVal_mem : ∀ {rs : List Row} {k v : Int}, (rs.map (·.1)).Nodup → (lastVal rs k = some v ↔ (k, v) ∈ rs)
  | [], k, v, _ => ⟨nofun, nofun⟩
  | r :: rs, k, v, h => by
    have h : (r.1 :: rs.map (·.1)).Nodup := h
    obtain ⟨h1, h2⟩ := List.nodup_cons.mp h
    have ih := lastVal_mem (rs := rs) (k := k) (v := v) h2
    rw [lastVal_cons, List.mem_cons, ← ih]
    cases hl : lastVal rs k with
    | some u =>
      refine ⟨fun e => .inr e, fun e => ?_⟩
      rcases e with e | e
      · exfalso
        have hm := (lastVal_mem (rs := rs) (k := k) (v := u) h2).mp hl
        refine h1 (List.mem_map.mpr ⟨_, hm, ?_⟩)
        rw [← e]
      · exact e
    | none =>
      by_cases e : r.1 = k
      · simp only [if_pos e, Option.some.injEq]
        constructor
        · intro z
          exact .inl (by rw [← e, ← z])
        · rintro (z | z)
          · rw [← z]
          · cases z
      · simp only [if_neg e]
        constructor
        · intro z
          cases z
        · rintro (z | z)
          · exact absurd (by rw [← z]) e
          · cases z
/-- the same rows, by keys -/
structure Bk (book rows : List Row) : Prop where
  nd : (book.map (·.1)).Nodup
  mem : ∀ r, r ∈ book ↔ r ∈ rows
theorem Bk.rise {rows : List Row} (h : Rise rows) : Bk rows rows := ⟨rise_nd h, fun _ => Iff.rfl⟩
theorem Bk.val {book rows : List Row} (h : Bk book rows) (hr : Rise rows) (k : Int) : lastVal book k = lastVal rows k := by
  cases e : lastVal rows k with
  | some v => exact (lastVal_mem h.nd).mpr ((h.mem _).mpr ((lastVal_mem (rise_nd hr)).mp e))
  | none =>
    cases e2 : lastVal book k with
    | none => rfl
    | some v =>
      have := (lastVal_mem (rise_nd hr)).mpr ((h.mem _).mp ((lastVal_mem h.nd).mp e2))
      rw [e] at this
      cases this
def putB (rs : List Row) (k v : Int) : List Row := if (rs.any fun r => decide (r.1 = k)) = true then rs.map (fun r => if r.1 = k then (k, v) else r) else rs ++ [(k, v)]
theorem mem_putB {rs : List Row} {k v : Int} (nd : (rs.map (·.1)).Nodup) (r : Row) : r ∈ putB rs k v ↔ r = (k, v) ∨ (r ∈ rs ∧ r.1 ≠ k) := by
  unfold putB
  by_cases h : (rs.any fun r => decide (r.1 = k)) = true
  · rw [if_pos h, List.mem_map]
    obtain ⟨q, hq, e⟩ := List.any_eq_true.mp h
    have e := of_decide_eq_true e
    constructor
    · rintro ⟨x, hx, rfl⟩
      by_cases ex : x.1 = k
      · rw [if_pos ex]
        exact .inl rfl
      · rw [if_neg ex]
        exact .inr ⟨hx, ex⟩
    · rintro (rfl | ⟨hr, ne⟩)
      · exact ⟨q, hq, by rw [if_pos e]⟩
      · exact ⟨r, hr, by rw [if_neg ne]⟩
  · rw [if_neg h, List.mem_append, List.mem_singleton]
    constructor
    · rintro (hr | rfl)
      · exact .inr ⟨hr, fun e => h (List.any_eq_true.mpr ⟨r, hr, decide_eq_true e⟩)⟩
      · exact .inl rfl
    · rintro (rfl | ⟨hr, _⟩)
      · exact .inr rfl
      · exact .inl hr
theorem putB_nd {rs : List Row} {k v : Int} (nd : (rs.map (·.1)).Nodup) : ((putB rs k v).map (·.1)).Nodup := by
  unfold putB
  by_cases h : (rs.any fun r => decide (r.1 = k)) = true
  · rw [if_pos h, List.map_map]
    have : (rs.map ((fun r : Row => r.1) ∘ fun r => if r.1 = k then (k, v) else r)) = rs.map (·.1) := List.map_congr_left fun r _ => by
      show (if r.1 = k then (k, v) else r).1 = r.1
      by_cases e : r.1 = k
      · rw [if_pos e]
        exact e.symm
      · rw [if_neg e]
    rw [this]
    exact nd
  · rw [if_neg h, List.map_append]
    refine List.nodup_append.mpr ⟨nd, by simp, fun x hx y hy => ?_⟩
    obtain ⟨r, hr, rfl⟩ := List.mem_map.mp hx
    have : y = k := by simpa using hy
    subst this
    intro e
    exact h (List.any_eq_true.mpr ⟨r, hr, decide_eq_true e⟩)
def popB (rs : List Row) (k : Int) : List Row := delR k rs
theorem popB_not {rs : List Row} {k : Int} (nd : (rs.map (·.1)).Nodup) (h : lastVal rs k = none) : popB rs k = rs := List.filter_eq_self.mpr fun r hr => decide_eq_true fun e => by
  have := (lastVal_mem (k := r.1) (v := r.2) nd).mpr hr
  rw [e, h] at this
  cases this
theorem Bk.put {book rows : List Row} (h : Bk book rows) (k v : Int) : Bk (putB book k v) (insR (k, v) rows) := ⟨putB_nd h.nd, fun r => by rw [mem_putB h.nd, mem_insR, h.mem]⟩
section
variable {P : Program} {w : World} {K : PySem.W.Frag} {a : Ad} {X : Wd} {Φ Ψ : Iv} {L : Lo} {H H' : Hp} {σ : L2.St} {Γ : Gm} {i j : Nat} {ta : TA} {te tk tv : TE} {N : Gm → Iv → Prop} {R : Ro → Iv → Prop} {E : XK} {rs rs' : List Row} {o : Addr} {k v : Int} {S0 : D → Iv → Prop}
end
end Sp

set_option Elab.async false
set_option linter.all false
set_option maxRecDepth 100000
set_option maxHeartbeats 4000000
/-! Cells that are in use. -/
namespace Sp
open PySem L2 SM SR SD SE
section
variable {X : Wd} {Φ : Iv} {Γ : Gm} {i j : Nat} {P : Program} {w : World} {K : PySem.W.Frag} {G : MA} {S : FS}
end
end Sp

set_option Elab.async false
set_option linter.all false
set_option maxRecDepth 100000
set_option maxHeartbeats 4000000
/-! Laws that use a file, without an own going. -/
namespace SE
open PySem L2 SM SR SD Sp
section
variable {X : Wd} {Φ : Iv} {Γ : Gm} {i j l : Nat} {N : Gm → Iv → Prop} {R : Ro → Iv → Prop}
end
end SE
namespace Sp
open PySem L2 SM SR SD SE LamX
section
variable {S : FS} {room spare many : Nat}
theorem Up.rows {ws : List Wr} {rs : List Row} (h : Up room spare many S) (g : Goes S ws rs) : allRows (wrL S ws).1 = rs ∧ (wrL S ws).2 = true := by
  obtain ⟨w1, w2⟩ := wrL_none ws S h.lf
  obtain ⟨j, hj, sp, t1, t2⟩ := wrL_spec ws S h.dn
  obtain ⟨rfl, _⟩ := t1 w1
  obtain ⟨t, ht, hr⟩ := g.t
  refine ⟨?_, w1⟩
  rw [sp.chain.2.2.1, hr _ (Nat.le_refl _), if_neg (by omega)]
theorem mem_at (wf : WF S) (k : Int) : (∃ r ∈ allRows S, r.1 = k) ↔ ∃ r ∈ rowsOf S (pageAt S k), r.1 = k := by
  constructor
  · rintro ⟨r, hr, e⟩
    obtain ⟨pg, hp, hr⟩ := List.mem_flatMap.mp hr
    obtain ⟨n, hn⟩ := List.mem_iff_getElem?.mp hp
    have := ((wf.rs n pg hn).2 r hr).1
    refine ⟨r, ?_, e⟩
    unfold pageAt
    rw [← e, this, List.getD_eq_getElem?_getD, hn]
    exact hr
  · rintro ⟨r, hr, e⟩
    refine ⟨r, ?_, e⟩
    unfold pageAt at hr
    rw [List.getD_eq_getElem?_getD] at hr
    cases hn : S.pages[atP S.fences k]? with
    | none =>
      rw [hn] at hr
      simp [rowsOf, chainOf, chainF] at hr
    | some pg =>
      rw [hn] at hr
      exact List.mem_flatMap.mpr ⟨pg, List.mem_of_getElem? hn, hr⟩
/-- again just where it was there -/
theorem put_again (wf : WF S) (k w : Int) : (putT S k w).1 = .again ↔ (lastVal (allRows S) k).isSome = true := by
  rw [lastVal_any]
  have e : ((allRows S).any fun r => decide (r.1 = k)) = true ↔ ∃ r ∈ rowsOf S (pageAt S k), r.1 = k := by
    rw [List.any_eq_true, ← mem_at wf]
    simp
  rw [e]
  unfold putT
  constructor
  · intro h
    split at h
    · rename_i h1
      obtain ⟨r, hr, e⟩ := List.any_eq_true.mp h1
      exact ⟨r, List.mem_append_left _ hr, of_decide_eq_true e⟩
    · split at h
      · rename_i c h2
        exact ⟨cellRow S c, List.mem_append_right _ (List.mem_map.mpr ⟨c, List.mem_of_find?_eq_some h2, rfl⟩), by simpa using List.find?_some h2⟩
      · split at h
        · cases h
        · split at h
          · split at h <;> cases h
          · cases h
  · rintro ⟨r, hr, e⟩
    rcases List.mem_append.mp hr with hr | hr
    · rw [if_pos (List.any_eq_true.mpr ⟨r, hr, decide_eq_true e⟩)]
    · split
      · rfl
      · obtain ⟨c, hc, rfl⟩ := List.mem_map.mp hr
        cases hf : (chainOf S (pageAt S k)).find? (fun c => decide ((cellRow S c).1 = k)) with
        | some c2 => rfl
        | none =>
          have := List.find?_eq_none.mp hf c hc
          simp [e] at this
theorem Up.put {k w : Int} (h : Up room spare many S) (hk : RowOk (k, w)) : (doS S (.put k w)).2 = .str (tlS (putT S k w).1) ∧ allRows (doS S (.put k w)).1 = if (putT S k w).1 = .full then allRows S else insR (k, w) (allRows S) := by
  rw [doS_up h.dn]
  obtain ⟨e1, e2⟩ := h.rows (put_goes h.wf hk).1
  refine ⟨?_, e1⟩
  show (if (wrL S (putT S k w).2).2 = true then _ else _) = _
  rw [if_pos e2]
theorem Up.take {k : Int} (h : Up room spare many S) : (doS S (.take k)).2 = (match lastVal (allRows S) k with | some v => .int v | none => .str "row") ∧ allRows (doS S (.take k)).1 = delR k (allRows S) := by
  rw [doS_up h.dn]
  obtain ⟨g1, g2, g3⟩ := take_goes (k := k) h.wf
  obtain ⟨e1, e2⟩ := h.rows g1
  refine ⟨?_, ?_⟩
  · show (if (wrL S (takeT S k).2).2 = true then _ else _) = _
    rw [if_pos e2, g3]
    try (cases lastVal (allRows S) k <;> rfl)
  · show allRows (wrL S (takeT S k).2).1 = _
    rw [e1, g3]
    cases hl : lastVal (allRows S) k with
    | some v => rfl
    | none =>
      rw [if_pos rfl]
      exact (popB_not (rise_nd h.wf.all.1) hl).symm
theorem Up.relay {n : Nat} (h : Up room spare many S) (h1 : 1 ≤ n) (h2 : n ≤ S.room) (h3 : many ≤ 999) : allRows (doS S (.relay n)).1 = allRows S := by
  rw [doS_up h.dn]
  exact (h.rows (relay_goes h.wf h1 h2 (Nat.le_trans h.rs h3)).1).1
theorem Up.find {k : Int} (h : Up room spare many S) (hk : 0 ≤ k ∧ k ≤ 999) {a : Ad} : f_found a S [.int k] = some (.ok (dO (lastVal (allRows S) k))) := by
  simp only [f_found]
  rw [askd_up h.dn hk, find_all h.wf]
end
section
variable {P : Program} {w : World} {K : PySem.W.Frag} {a : Ad} {X : Wd} {Φ Ψ Φ0 : Iv} {r scr : Addr} {F : FA} {S S' : FS} {Γ : Gm} {E : XK} {te : TE} {ta : TA} {S0 : D → Iv → Prop} {i j : Nat} {ds : List D} {d : D} {m : Str}
theorem Lw.book (h : Lw K a X Φ0 r scr) {o : Addr} {rs : List Row} (n : o ∉ Φ0.fp) : Lw K a X (Φ0.and (ivB o rs)) r scr := h.and useSt_B extOk_B fun z => n (by
  have : r = o := by simpa [ivB] using z
  rw [← this]
  exact h.rin)
end
end Sp

set_option Elab.async false
set_option linter.all false
set_option maxRecDepth 100000
set_option maxHeartbeats 4000000
/-! Values that are made side by side; deeds with stops. -/
namespace SE
open PySem L2 SM SR SD Sp
section
variable {X : Wd} {Φ : Iv} {Γ : Gm} {i j : Nat} {N : Gm → Iv → Prop} {R : Ro → Iv → Prop} {te t1 t2 : TE}
end
end SE
namespace Sp
open PySem L2 SM SR SD SE LamX
section
variable {P : Program} {w : World} {K : PySem.W.Frag} {a : Ad} {X : Wd} {Φ : Iv} {Γ : Gm} {i j : Nat} {ta : TA} {te : TE} {E : XK} {S0 : V → Iv → Prop} {rs : List Row} {o : Addr}
end
section
variable {P : Program} {w : World} {K : PySem.W.Frag} {a : Ad} {X : Wd} {Φ0 : Iv} {r scr : Addr} {F : FA} {S : FS} {Γ : Gm} {E : XK} {ta : TA} {S0 : D → Iv → Prop} {i : Nat} {m : Str}
end
/-! ### deeds, stopped or not -/
section
variable {room spare many : Nat} {S : FS}
theorem Al.goes {ws : List Wr} {rs : List Row} (h : Al room spare many S) (hd : S.down = false) (g : Goes S ws rs) : (allRows (wrL S ws).1 = allRows S ∨ allRows (wrL S ws).1 = rs) ∧ ((wrL S ws).2 = true → allRows (wrL S ws).1 = rs) := by
  obtain ⟨j, hj, sp, t1, t2⟩ := wrL_spec ws S hd
  obtain ⟨t, ht, hr⟩ := g.t
  have e := hr j hj
  rw [sp.chain.2.2.1, e]
  refine ⟨?_, fun w => ?_⟩
  · split
    · exact .inl rfl
    · exact .inr rfl
  · obtain ⟨rfl, _⟩ := t1 w
    rw [if_neg (by omega)]
theorem Al.mend_rows (h : Al room spare many S) : allRows (doS S .mend).1 = allRows S := by
  have su := upS_same S
  have hu : Al room spare many (upS S) := ⟨su.wf h.wf, h.rm, h.sp, h.rs, h.mks⟩
  exact (hu.goes rfl (mend_goes hu.wf).1).2 (wrL_none _ _ rfl).1
theorem lost_none (wf : WF S) (wh : Whole S) : lostCells S = [] := by
  unfold lostCells
  rw [List.filter_eq_nil_iff]
  intro n hn
  simp only [Bool.and_eq_true, Bool.not_eq_true', decide_eq_false_iff_not, not_and, Decidable.not_not]
  intro hs
  rw [List.getD_eq_getElem?_getD] at hs
  cases h : S.spills[n]? with
  | none =>
    rw [h] at hs
    cases hs
  | some c =>
    cases c with
    | none =>
      rw [h] at hs
      cases hs
    | some c => exact wh n c h
end
end Sp

set_option Elab.async false
set_option linter.all false
set_option maxRecDepth 100000
set_option maxHeartbeats 4000000
/-! The promise of played; a comprehension that changes what is held. -/
namespace Sp
open PySem L2 SM SR SD SE
/-- what a file tells, step by step -/
def runR (a : Ad) : FS → List Stq → FS × List D
  | S, [] => (S, [])
  | S, st :: r => ((runR a (useR a S st).1 r).1, doR a (useR a S st).2 :: (runR a (useR a S st).1 r).2)
def RunOk (a : Ad) : FS → List Stq → Prop
  | _, [] => True
  | S, st :: r => UseOk S ∧ RunOk a (useR a S st).1 r
end Sp
namespace SE
open PySem L2 SM SR SD Sp
section
variable {X : Wd} {Φ Φ2 : Iv} {H H1 H2 H3 : Hp} {L : Lo} {σ : L2.St} {Γ Γ' : Gm} {v : V} {d e : D} {i j : Nat} {ta tb te : TE} {tt tu : TT} {S : D → Iv → Prop}
end
end SE

set_option Elab.async false
set_option linter.all false
set_option maxRecDepth 100000
set_option maxHeartbeats 4000000
/-! Readings, printed by gen.py. -/
namespace Sp
open PySem L2 SM SR SD SE
end Sp

set_option Elab.async false
set_option linter.all false
set_option maxRecDepth 100000
set_option maxHeartbeats 4000000
/-! plays.py: played. -/
namespace Sp
open PySem L2 SM SR SD SE
section
variable {P : Program} {w : World} {K : PySem.W.Frag} {a : Ad} {X : Wd} {Φ : Iv} {F : FA} {S S' : FS} {Γ : Gm} {E : XK} {ta : TA} {te tf : TE} {ds : List D} {d : D} {i j : Nat} {L : Lo} {H H' : Hp} {M : Ads} {Q : VK}
end
end Sp

set_option Elab.async false
set_option linter.all false
set_option maxRecDepth 100000
set_option maxHeartbeats 4000000
/-! Two files beside one another; own lists that are popped; a file laid anew. -/
namespace SE
open PySem L2 SM SR SD Sp
section
variable {X : Wd} {Φ : Iv} {Γ : Gm} {i j : Nat} {N : Gm → Iv → Prop} {R : Ro → Iv → Prop} {te ta tb : TE} {ds : List D} {S : D → Iv → Prop} {K : PySem.W.Frag}
end
end SE
namespace Sp
open PySem L2 SM SR SD SE LamX
section
variable {P : Program} {w : World} {K : PySem.W.Frag} {a : Ad} {X : Wd} {Φ0 : Iv} {r scr : Addr} {F1 F2 : FA} {S1 S2 S' : FS} {Γ : Gm} {E : XK} {ta : TA} {S0 : D → Iv → Prop} {i : Nat} {m : Str} {ds : List D} {d : D} {te : TE}
structure FF (Φ0 : Iv) (F1 F2 : FA) : Prop where
  f1 : FOk Φ0 F1
  f2 : FOk Φ0 F2
  d : ∀ b ∈ F2.foot, b ∉ F1.foot
theorem FF.rt (h : FF Φ0 F1 F2) : FOk (Φ0.and (ivF P w a F1 S1)) F2 := fun b hb z => by
  rcases List.mem_append.mp z with z | z
  · exact h.f2 b hb z
  · exact h.d b hb z
theorem FF.lf (h : FF Φ0 F1 F2) : FOk (Φ0.and (ivF P w a F2 S2)) F1 := fun b hb z => by
  rcases List.mem_append.mp z with z | z
  · exact h.f1 b hb z
  · exact h.d b z hb
end
/-! ### laid anew -/
section
variable {room spare many : Nat} {S : FS} {a : Ad}
theorem frees_keep : ∀ (cs : List Nat) (S : FS), (apL S (frees cs)).pages = S.pages ∧ (apL S (frees cs)).fences = S.fences
  | [], S => ⟨rfl, rfl⟩
  | c :: cs, S => by
    obtain ⟨h1, h2⟩ := frees_keep cs (ap S (.spill c none))
    exact ⟨h1.trans rfl, h2.trans rfl⟩
theorem put_free (wf : WF S) (k w : Int) (h : ∃ n ns, freeCells S = n :: ns) : (putT S k w).1 ≠ .full := by
  obtain ⟨n, ns, h⟩ := h
  unfold putT
  split
  · exact nofun
  · split
    · exact nofun
    · split
      · exact nofun
      · rename_i hl
        have hr := wf.rm
        have hne : (pageAt S k).1 ≠ [] := fun z => by
          rw [z] at hl
          simp at hl
          omega
        cases hg : (pageAt S k).1.getLast? with
        | none => exact absurd (List.getLast?_eq_none_iff.mp hg) hne
        | some l =>
          rw [h]
          show (if k < l.1 then _ else _ : Tl × List Wr).1 ≠ _
          split <;> exact nofun
theorem rows_small (wf : WF S) : (allRows S).length < 90000 := by
  have hpn := wf.pn
  have h1 : ∀ l : List Pg, (∀ pg ∈ l, pg ∈ S.pages) → (l.flatMap (rowsOf S)).length ≤ 24 * l.length := fun l hl => by
    induction l with
    | nil => simp
    | cons p l ih =>
      have hp := hl p List.mem_cons_self
      have := ih fun x hx => hl x (List.mem_cons_of_mem _ hx)
      have h2 := wf.sz p hp
      have h3 := ch_lt20 wf hp
      have h4 := wf.rm
      simp only [List.flatMap_cons, List.length_append, List.length_cons]
      have : (rowsOf S p).length ≤ 24 := by
        simp only [rowsOf, List.length_append, List.length_map]
        omega
      omega
  have := h1 S.pages fun _ h => h
  unfold allRows
  omega
/-! ### one mark goes through all rows -/
structure Mk1 (S : FS) (m : Int) (rs : List Row) : Prop where
  wf : WF S
  dn : S.down = false
  rs : allRows S = rs
  mks : S.marks = [((0 : Int), m)]
  ct : S.count = 1
theorem Mk1.next {m : Int} {rs : List Row} (h : Mk1 S m rs) : f_next a S [.int 0] = some (match rs.filter fun r => decide (m < r.1) with
    | [] => (S, Rs.ok .none)
    | r :: _ => (setMark S 0 r.1, Rs.ok (dRow r))) := by
  have mk : MkOk S := by
    unfold MkOk
    rw [h.mks, h.ct]
    rfl
  have hl := rows_small h.wf
  have hn : nextOf S 0 = rs.filter fun r => decide (m < r.1) := by
    unfold nextOf
    rw [h.rs, h.mks]
    rfl
  simp only [f_next]
  rw [if_pos ⟨mk, by rw [h.ct]; decide, by omega⟩]
  simp only [upR, h.dn]
  rw [if_neg (by decide), if_pos ⟨by decide, by rw [h.ct]; decide⟩]
  show some (match nextOf S 0 with
      | [] => (S, Rs.ok .none)
      | r :: _ => (setMark S 0 r.1, Rs.ok (dRow r))) = _
  rw [hn]
  try rfl
theorem Mk1.set {m n : Int} {rs : List Row} (h : Mk1 S m rs) : Mk1 (setMark S 0 n) n rs := ⟨h.wf.ext rfl rfl rfl rfl rfl h.wf.wh, h.dn, h.rs, by show S.marks.set 0 _ = _; rw [h.mks]; rfl, h.ct⟩
end
end Sp

set_option Elab.async false
set_option linter.all false
set_option maxRecDepth 100000
set_option maxHeartbeats 4000000
/-! A deed stopped at any of its writes. -/
namespace Sp
open PySem L2 SM SR SD SE
theorem wrL_many : ∀ (ws : List Wr) (S : FS), S.left = none → (wrL S ws).1.many = S.many + ws.length
  | [], S, _ => by simp [wrL]
  | x :: ws, S, h => by
    unfold wrL
    rw [if_neg (by rw [h]; nofun), wrL_many ws (cnt S x) (by show S.left.map (· - 1) = none; rw [h]; rfl)]
    show S.many + 1 + (ws.length : Int) = _
    rw [List.length_cons]
    push_cast
    omega
theorem wrL_stopAt : ∀ (ws : List Wr) (S : FS) (k : Nat), S.left = some (k : Int) → k < ws.length → SameP (apL S (ws.take k)) (wrL S ws).1 ∧ (wrL S ws).2 = false ∧ (wrL S ws).1.many = S.many + k ∧ (wrL S ws).1.down = true
  | [], S, k, _, hk => by simp at hk
  | x :: ws, S, 0, h, _ => by
    unfold wrL
    rw [if_pos (show S.left = some 0 from h)]
    exact ⟨⟨rfl, rfl, rfl, rfl, rfl, rfl, rfl, rfl⟩, rfl, by simp, rfl⟩
  | x :: ws, S, k + 1, h, hk => by
    unfold wrL
    rw [if_neg (by rw [h]; simp; omega)]
    obtain ⟨h1, h2, h3, h4⟩ := wrL_stopAt ws (cnt S x) k (by show S.left.map (· - 1) = _; rw [h]; simp) (by simpa using hk)
    refine ⟨?_, h2, ?_, h4⟩
    · rw [List.take_succ_cons]
      exact SameP.trans (SameP.apL (S := ap S x) (S' := cnt S x) ⟨rfl, rfl, rfl, rfl, rfl, rfl, rfl, rfl⟩ (ws.take k)) h1
    · rw [h3]
      show S.many + 1 + (k : Int) = _
      push_cast
      omega
theorem usedS_len {S : FS} (wf : WF S) (hw : Whole S) : (S.spills.filter Option.isSome).length = (chains S).length := by
  have e : S.spills = (List.range S.spills.length).map fun n => S.spills.getD n none := by
    refine List.ext_getElem? fun i => ?_
    by_cases hi : i < S.spills.length
    · simp [hi, List.getD_eq_getElem?_getD]
    · rw [List.getElem?_eq_none (by omega), List.getElem?_eq_none (by simp; omega)]
  have e2 : (S.spills.filter Option.isSome).length = ((List.range S.spills.length).filter fun n => (S.spills.getD n none).isSome).length := by
    conv => lhs; rw [e]
    rw [List.filter_map, List.length_map]
    rfl
  rw [e2]
  refine Nat.le_antisymm (nodup_sub (List.Pairwise.filter _ List.nodup_range) fun n hn => ?_) (nodup_sub wf.dj fun n hn => ?_)
  · have hs := (List.mem_filter.mp hn).2
    rw [List.getD_eq_getElem?_getD] at hs
    cases h : S.spills[n]? with
    | none =>
      rw [h] at hs
      cases hs
    | some c =>
      cases c with
      | none =>
        rw [h] at hs
        cases hs
      | some c => exact hw n c h
  · obtain ⟨pg, hp, hc⟩ := List.mem_flatMap.mp hn
    obtain ⟨r, k, h⟩ := (wf.ch pg hp).mem n hc
    refine List.mem_filter.mpr ⟨List.mem_range.mpr (List.getElem?_eq_some_iff.mp h).1, ?_⟩
    rw [List.getD_eq_getElem?_getD, h]
    rfl
theorem rowsS_len (S : FS) : ∀ ps : List Pg, (ps.flatMap (rowsOf S)).length = (ps.map fun p => p.1.length).sum + (ps.flatMap (chainOf S)).length
  | [] => rfl
  | p :: ps => by
    rw [List.flatMap_cons, List.flatMap_cons, List.length_append, List.length_append, rowsS_len S ps, List.map_cons, List.sum_cons]
    simp [rowsOf]
    omega
theorem two_len {l : List (Option Cl)} : (l.filter Option.isSome).length + (l.filter Option.isNone).length = l.length := by
  induction l with
  | nil => rfl
  | cons c l ih => cases c <;> simp <;> omega
/-- as many cells are free, if as many rows are on as many pages -/
theorem free_same {S S' : FS} (wf : WF S) (wf' : WF S') (wh : Whole S) (wh' : Whole S') (hp : S'.pages = S.pages) (hs : S'.spare = S.spare) (hr : allRows S' = allRows S) : (freeCells S').length = (freeCells S).length := by
  rw [free_len wf.ns, free_len wf'.ns]
  have a1 := usedS_len wf wh
  have a2 := usedS_len wf' wh'
  have b1 := two_len (l := S.spills)
  have b2 := two_len (l := S'.spills)
  have c1 := rowsS_len S S.pages
  have c2 := rowsS_len S' S'.pages
  have d1 : (S.pages.flatMap (rowsOf S)).length = (allRows S).length := rfl
  have d2 : (S'.pages.flatMap (rowsOf S')).length = (allRows S').length := rfl
  have e1 : (S.pages.flatMap (chainOf S)).length = (chains S).length := rfl
  have e2 : (S'.pages.flatMap (chainOf S')).length = (chains S').length := rfl
  rw [d1, e1] at c1
  rw [d2, e2, hr, hp] at c2
  have n1 := wf.ns
  have n2 := wf'.ns
  omega
theorem SameP.ext {S S' : FS} (e : SameP S S') : S' = { S with many := S'.many, left := S'.left, down := S'.down } := by
  obtain ⟨e1, e2, e3, e4, e5, e6, e7, e8⟩ := e
  cases S
  cases S'
  simp only at e1 e2 e3 e4 e5 e6 e7 e8
  subst e1 e2 e3 e4 e5 e6 e7 e8
  rfl
theorem SameP.putT {S S' : FS} (e : SameP S S') (k w : Int) : Sp.putT S' k w = Sp.putT S k w := by
  rw [e.ext]
  rfl
section
variable {room spare many : Nat} {S : FS}
/-- the writes of a deed -/
def wsOf (S : FS) : Stp → List Wr
  | .put k w => (putT S k w).2
  | .take k => (takeT S k).2
  | .relay n => relayT S n
  | _ => []
def Deed (S : FS) : Stp → Prop
  | .put k v => RowOk (k, v)
  | .take k => 0 ≤ k ∧ k ≤ 999
  | .relay n => 1 ≤ n ∧ n ≤ S.room
  | _ => False
theorem Deed.ok {st : Stp} (h : Deed S st) (hl : (allRows S).length ≤ 999) : StpOk S st := by
  cases st with
  | put k v => exact h
  | take k => exact h
  | relay n => exact ⟨h.1, h.2, hl⟩
  | _ => exact h.elim
/-- the rows behind it -/
def restR (S : FS) : Stp → List Row
  | .put k v => if (putT S k v).1 = .full then allRows S else insR (k, v) (allRows S)
  | .take k => if (takeT S k).1 = none then allRows S else delR k (allRows S)
  | _ => allRows S
theorem deed_goes {st : Stp} (wf : WF S) (h : Deed S st) (hl : (allRows S).length ≤ 999) : Goes S (wsOf S st) (restR S st) := by
  cases st with
  | put k v => exact (put_goes wf h).1
  | take k => exact (take_goes wf).1
  | relay n => exact (relay_goes wf h.1 h.2 hl).1
  | _ => exact h.elim
theorem deed_do {st : Stp} (h : Deed S st) (hd : S.down = false) : (doS S st).1 = (wrL S (wsOf S st)).1 ∧ ((wrL S (wsOf S st)).2 = false → (doS S st).2 = .str "stopped") := by
  cases st with
  | put k v =>
    rw [doS_up hd]
    refine ⟨rfl, fun e => ?_⟩
    show (if (wrL S (wsOf S (.put k v))).2 = true then _ else _) = _
    rw [e]
    rfl
  | take k =>
    rw [doS_up hd]
    refine ⟨rfl, fun e => ?_⟩
    show (if (wrL S (wsOf S (.take k))).2 = true then _ else _) = _
    rw [e]
    rfl
  | relay n =>
    rw [doS_up hd]
    refine ⟨rfl, fun e => ?_⟩
    show (if (wrL S (wsOf S (.relay n))).2 = true then _ else _) = _
    rw [e]
    rfl
  | _ => exact h.elim
theorem ws_left {st : Stp} {l : Option Int} : wsOf { S with left := l } st = wsOf S st := by
  cases st <;> rfl
theorem Deed.left {st : Stp} {l : Option Int} (h : Deed S st) : Deed { S with left := l } st := by
  cases st <;> exact h
/-- the rows behind a whole deed -/
theorem Up.rest {st : Stp} (h : Up room spare many S) (hd : Deed S st) (hm : many ≤ 999) : allRows (doS S st).1 = restR S st ∧ (doS S st).1.many = S.many + (wsOf S st).length := by
  have hr := h.rs
  rw [(deed_do hd h.dn).1]
  exact ⟨(h.rows (deed_goes h.wf hd (by omega))).1, wrL_many _ _ h.lf⟩
theorem rest_len {st : Stp} (wf : WF S) (hd : Deed S st) : (restR S st).length ≤ (allRows S).length + 1 := by
  cases st with
  | put k v =>
    show (if (putT S k v).1 = .full then allRows S else insR (k, v) (allRows S)).length ≤ _
    split
    · omega
    · rw [(insR_perm (k, v) (allRows S)).length_eq, List.length_append]
      exact Nat.add_le_add (List.length_filter_le _ _) (Nat.le_refl _)
  | take k =>
    show (if (takeT S k).1 = none then allRows S else delR k (allRows S)).length ≤ _
    split
    · omega
    · exact Nat.le_trans (List.length_filter_le _ _) (Nat.le_succ _)
  | relay n => exact Nat.le_succ _
  | _ => exact hd.elim
/-- a put that takes two writes starts with a free cell -/
theorem put_two {k w : Int} (h : 1 < (putT S k w).2.length) : (∃ n ns, freeCells S = n :: ns) ∧ (apL S ((putT S k w).2.take 1)).pages = S.pages ∧ (putT S k w).2.length = 2 := by
  unfold putT at h ⊢
  split at h
  · simp at h
  rename_i h1
  rw [if_neg h1]
  split at h
  · simp at h
  rename_i h2
  split at h
  · simp at h
  rename_i h3
  split at h
  · rename_i f l hf hg
    have hfr : ∃ n ns, freeCells S = n :: ns := by
      cases q : freeCells S with
      | nil =>
        rw [q] at hf
        cases hf
      | cons n ns => exact ⟨n, ns, rfl⟩
    simp only [h2, hf, hg, if_neg h3]
    split
    · exact ⟨hfr, rfl, rfl⟩
    · exact ⟨hfr, rfl, rfl⟩
  · simp at h
/-- stopped at a write: till t the rows ahead, from t on those behind; mended, it's whole -/
theorem Up.stops {st : Stp} (h : Up room spare many S) (hd : Deed S st) (hm : many ≤ 900) : ∃ t ≤ (wsOf S st).length, ∀ k < (wsOf S st).length,
    (doS { S with left := some (k : Int) } st).2 = .str "stopped" ∧ (doS { S with left := some (k : Int) } st).1.many = S.many + k ∧ Al room spare (many + 1) (doS { S with left := some (k : Int) } st).1 ∧
    (doS { S with left := some (k : Int) } st).1.marks = S.marks ∧ (doS { S with left := some (k : Int) } st).1.count = S.count ∧
    allRows (doS { S with left := some (k : Int) } st).1 = (if k < t then allRows S else restR S st) ∧ SameP (apL S ((wsOf S st).take k)) (doS { S with left := some (k : Int) } st).1 := by
  have hr := h.rs
  have g := deed_goes h.wf hd (by omega)
  obtain ⟨t, ht, hj⟩ := g.t
  refine ⟨t, ht, fun k hk => ?_⟩
  obtain ⟨d1, d2⟩ := deed_do (S := { S with left := some (k : Int) }) hd.left h.dn
  rw [ws_left] at d1 d2
  obtain ⟨w1, w2, w3, w4⟩ := wrL_stopAt (wsOf S st) { S with left := some (k : Int) } k rfl hk
  have sp : SameP (apL S ((wsOf S st).take k)) (wrL { S with left := some (k : Int) } (wsOf S st)).1 := SameP.trans (SameP.apL (S := S) (S' := { S with left := some (k : Int) }) ⟨rfl, rfl, rfl, rfl, rfl, rfl, rfl, rfl⟩ _) w1
  have rows : allRows (wrL { S with left := some (k : Int) } (wsOf S st)).1 = if k < t then allRows S else restR S st := by
    rw [sp.chain.2.2.1, hj k (Nat.le_of_lt hk)]
  obtain ⟨r1, r2, r3⟩ := apL_room ((wsOf S st).take k) S
  have hl := rest_len h.wf hd
  rw [d1]
  refine ⟨d2 w2, w3, ⟨sp.wf (g.wf k (Nat.le_of_lt hk)), sp.room.trans (r1.trans h.rm), sp.spare.trans (r2.trans h.sp), ?_, ?_⟩, sp.marks.trans r3, sp.count.trans (apL_count _ _), rows, sp⟩
  · rw [rows]
    split <;> omega
  · rw [sp.marks, r3]
    exact Nat.le_succ_of_le h.mks
theorem mend_up {S2 : FS} (h : Al room spare many S2) : Up room spare (many + 1) (doS S2 .mend).1 ∧ allRows (doS S2 .mend).1 = allRows S2 ∧ (doS S2 .mend).1.pages = S2.pages := by
  obtain ⟨a1, a2⟩ := h.mend
  refine ⟨⟨a1.wf, a2.wh, a2.dn, (wrL_none (frees (lostCells S2)) (upS S2) rfl).2, a1.rm, a1.sp, a1.rs, a1.mks⟩, h.mend_rows, ?_⟩
  obtain ⟨j, hj, sp, t1, t2⟩ := wrL_spec (frees (lostCells S2)) (upS S2) rfl
  obtain ⟨rfl, _⟩ := t1 (wrL_none (frees (lostCells S2)) (upS S2) rfl).1
  rw [List.take_length] at sp
  exact sp.pages.trans (frees_keep _ _).1
/-- mended with the rows ahead, done again it tells the same -/
theorem Up.again {st : Stp} {k : Nat} (h : Up room spare many S) (hd : Deed S st) (hm : many ≤ 900) (hk : k < (wsOf S st).length) (hr : allRows (doS { S with left := some (k : Int) } st).1 = allRows S) (hn : restR S st ≠ allRows S) {S3 : FS} (e3 : S3 = (doS (doS { S with left := some (k : Int) } st).1 .mend).1) :
    (doS S3 st).2 = (doS S st).2 ∧ allRows (doS S3 st).1 = restR S st := by
  obtain ⟨t, ht, hs⟩ := h.stops hd hm
  obtain ⟨s1, s2, al, s4, s5, s6, sp⟩ := hs k hk
  obtain ⟨up3, r3, p3⟩ := mend_up al
  rw [← e3] at up3 r3 p3
  have rr : allRows S3 = allRows S := r3.trans hr
  cases st with
  | put key v =>
    have hd : RowOk (key, v) := hd
    have nf : (putT S key v).1 ≠ .full := fun z => hn (by show (if (putT S key v).1 = .full then _ else _) = _; rw [if_pos z])
    obtain ⟨a1, a2⟩ := up3.put (k := key) (w := v) hd
    obtain ⟨b1, b2⟩ := h.put (k := key) (w := v) hd
    have same : (putT S3 key v).1 = (putT S key v).1 := by
      have i1 := put_again up3.wf key v
      have i2 := put_again h.wf key v
      rw [rr] at i1
      have nf3 : (putT S3 key v).1 ≠ .full := by
        cases k with
        | zero =>
          have sp0 : SameP S (doS { S with left := some ((0 : Nat) : Int) } (.put key v)).1 := sp
          have lost : lostCells (doS { S with left := some ((0 : Nat) : Int) } (.put key v)).1 = [] := lost_none al.wf (sp0.whole h.wh)
          have e : S3 = upS (doS { S with left := some ((0 : Nat) : Int) } (.put key v)).1 := by
            rw [e3]
            show (wrL (upS _) (frees (lostCells _))).1 = _
            rw [lost]
            rfl
          have sp3 : SameP S S3 := by
            rw [e]
            exact sp0.trans (upS_same _)
          rw [sp3.putT]
          exact nf
        | succ k =>
          obtain ⟨f1, f2, f3⟩ := put_two (S := S) (k := key) (w := v) (by
            have : k + 1 < (putT S key v).2.length := hk
            omega)
          have hk' : k + 1 < (putT S key v).2.length := hk
          have e0 : k = 0 := by omega
          subst e0
          have pg : S3.pages = S.pages := p3.trans (sp.pages.trans f2)
          refine put_free up3.wf key v ?_
          have fl := free_same h.wf up3.wf h.wh up3.wh pg (up3.sp.trans h.sp.symm) rr
          obtain ⟨n, ns, fe⟩ := f1
          rw [fe] at fl
          cases q : freeCells S3 with
          | nil =>
            rw [q] at fl
            cases fl
          | cons n ns => exact ⟨n, ns, rfl⟩
      cases q : (putT S key v).1 with
      | again => exact i1.mpr (i2.mp q)
      | full => exact absurd q nf
      | new =>
        cases q3 : (putT S3 key v).1 with
        | again =>
          have := i2.mpr (i1.mp q3)
          rw [q] at this
          cases this
        | full => exact absurd q3 nf3
        | new => rfl
    rw [a1, b1, a2, same, rr]
    exact ⟨rfl, rfl⟩
  | take key =>
    obtain ⟨a1, a2⟩ := up3.take (k := key)
    obtain ⟨b1, b2⟩ := h.take (k := key)
    rw [a1, b1, a2, rr]
    refine ⟨rfl, ?_⟩
    show _ = if (takeT S key).1 = none then allRows S else delR key (allRows S)
    split
    · rename_i z
      exact absurd (by show (if (takeT S key).1 = none then allRows S else _) = _; rw [if_pos z]) hn
    · rfl
  | relay n => exact absurd rfl hn
  | _ => exact hd.elim
end
end Sp

set_option Elab.async false
set_option linter.all false
set_option maxRecDepth 100000
set_option maxHeartbeats 4000000
/-! played is called from a law; a run of the laws' own going. -/
namespace Sp
open PySem L2 SM SR SD SE LamX
section
variable {P : Program} {w : World} {K : PySem.W.Frag} {a : Ad} {X : Wd} {Φ : Iv} {F : FA} {S S' : FS} {Γ : Gm} {E : XK} {ta : TA} {te tf : TE} {ds : List D} {d : D} {i j : Nat} {S0 : V → Iv → Prop} {N : Gm → Iv → Prop} {R : Ro → Iv → Prop} {rs : List Row}
theorem RunOk.snoc {st : Stq} : ∀ (sl : List Stq) (S : FS), RunOk a S sl → UseOk (runR a S sl).1 → RunOk a S (sl ++ [st])
  | [], S, _, h => ⟨h, trivial⟩
  | s :: sl, S, h, k => ⟨h.1, RunOk.snoc sl (useR a S s).1 h.2 k⟩
/-- a step that is one -/
def GoodQ (st : Stq) : Prop := isStep (dStq st) = true
theorem good_stp {st : Stp} {b : Bool} (h : StpGot S b st) (hr : S.room ≤ 4) (hm : S.marks.length < 900) : GoodQ (toQ st) := by
  have one : ∀ {x : Str} {k : Int}, sizesP.lookup x = some 1 → 0 ≤ k → k ≤ 999 → isStep (.tuple [.str x, .int k]) = true := fun {x k} h1 h2 h3 => by
    show ((match sizesP.lookup x with
      | some n => decide (n = ((1 : Nat) : Int))
      | none => false) && [PyData.int k].all fun p => isNum p 0 999) = true
    rw [h1]
    simp [isNum]
    omega
  cases st with
  | find k => exact one rfl h.1 h.2
  | look k => exact one rfl h.1 h.2
  | put k v =>
    have h : RowOk (k, v) := h
    have e1 : isNum (.int k) 0 999 = true := num_in h.1 h.2.1
    have e2 : isNum (.int v) 0 999 = true := num_in h.2.2.1 h.2.2.2
    show ((match sizesP.lookup ("put" : Str) with
      | some n => decide (n = ((2 : Nat) : Int))
      | none => false) && [PyData.int k, PyData.int v].all fun p => isNum p 0 999) = true
    simp only [List.all_cons, List.all_nil, e1, e2]
    rfl
  | take k => exact one rfl h.1 h.2
  | mark => rfl
  | next m =>
    have h : m < S.marks.length := h
    exact one rfl (by omega) (by omega)
  | relay n =>
    have h : 1 ≤ n ∧ n ≤ S.room := h
    exact one rfl (by omega) (by omega)
  | stop n =>
    have h : n ≤ 4 ∧ b = true := h
    exact one rfl (by omega) (by omega)
  | mend => rfl
end
end Sp

set_option Elab.async false
set_option linter.all false
set_option maxRecDepth 100000
set_option maxHeartbeats 4000000
/-! Texts: join, split, str of a number, int of a text. -/
namespace SR
open PySem PySem.Spec PyProof.Rows L2 SM
def rSplit1 : V → List V → Hp → VK → Prop := fun x xs H Q => ∃ a b, x = .str a ∧ xs = [.str b] ∧ (b.length == 0) = false ∧ a.length + 2 ≤ sizeLine ∧ rNewStrs (Txt.split a b) H Q
def rJoin1 (K : PySem.W.Frag) : V → List V → Hp → VK → Prop := fun x xs H Q => ∃ a p, ∃ ys : List Str, x = .str a ∧ xs = [.ref p] ∧ (SqL K H p (ys.map V.str) ∨ SqT K H p (ys.map V.str)) ∧ (ys.map (·.length)).sum + ys.length * a.length ≤ 16777216 ∧ Q (.str (Txt.join a ys)) H
def rStrI : List V → Hp → VK → Prop := fun xs H Q => ∃ i, xs = [.int i] ∧ i.natAbs.log2 < 1920 ∧ Q (.str (toString i)) H
def rIntS : List V → Hp → VK → Prop := fun xs H Q => ∃ a n, xs = [.str a] ∧ PySem.intText? a = some n ∧ a.length ≤ 640 ∧ Q (.int n) H
section
variable {X : Cx} {o e : Expr} {to te : TE} {apos pos : Pos}
theorem pe_split1 (ho : PE X o to) (he : PE X e te) (hs : starEach [e] X.env = [(false, eval e X.env)] := by rfl) (hbase : attributeBase o "split" X.env (eval o X.env) = eval o X.env := by rfl) (hline : (apos.endLine == pos.line) = true := by rfl) : PE X (.Call (.Attribute o "split" apos) [e] [] pos) (tM1 rSplit1 to te) := pe_split ho he hs hbase hline
theorem pe_join1 (ho : PE X o to) (he : PE X e te) (hs : starEach [e] X.env = [(false, eval e X.env)] := by rfl) (hbase : attributeBase o "join" X.env (eval o X.env) = eval o X.env := by rfl) (hline : (apos.endLine == pos.line) = true := by rfl) : PE X (.Call (.Attribute o "join" apos) [e] [] pos) (tM1 (rJoin1 X.K) to te) := pe_join ho he hs hbase hline
end
end SR
namespace Sp
open PySem L2 SM SR SD SE
section
variable {X : Wd} {Φ : Iv} {Γ : Gm} {K : PySem.W.Frag} {to te : TE} {a b : Str} {ys : List Str}
theorem vals_strs {G : Hp} : ∀ {vs : List V} {ys : List Str}, Dts G vs (ys.map PyData.str) → vs = ys.map V.str
  | _, [], .nil => rfl
  | _, y :: ys, .cons r h => by
    cases r
    rw [vals_strs h]
    rfl
theorem dts_txts {G : Hp} : ∀ ys : List Str, Dts G (ys.map V.str) (ys.map PyData.str)
  | [] => .nil
  | y :: ys => .cons (.str y) (dts_txts ys)
theorem ev_join (ho : Ev X Φ to Γ (.str a)) (he : Ev X Φ te Γ (.list (ys.map .str))) (hl : (ys.map (·.length)).sum + ys.length * a.length ≤ 16777216) : Ev X Φ (tM1 (rJoin1 K) to te) Γ (.str (Txt.join a ys)) := fun L H σ c g Q q => ho L H σ c g _ fun v H1 e1 r1 => by
  cases r1
  refine ⟨⟨a, rfl⟩, he L H1 σ (c.up e1) (g.up e1) _ fun u H2 e2 r2 => ?_⟩
  cases r2 with
  | @lst p vs _ hp hvs =>
    rw [vals_strs hvs] at hp
    exact ⟨a, p, ys, rfl, rfl, .inl (sqL hp), hl, q _ H2 (e1.trans e2) (.str _)⟩
theorem ev_split (ho : Ev X Φ to Γ (.str a)) (he : Ev X Φ te Γ (.str b)) (hb : (b.length == 0) = false) (hl : a.length + 2 ≤ sizeLine) : Ev X Φ (tM1 rSplit1 to te) Γ (.list ((Txt.split a b).map .str)) := fun L H σ c g Q q => ho L H σ c g _ fun v H1 e1 r1 => by
  cases r1
  refine ⟨⟨a, rfl⟩, he L H1 σ (c.up e1) (g.up e1) _ fun u H2 e2 r2 => ?_⟩
  cases r2
  refine ⟨a, b, rfl, rfl, hb, hl, fun p hp => ?_⟩
  have lv := (c.up (e1.trans e2)).lv
  exact q _ _ ((e1.trans e2).trans (new_same hp)) (.lst (new_at lv hp) (dts_txts _))
theorem cb_intS {n : Int} (h : PySem.intText? a = some n) (hl : a.length ≤ 640) : CbD rIntS [.str a] (.int n) := fun N H vs lv r Q q => by
  cases r with
  | cons r1 r2 =>
    cases r1
    cases r2
    exact ⟨a, n, rfl, h, hl, q _ H (Same.refl H) (.int _)⟩
end
end Sp

set_option Elab.async false
set_option linter.all false
set_option maxRecDepth 100000
set_option maxHeartbeats 4000000
/-! plays.py: is_step, need_steps. -/
namespace Sp
open PySem L2 SM SR SD SE
section
variable {X : Wd} {Φ : Iv} {Γ : Gm} {H : Hp} {Q : VK} {E : XK} {P : Program} {w : World} {K : PySem.W.Frag} {a : Ad} {tx ty : TE} {d : D}
theorem ev_kget2 {t : Addr} {kvs : List (Str × Int)} {s : Str} (h : Ev X Φ ty Γ (.str s)) (hf : Ev X Φ tx Γ d) : Ev X Φ (tKGet2 t kvs (tC (.ref t)) ty tx) Γ (match kvs.lookup s with
  | some i => .int i
  | none => d) := fun L H σ c g Q q => ⟨rfl, h L H σ c g _ fun v H1 e1 r1 => hf L H1 σ (c.up e1) (g.up e1) _ fun z H2 e2 r2 => by
    cases r1
    refine ⟨s, rfl, ?_⟩
    cases hl : kvs.lookup s with
    | some i =>
      rw [hl] at q
      exact q _ H2 (e1.trans e2) (.int i)
    | none =>
      rw [hl] at q
      exact q _ H2 (e1.trans e2) r2⟩
theorem atI_hd {p : D} {ps : List D} : L2.atI (p :: ps) 0 = some p := by
  rw [atI_nat (l := p :: ps) (n := 0) (i := 0) rfl (by simp)]
  rfl
end
end Sp

set_option Elab.async false
set_option linter.all false
set_option maxRecDepth 100000
set_option maxHeartbeats 4000000
/-! Promise of number_of; walks over a text. -/
namespace Sp
open PySem L2 SM SR SD SE
/-- the number that a word writes -/
def digB (c : Nat) : Bool := decide (48 ≤ c) && decide (c ≤ 57)
def numOf (x : Str) : Option Int := if (1 ≤ x.length ∧ x.length ≤ 3) ∧ x.cps.toList.all digB = true ∧ (x.cps.toList.head? = some 48 → x.cps.toList = [48]) then intText? x else none
def f_number_of (a : Ad) : List D → Option Rs
  | [.str x, .int row] => if x.length ≤ 100000 ∧ 0 ≤ row ∧ row ≤ 10000 ∧ PyData.canLay0 (.str x) = true then some (match numOf x with
    | some n => .ok (.int n)
    | none => .ef a.BadText "row" row) else none
  | _ => none
def sp_number_of (P : Program) (w : World) (K : PySem.W.Frag) (a : Ad) : Sp := SpP (f_number_of a)
section
variable {X : Wd} {Φ : Iv} {Γ : Gm} {K : PySem.W.Frag} {P : Program} {w : World} {to te : TE} {x y : Str}
abbrev sgD (c : Nat) : D := .str ⟨#[c]⟩
theorem wk_str {N0 : Ads} {H : Hp} (x : Str) : SE.Wk N0 H (Its x) (x.cps.toList.map sgD) := fun N' H' s lv => by
  refine ⟨fun i d hd => ?_, by show x.cps.size ≤ _; simp⟩
  rw [List.getElem?_map] at hd
  cases hc : x.cps.toList[i]? with
  | none =>
    rw [hc] at hd
    cases hd
  | some c =>
    rw [hc] at hd
    cases hd
    have hi : i < x.cps.size := by
      have := (List.getElem?_eq_some_iff.mp hc).1
      simpa using this
    refine ⟨hi, fun v H'' hv => ?_⟩
    obtain ⟨rfl, c', h1, rfl⟩ := hv
    have : c' = c := by
      rw [← Array.getElem?_toList, hc] at h1
      exact (Option.some.inj h1).symm
    subst this
    exact ⟨Same.refl _, .str _⟩
theorem ei_seqS (h : Ev X Φ te Γ (.str x)) : EvI X Φ (iSeqU K te) Γ (x.cps.toList.map sgD) := fun L H σ c g R q => .inr (.inr (h L H σ c g _ fun v H2 e2 r2 => by
  cases r2
  exact ⟨x, rfl, q _ H2 e2 (wk_str x)⟩))
theorem od_notInS {c : Nat} : OpD (rNotInU K) (sgD c) (.str y) (.bool (!decide (c ∈ y.cps.toList))) := fun N H v u lv hv hu Q q => by
  cases hv
  cases hu
  exact .inr (.inr (.inr ⟨c, y, rfl, rfl, q _ H (Same.refl H) (.bl _)⟩))
theorem od_ixS {i : Int} {c : Nat} (hl : x.length ≤ 100000) (h : L2.atI x.cps.toList i = some c) : OpD (rIxU P w K) (.str x) (.int i) (sgD c) := fun N H v u lv hv hu Q q => by
  cases hv
  cases hu
  exact .inl (.inr (.inr ⟨x, i, c, rfl, rfl, Nat.le_trans hl (by decide), h, q _ H (Same.refl H) (.str _)⟩))
end
end Sp

set_option Elab.async false
set_option linter.all false
set_option maxRecDepth 100000
set_option maxHeartbeats 4000000
/-! Readings, printed by gen.py. -/
namespace Sp
open PySem L2 SM SR SD SE LamX
def t_number_of (P : Program) (w : World) (K : PySem.W.Frag) (a : Ad) (E : XK) : TS :=
  (tSeq (tIfS (tOr (tNot (tTest (tChain rLeI rLeI (tC (.int 1)) (tCB (rLenU K) (tCons (tVar 0) tNil)) (tC (.int 3))))) (tTest (tOp (rNeD K) (tLc (iSeqU K (tVar 0)) (gName 2) (tTest (tOp (rNotInU K) (tVar 2) (tC (.str "0123456789")))) (tVar 2) [2]) (tLst tNil)))) (tRaiseF a.BadText "row" E (tCons (tVar 1) tNil)) tNext) (tSeq (tIfS (tAnd (tTest (tOp (rEqD K) (tOp (rIxU P w K) (tVar 0) (tC (.int 0))) (tC (.str "0")))) (tTest (tOp (rNeD K) (tVar 0) (tC (.str "0"))))) (tRaiseF a.BadText "row" E (tCons (tVar 1) tNil)) tNext) (tRet (tCB rIntS (tCons (tVar 0) tNil)))))
abbrev n_number_of : List Str := ["word", "row", "sign"]
end Sp

set_option Elab.async false
set_option linter.all false
set_option maxRecDepth 100000
set_option maxHeartbeats 4000000
/-! number_of. -/
namespace Sp
open PySem L2 SM SR SD SE
section
variable {P : Program} {w : World} {K : PySem.W.Frag} {a : Ad}
theorem dig_in (c : Nat) : decide (c ∈ ("0123456789" : Str).cps.toList) = digB c := by
  have e : ("0123456789" : Str).cps.toList = [48, 49, 50, 51, 52, 53, 54, 55, 56, 57] := by decide +kernel
  rw [e]
  unfold digB
  rw [Bool.eq_iff_iff]
  simp only [List.mem_cons, List.not_mem_nil, or_false, decide_eq_true_eq, Bool.and_eq_true]
  omega
theorem sg_shd {x : Str} (h : PyData.canLay0 (.str x) = true) {c : Nat} (hc : c ∈ x.cps.toList) : Shd 0 (sgD c) := by
  refine ⟨?_, by simp [PyData.depth]⟩
  have h : x.cps.all (· < 0x110000) = true := h
  have : c < 0x110000 := by
    rw [← Array.all_toList, List.all_eq_true] at h
    simpa using h c hc
  show (#[c] : Array Nat).all (· < 0x110000) = true
  simpa using this
theorem atI_hdN {c : Nat} {cs : List Nat} : L2.atI (c :: cs) 0 = some c := by
  unfold L2.atI ixN
  rw [if_pos (by decide), if_pos (by simp)]
  rfl
theorem zero_str : ("0" : Str) = ⟨#[48]⟩ := by decide +kernel
theorem str_list {x y : Str} (h : x.cps.toList = y.cps.toList) : x = y := by
  cases x
  cases y
  exact congrArg Str.mk (Array.toList_inj.mp h)
theorem flt_all {p : Nat → Bool} : ∀ cs : List Nat, (cs.filter fun c => !p c).isEmpty = cs.all p
  | [] => rfl
  | c :: cs => by
    rw [List.filter_cons, List.all_cons]
    cases hq : p c with
    | true =>
      rw [← flt_all cs]
      simp
    | false => simp
theorem pure_number_of (vs : List V) (H : Hp) (Q : VK) (E : XK) (h : sp_number_of P w K a vs H Q E) : t_number_of P w K a E { nx := fun _ H' => Q .non H', rt := Q } (L2.start n_number_of vs) H := by
  obtain ⟨M, ds, lv, r, hr⟩ := h
  match ds, r, hr with
  | [.str x, .int row], r, hr =>
    by_cases hb : x.length ≤ 100000 ∧ 0 ≤ row ∧ row ≤ 10000 ∧ PyData.canLay0 (.str x) = true
    · have hs : f_number_of a [.str x, .int row] = some (match numOf x with
          | some n => .ok (.int n)
          | none => .ef a.BadText "row" row) := by
        simp only [f_number_of]
        rw [if_pos hb]
        try (cases numOf x <;> rfl)
      rw [hs] at hr
      refine sw_fin lv At0.nil (env_start At0.nil r (by simp)) ?_ hr
      have hlog : row.natAbs.log2 < 1000 := log_small (by
        have : row.natAbs ≤ 10000 := by omega
        exact Nat.lt_of_le_of_lt this (by decide))
      have len : Ev (wd M H) Iv.nil (tCB (rLenU K) (tCons (tVar 0) tNil)) [Sl.dat (.str x), Sl.dat (.int row), Sl.no] (.int x.length) := ev_cb (ea_cons (ev_var rfl) ea_nil) (cb_lenS hb.1)
      have hz : x.cps.toList.length < 100000 + 1 := by
        have : x.cps.toList.length = x.length := Array.length_toList
        omega
      by_cases h1 : 1 ≤ x.length ∧ x.length ≤ 3
      · have hx3 : x.cps.toList.length = x.length := Array.length_toList
        have lc : Ev (wd M H) Iv.nil (tLc (iSeqU K (tVar 0)) (gName 2) (tTest (tOp (rNotInU K) (tVar 2) (tC (.str "0123456789")))) (tVar 2) [2]) [Sl.dat (.str x), Sl.dat (.int row), Sl.no] (.list ((x.cps.toList.filter fun c => !digB c).map sgD)) :=
          ev_lc (xs := x.cps.toList) (enc := sgD) (fun c => !digB c) sgD (ei_seqS (ev_var rfl)) (by omega) fun c hc => ⟨_, tgw_name, et_eq (et_test (ev_op (ev_var rfl) (ev_str _) od_notInS)) (by rw [dig_in]), fun _ => ev_var rfl⟩
        have shc : SeqAt.shaped (.list ((x.cps.toList.filter fun c => !digB c).map sgD)) = true := (shd_lst (k := 0) fun d hd => by
          obtain ⟨c, hc, rfl⟩ := List.mem_map.mp hd
          exact sg_shd hb.2.2.2 (List.mem_filter.mp hc).1).ok
        have chn : EvT (wd M H) Iv.nil (tNot (tTest (tChain rLeI rLeI (tC (.int 1)) (tCB (rLenU K) (tCons (tVar 0) tNil)) (tC (.int 3))))) [Sl.dat (.str x), Sl.dat (.int row), Sl.no] false := et_eq (et_not (et_test (ev_chain (ev_int 1) len (ev_int 3) od_le fun _ => od_le))) (by
          have e1 : decide ((1 : Int) ≤ x.length) = true := decide_eq_true (by omega)
          have e2 : decide ((x.length : Int) ≤ 3) = true := decide_eq_true (by omega)
          rw [e1, e2]
          rfl)
        have shx : SeqAt.shaped (.str x) = true := (show Shd 0 (.str x) from ⟨hb.2.2.2, by simp [PyData.depth]⟩).ok
        cases hall : x.cps.toList.all digB with
        | false =>
          have hn : numOf x = none := by
            unfold numOf
            rw [if_neg fun z => by rw [hall] at z; exact absurd z.2.1 (by simp)]
          rw [hn] at hr
          refine sw_seq (N1 := fun _ => False) (sw_if (b := true) (et_or chn fun _ => et_eq (et_test (ev_op lc (ev_lst ea_nil (by simp)) (od_neNilL shc))) ?_) (fun _ => sw_raiseF (ea_cons (ev_var rfl) ea_nil) hlog hr) nofun) fun _ z => z.elim
          rw [show ((x.cps.toList.filter fun c => !digB c).map sgD).isEmpty = (x.cps.toList.filter fun c => !digB c).isEmpty by simp, flt_all, hall]
          rfl
        | true =>
          refine sw_then (sw_if (b := false) (et_or chn fun _ => et_eq (et_test (ev_op lc (ev_lst ea_nil (by simp)) (od_neNilL shc))) ?_) nofun fun _ => sw_next rfl) ?_
          · rw [show ((x.cps.toList.filter fun c => !digB c).map sgD).isEmpty = (x.cps.toList.filter fun c => !digB c).isEmpty by simp, flt_all, hall]
            rfl
          cases hcs : x.cps.toList with
          | nil =>
            rw [hcs] at hx3
            simp at hx3
            omega
          | cons c cs =>
            have shz : SeqAt.shaped (.str "0") = true := by decide +kernel
            have hc : c ∈ x.cps.toList := by rw [hcs]; exact List.mem_cons_self
            have e1 : PyData.eqv (sgD c) (.str "0") = decide (c = 48) := by
              rw [zero_str, Bool.eq_iff_iff]
              simp only [PyData.eqv, beq_iff_eq, decide_eq_true_eq]
              constructor
              · intro z
                have z := congrArg (fun s : Str => s.cps.toList) z
                simpa using z
              · intro z
                rw [z]
            have e2 : PyData.eqv (.str x) (.str "0") = decide (x.cps.toList = [48]) := by
              rw [Bool.eq_iff_iff]
              simp only [PyData.eqv, beq_iff_eq, decide_eq_true_eq]
              constructor
              · intro z
                rw [z, zero_str]
              · intro z
                exact str_list (by rw [z, zero_str])
            have two : EvT (wd M H) Iv.nil (tAnd (tTest (tOp (rEqD K) (tOp (rIxU P w K) (tVar 0) (tC (.int 0))) (tC (.str "0")))) (tTest (tOp (rNeD K) (tVar 0) (tC (.str "0"))))) [Sl.dat (.str x), Sl.dat (.int row), Sl.no] (decide (c = 48) && !decide (x.cps.toList = [48])) :=
              et_and (et_eq (et_test (ev_op (ev_op (ev_var rfl) (ev_int 0) (od_ixS hb.1 (by rw [hcs]; exact atI_hdN))) (ev_str "0") (od_eq (sg_shd hb.2.2.2 hc).ok shz))) e1) fun _ => et_eq (et_test (ev_op (ev_var rfl) (ev_str "0") (od_ne shx shz))) (by rw [e2])
            cases hbb : decide (c = 48) && !decide (x.cps.toList = [48]) with
            | true =>
              have hn : numOf x = none := by
                unfold numOf
                rw [if_neg fun z => by
                  simp only [Bool.and_eq_true, decide_eq_true_eq, Bool.not_eq_true', decide_eq_false_iff_not] at hbb
                  exact hbb.2 (z.2.2 (by rw [hcs, hbb.1]; rfl))]
              rw [hn] at hr
              exact sw_seq (N1 := fun _ => False) (sw_if (b := true) (et_eq two hbb) (fun _ => sw_raiseF (ea_cons (ev_var rfl) ea_nil) hlog hr) nofun) fun _ z => z.elim
            | false =>
              have hd := PySem.intText_digits (x := x) (fun c hc => by
                have := List.all_eq_true.mp hall c hc
                simp only [digB, Bool.and_eq_true, decide_eq_true_eq] at this
                exact this) (by rw [hcs]; simp) (by omega)
              have hn : numOf x = intText? x := by
                unfold numOf
                rw [if_pos ⟨h1, hall, fun z => by
                  rw [hcs] at z
                  have z : c = 48 := by simpa using z
                  simp only [Bool.and_eq_false_imp, decide_eq_true_eq, Bool.not_eq_false', decide_eq_true_eq] at hbb
                  exact hbb z⟩]
              rw [hn, hd] at hr
              refine sw_then (sw_if (b := false) (et_eq two hbb) nofun fun _ => sw_next rfl) ?_
              exact sw_ret (ev_cb (ea_cons (ev_var rfl) ea_nil) (cb_intS hd (by omega))) (by rw [hn, hd])
      · have hn : numOf x = none := by
          unfold numOf
          rw [if_neg fun z => h1 z.1]
        rw [hn] at hr
        refine sw_seq (N1 := fun _ => False) (sw_if (b := true) (et_or (a := true) (b := false) (et_eq (et_not (et_test (ev_chain (ev_int 1) len (ev_int 3) od_le fun _ => od_le))) ?_) nofun) (fun _ => sw_raiseF (ea_cons (ev_var rfl) ea_nil) hlog hr) nofun) fun _ z => z.elim
        by_cases e : 1 ≤ x.length
        · have e2 : decide ((x.length : Int) ≤ 3) = false := decide_eq_false (by omega)
          rw [e2]
          simp
        · have e2 : decide ((1 : Int) ≤ x.length) = false := decide_eq_false (by omega)
          rw [e2]
          rfl
    · have hs : f_number_of a [.str x, .int row] = none := by
        simp only [f_number_of]
        rw [if_neg hb]
      rw [hs] at hr
      exact hr.elim
end
end Sp

set_option Elab.async false
set_option linter.all false
set_option maxRecDepth 100000
set_option maxHeartbeats 4000000
/-! Numbers as words; the rows of steps. -/
namespace SR
open PySem PySem.Spec PyProof.Rows L2 SM
def rStrU : List V → Hp → VK → Prop := fun xs H Q => rStrI xs H Q ∨ ∃ a, xs = [.str a] ∧ Q (.str a) H
theorem call_strU {X : Cx} : CallR X (.type "str") rStrU := by
  intro pins s σ H xs us Q I r h
  rcases h with h | h
  · exact call_str_int pins s σ H xs us Q I r h
  · exact SkE.call_str_str pins s σ H xs us Q I r h
end SR
namespace Sp
open PySem L2 SM SR SD SE
abbrev numT (n : Int) : Str := Str.ofString (toString n)
def okW (n : Nat) : Bool := decide (numOf (numT n) = some (n : Int)) && (decide ((numT n).length ≤ 3) && (decide (1 ≤ (numT n).length) && ((numT n).cps.toList.all fun c => digB c)))
theorem okW_all : ∀ n < 1000, okW n = true := by
  have h : (List.range 1000).all okW = true := by decide +kernel
  intro n hn
  exact List.all_eq_true.mp h n (List.mem_range.mpr hn)
theorem cb_strU {d : D} {s : Str} (h : (∃ i : Int, d = .int i ∧ i.natAbs.log2 < 1920 ∧ s = numT i) ∨ d = .str s) : CbD rStrU [d] (.str s) := fun N H vs lv r Q q => by
  cases r with
  | cons r1 r2 =>
    cases r2
    rcases h with ⟨i, rfl, hl, rfl⟩ | rfl
    · cases r1
      exact .inl ⟨i, rfl, hl, q _ H (Same.refl H) (.str _)⟩
    · cases r1
      exact .inr ⟨_, rfl, q _ H (Same.refl H) (.str _)⟩
end Sp

set_option Elab.async false
set_option linter.all false
set_option maxRecDepth 100000
set_option maxHeartbeats 4000000
/-! The rows of steps; the promise of written. -/
namespace Sp
open PySem L2 SM SR SD SE
def partsD : D → List D
  | .tuple ps => ps
  | _ => []
def partT : D → Str
  | .int i => numT i
  | .str x => x
  | _ => ""
/-- the row of a step, the text of steps -/
def rowT (d : D) : Str := Txt.join " " ((partsD d).map partT)
def textT (ds : List D) : Str := Txt.join "\n" (ds.map rowT)
theorem joinL_len (S : List Nat) : ∀ ps : List (List Nat), (TL.joinL S ps).length ≤ (ps.map List.length).sum + ps.length * S.length
  | [] => Nat.zero_le _
  | [p] => by
    show p.length ≤ _
    simp
  | p :: q :: r => by
    show (p ++ (S ++ TL.joinL S (q :: r))).length ≤ _
    have := joinL_len S (q :: r)
    rw [List.length_append, List.length_append]
    simp only [List.map_cons, List.sum_cons, List.length_cons, Nat.add_mul] at this ⊢
    omega
theorem len_tl (x : Str) : (TL.tl x).length = x.length := Array.length_toList
theorem join_len (y : Str) (ps : List Str) : (Txt.join y ps).length ≤ (ps.map (·.length)).sum + ps.length * y.length := by
  rw [TL.join_eq, ← len_tl, TL.tl_join]
  refine Nat.le_trans (joinL_len _ _) ?_
  rw [List.map_map, List.length_map, len_tl]
  have : (ps.map (List.length ∘ TL.tl)) = ps.map (·.length) := List.map_congr_left fun x _ => len_tl x
  rw [this]
  exact Nat.le_refl _
/-- a step's parts -/
theorem step_parts {d : D} (h : isStep d = true) : ∃ (x : Str) (ns : List Nat), x ∈ (["find", "look", "put", "take", "mark", "next", "relay", "stop", "mend"] : List Str) ∧ sizesP.lookup x = some (ns.length : Int) ∧ ns.length ≤ 2 ∧ (∀ n ∈ ns, n < 1000) ∧ d = .tuple (.str x :: ns.map dInt) := by
  unfold isStep at h
  split at h
  · rename_i x ps
    simp only [Bool.and_eq_true] at h
    obtain ⟨h1, h2⟩ := h
    cases hl : sizesP.lookup x with
    | none =>
      rw [hl] at h1
      cases h1
    | some n =>
      rw [hl] at h1
      have h1 : n = (ps.length : Int) := of_decide_eq_true h1
      have hm := lookup_mem hl
      have nums : ∀ qs : List D, (qs.all fun p => isNum p 0 999) = true → ∃ ns : List Nat, (∀ n ∈ ns, n < 1000) ∧ qs = ns.map dInt ∧ ns.length = qs.length := by
        intro qs
        induction qs with
        | nil => intro _; exact ⟨[], nofun, rfl, rfl⟩
        | cons q qs ih =>
          intro hq
          rw [List.all_cons, Bool.and_eq_true] at hq
          obtain ⟨ns, n1, n2, n3⟩ := ih hq.2
          cases q with
          | int i =>
            have hi := hq.1
            simp only [isNum, Bool.and_eq_true, decide_eq_true_eq] at hi
            refine ⟨i.toNat :: ns, fun m hm => ?_, ?_, by simp [n3]⟩
            · rcases List.mem_cons.mp hm with rfl | hm
              · omega
              · exact n1 m hm
            · rw [List.map_cons, ← n2]
              have : (i.toNat : Int) = i := by omega
              rw [show dInt i.toNat = PyData.int (i.toNat : Int) from rfl, this]
          | _ => simp [isNum] at hq
      obtain ⟨ns, n1, n2, n3⟩ := nums ps h2
      refine ⟨x, ns, ?_, by rw [hl, h1, n3], ?_, n1, by rw [n2]⟩
      · simp only [sizesP, List.mem_cons, Prod.mk.injEq, List.not_mem_nil, or_false] at hm
        rcases hm with ⟨rfl, _⟩ | ⟨rfl, _⟩ | ⟨rfl, _⟩ | ⟨rfl, _⟩ | ⟨rfl, _⟩ | ⟨rfl, _⟩ | ⟨rfl, _⟩ | ⟨rfl, _⟩ | ⟨rfl, _⟩ <;> simp
      · simp only [sizesP, List.mem_cons, Prod.mk.injEq, List.not_mem_nil, or_false] at hm
        rw [n3]
        rcases hm with ⟨_, e⟩ | ⟨_, e⟩ | ⟨_, e⟩ | ⟨_, e⟩ | ⟨_, e⟩ | ⟨_, e⟩ | ⟨_, e⟩ | ⟨_, e⟩ | ⟨_, e⟩ <;> omega
  · cases h
end Sp

set_option Elab.async false
set_option linter.all false
set_option maxRecDepth 100000
set_option maxHeartbeats 4000000
/-! Readings, printed by gen.py. -/
namespace Sp
open PySem L2 SM SR SD SE LamX
end Sp

set_option Elab.async false
set_option linter.all false
set_option maxRecDepth 100000
set_option maxHeartbeats 4000000
/-! written, in full. -/
namespace Sp
open PySem L2 SM SR SD SE
section
variable {P : Program} {w : World} {K : PySem.W.Frag} {a : Ad}
theorem numT_len {n : Nat} (h : n < 1000) : (numT n).length ≤ 3 := by
  have := okW_all n h
  simp only [okW, Bool.and_eq_true, decide_eq_true_eq] at this
  exact this.2.1
theorem word_len : ∀ x ∈ (["find", "look", "put", "take", "mark", "next", "relay", "stop", "mend"] : List Str), x.length ≤ 5 := by decide +kernel
theorem sum_le {α : Type} {f : α → Nat} {c : Nat} : ∀ {xs : List α}, (∀ x ∈ xs, f x ≤ c) → (xs.map f).sum ≤ xs.length * c
  | [], _ => by simp
  | x :: xs, h => by
    have h1 := h x List.mem_cons_self
    have h2 := sum_le (xs := xs) fun y hy => h y (List.mem_cons_of_mem _ hy)
    rw [List.map_cons, List.sum_cons, List.length_cons, Nat.add_mul]
    omega
theorem sparts_len {d : D} (h : isStep d = true) : (partsD d).length ≤ 3 ∧ ∀ p ∈ partsD d, (partT p).length ≤ 5 := by
  obtain ⟨x, ns, h1, h2, h3, h4, rfl⟩ := step_parts h
  refine ⟨by simp [partsD]; omega, fun p hp => ?_⟩
  rcases List.mem_cons.mp hp with rfl | hp
  · exact word_len x h1
  · obtain ⟨n, hn, rfl⟩ := List.mem_map.mp hp
    have := numT_len (h4 n hn)
    exact Nat.le_trans this (by decide)
theorem row_len {d : D} (h : isStep d = true) : ((partsD d).map fun p => (partT p).length).sum + (partsD d).length * 1 ≤ 18 ∧ (rowT d).length ≤ 18 := by
  obtain ⟨h1, h2⟩ := sparts_len h
  have h3 := sum_le h2
  have h4 := join_len (" " : Str) ((partsD d).map partT)
  rw [List.map_map, List.length_map] at h4
  have h5 : (" " : Str).length = 1 := by decide +kernel
  rw [h5] at h4
  have h6 : ((partsD d).map ((fun x : Str => x.length) ∘ partT)).sum = ((partsD d).map fun p => (partT p).length).sum := rfl
  rw [h6] at h4
  refine ⟨by omega, Nat.le_trans h4 (by omega)⟩
end
end Sp

set_option Elab.async false
set_option linter.all false
set_option maxRecDepth 100000
set_option maxHeartbeats 4000000
/-! Texts of any signs: slices, split, join; how long they are. -/
namespace Sp
open PySem L2 SM SR SD SE
def lay (x : Str) : Prop := ∀ c ∈ x.cps.toList, c < 0x110000
theorem lay_iff {x : Str} : PyData.canLay0 (.str x) = true ↔ lay x := by
  show x.cps.all (· < 0x110000) = true ↔ _
  rw [← Array.all_toList, List.all_eq_true]
  exact ⟨fun h c hc => of_decide_eq_true (h c hc), fun h c hc => decide_eq_true (h c hc)⟩
theorem lay_shd {x : Str} (h : lay x) : Shd 0 (.str x) := ⟨lay_iff.mpr h, by simp [PyData.depth]⟩
theorem lay_app {x y : Str} (h1 : lay x) (h2 : lay y) : lay (x ++ y) := fun c hc => by
  have e : TL.tl (x ++ y) = TL.tl x ++ TL.tl y := TL.tl_append x y
  have hc : c ∈ TL.tl (x ++ y) := hc
  rw [e] at hc
  rcases List.mem_append.mp hc with hc | hc
  · exact h1 c hc
  · exact h2 c hc
theorem len_app {x y : Str} : (x ++ y).length = x.length + y.length := by
  rw [← len_tl, TL.tl_append, List.length_append, len_tl, len_tl]
theorem lay_cut {x : Str} (h : lay x) (lo hi : Option Int) : lay (cutS x lo hi) := fun c hc => by
  have hc : c ∈ (x.cps.toList.drop (HT.sIx x.length 0 lo)).take (HT.sIx x.length x.length hi - HT.sIx x.length 0 lo) := by simpa [cutS] using hc
  exact h c (List.mem_of_mem_drop (List.mem_of_mem_take hc))
section
variable {X : Wd} {Φ : Iv} {Γ : Gm} {K : PySem.W.Frag} {te : TE} {tl th : TO} {x : Str} {lo hi : Option Int}
theorem ev_slS (h : Ev X Φ te Γ (.str x)) (h1 : EvO X Φ tl Γ lo) (h2 : EvO X Φ th Γ hi) (hl : x.length ≤ 100000) : Ev X Φ (tSl (rSlU K) te tl th) Γ (.str (cutS x lo hi)) := fun L H σ c g Q q =>
  h L H σ c g _ fun v Ha e1 r1 => h1 L Ha σ (c.up e1) (g.up e1) _ fun Hb e2 => h2 L Hb σ (c.up (e1.trans e2)) (g.up (e1.trans e2)) _ fun Hc e3 => by
    cases r1
    exact .inr (.inr ⟨x, rfl, Nat.le_trans hl (by decide), q _ Hc ((e1.trans e2).trans e3) (.str _)⟩)
end
/-! ### split -/
theorem spl_facts {s : Nat} : ∀ (xs acc : List Nat), TL.spl [s] 0 acc xs ≠ [] ∧ ((TL.spl [s] 0 acc xs).map List.length).sum + (TL.spl [s] 0 acc xs).length = acc.length + xs.length + 1 ∧ ∀ p ∈ TL.spl [s] 0 acc xs, ∀ c ∈ p, c ∈ acc ∨ c ∈ xs
  | [], acc => ⟨by simp [TL.spl], by simp [TL.spl], fun p hp c hc => by
    rw [TL.spl_nil, List.mem_singleton] at hp
    subst hp
    exact .inl hc⟩
  | c :: r, acc => by
    cases hp : TL.pre [s] (c :: r) with
    | true =>
      rw [TL.spl_hit hp]
      obtain ⟨h1, h2, h3⟩ := spl_facts (s := s) r []
      have e : [s].length - 1 = 0 := rfl
      rw [e]
      refine ⟨by simp, ?_, fun p hp c' hc => ?_⟩
      · simp only [List.map_cons, List.sum_cons, List.length_cons, List.length_nil] at h2 ⊢
        omega
      · rcases List.mem_cons.mp hp with rfl | hp
        · exact .inl hc
        · rcases h3 p hp c' hc with h | h
          · cases h
          · exact .inr (List.mem_cons_of_mem _ h)
    | false =>
      rw [TL.spl_miss hp]
      obtain ⟨h1, h2, h3⟩ := spl_facts (s := s) r (acc ++ [c])
      refine ⟨h1, ?_, fun p hp c' hc => ?_⟩
      · rw [h2]
        simp only [List.length_append, List.length_cons, List.length_nil]
        omega
      · rcases h3 p hp c' hc with h | h
        · rcases List.mem_append.mp h with h | h
          · exact .inl h
          · rw [List.mem_singleton.mp h]
            exact .inr List.mem_cons_self
        · exact .inr (List.mem_cons_of_mem _ h)
/-- signs and separators -/
def tot (ps : List Str) : Nat := (ps.map (·.length)).sum + ps.length
theorem tot_nil : tot [] = 0 := rfl
theorem tot_cons (p : Str) (ps : List Str) : tot (p :: ps) = p.length + 1 + tot ps := by
  simp only [tot, List.map_cons, List.sum_cons, List.length_cons]
  omega
theorem tot_app (ps qs : List Str) : tot (ps ++ qs) = tot ps + tot qs := by
  simp only [tot, List.map_append, List.sum_append, List.length_append]
  omega
theorem tot_take_drop (ps : List Str) (k : Nat) : tot (ps.take k) + tot (ps.drop k) = tot ps := by
  rw [← tot_app, List.take_append_drop]
theorem split_facts {x y : Str} {s : Nat} (ey : TL.tl y = [s]) (hk : y.cps.all (· < 256) = true) : Txt.split x y ≠ [] ∧ tot (Txt.split x y) = x.length + 1 ∧ ∀ p ∈ Txt.split x y, ∀ c ∈ TL.tl p, c ∈ TL.tl x := by
  have e := TL.split_spl x y (by rw [ey]; simp) (TL.kind_ok hk)
  rw [ey] at e
  obtain ⟨h1, h2, h3⟩ := spl_facts (s := s) (TL.tl x) []
  rw [← e] at h1 h2 h3
  refine ⟨fun z => h1 (by rw [z]; rfl), ?_, fun p hp c hc => ?_⟩
  · rw [List.map_map, List.length_map, len_tl] at h2
    have : ((Txt.split x y).map (List.length ∘ TL.tl)) = (Txt.split x y).map (·.length) := List.map_congr_left fun z _ => len_tl z
    rw [this] at h2
    simp only [tot, List.length_nil] at h2 ⊢
    omega
  · rcases h3 (TL.tl p) (List.mem_map.mpr ⟨p, hp, rfl⟩) c hc with h | h
    · cases h
    · exact h
theorem split_nl (x : Str) : Txt.split x "\n" ≠ [] ∧ tot (Txt.split x "\n") = x.length + 1 ∧ ∀ p ∈ Txt.split x "\n", ∀ c ∈ TL.tl p, c ∈ TL.tl x := split_facts (s := 10) (by decide +kernel) (by decide +kernel)
theorem split_bl (x : Str) : Txt.split x " " ≠ [] ∧ tot (Txt.split x " ") = x.length + 1 ∧ ∀ p ∈ Txt.split x " ", ∀ c ∈ TL.tl p, c ∈ TL.tl x := split_facts (s := 32) (by decide +kernel) (by decide +kernel)
theorem lay_nl {x : Str} (h : lay x) : ∀ p ∈ Txt.split x "\n", lay p := fun p hp c hc => h c ((split_nl x).2.2 p hp c hc)
theorem lay_bl {x : Str} (h : lay x) : ∀ p ∈ Txt.split x " ", lay p := fun p hp c hc => h c ((split_bl x).2.2 p hp c hc)
theorem tot_mem {p : Str} : ∀ {ps : List Str}, p ∈ ps → p.length + 1 ≤ tot ps
  | q :: qs, h => by
    rw [tot_cons]
    rcases List.mem_cons.mp h with rfl | h
    · omega
    · have := tot_mem h
      omega
theorem tot_len (ps : List Str) : ps.length ≤ tot ps := by
  simp only [tot]
  omega
/-! ### join -/
theorem join_tot (y : Str) (hy : y.length = 1) (ps : List Str) : (Txt.join y ps).length ≤ tot ps := by
  have := join_len y ps
  rw [hy] at this
  simp only [tot]
  omega
theorem one_nl : ("\n" : Str).length = 1 := by decide +kernel
theorem one_bl : (" " : Str).length = 1 := by decide +kernel
theorem lay_join {y : Str} {ps : List Str} (hy : lay y) (h : ∀ p ∈ ps, lay p) : lay (Txt.join y ps) := fun c hc => by
  have hc : c ∈ TL.tl (Txt.join y ps) := hc
  rw [TL.join_eq, TL.tl_join] at hc
  rcases joinL_mem' _ hc with hc | ⟨p, hp, hc⟩
  · exact hy c hc
  · obtain ⟨q, hq, rfl⟩ := List.mem_map.mp hp
    exact h q hq c hc
where
  joinL_mem' {S : List Nat} {c : Nat} : ∀ ps : List (List Nat), c ∈ TL.joinL S ps → c ∈ S ∨ ∃ p ∈ ps, c ∈ p
  | [], h => by cases h
  | [p], h => .inr ⟨p, List.mem_cons_self, by simpa [TL.joinL] using h⟩
  | p :: q :: r, h => by
    have h : c ∈ p ++ (S ++ TL.joinL S (q :: r)) := by simpa [TL.joinL, List.append_assoc] using h
    rcases List.mem_append.mp h with h | h
    · exact .inr ⟨p, List.mem_cons_self, h⟩
    · rcases List.mem_append.mp h with h | h
      · exact .inl h
      · rcases joinL_mem' (q :: r) h with h | ⟨s, hs, h⟩
        · exact .inl h
        · exact .inr ⟨s, List.mem_cons_of_mem _ hs, h⟩
theorem lay_nlc : lay "\n" := by
  have : ∀ c ∈ ("\n" : Str).cps.toList, c < 0x110000 := by decide +kernel
  exact this
theorem lay_blc : lay " " := by
  have : ∀ c ∈ (" " : Str).cps.toList, c < 0x110000 := by decide +kernel
  exact this
section
variable {X : Wd} {Φ : Iv} {Γ : Gm} {K : PySem.W.Frag} {to te : TE} {y : Str} {ps : List Str}
theorem ev_join1 (ho : Ev X Φ to Γ (.str y)) (he : Ev X Φ te Γ (.list (ps.map .str))) (hy : y.length = 1) (hl : tot ps ≤ 1000000) : Ev X Φ (tM1 (rJoin1 K) to te) Γ (.str (Txt.join y ps)) := by
  refine ev_join ho he ?_
  rw [hy]
  simp only [tot] at hl
  omega
end
end Sp

set_option Elab.async false
set_option linter.all false
set_option maxRecDepth 100000
set_option maxHeartbeats 4000000
/-! A comprehension whose item is told of the states of the def that it stands in; the word of a lambda that is kept. -/
namespace SL
open PySem PySem.Spec PyProof.Rows L2 LamX
section
variable {X : Cx}
end
end SL
namespace Sp
open PySem PySem.Spec PyProof.Rows L2 SM SR SD SE LamX
end Sp

set_option Elab.async false
set_option linter.all false
set_option maxRecDepth 100000
set_option maxHeartbeats 4000000
/-! A comprehension whose item may raise. -/
namespace SL
open PySem PySem.Spec PyProof.Rows L2 LamX
section
variable {X : Cx}
theorem Okxe {z : Value → Shared → Prop} (ok : X.Ok) : ({ X with xe := z } : Cx).Ok :=
  ⟨ok.mod, ok.kind, ok.glob, ok.blt, ok.above, ok.inj, ok.has, ok.cab, ok.hd, ok.frames, ok.stk, ok.exf, ok.bs, ok.bsz, ok.noex, ok.exfs, ok.funs, ok.frf⟩
theorem Okex {z : Value → Shared → Prop} (ok : ({ X with xe := z } : Cx).Ok) : X.Ok :=
  ⟨ok.mod, ok.kind, ok.glob, ok.blt, ok.above, ok.inj, ok.has, ok.cab, ok.hd, ok.frames, ok.stk, ok.exf, ok.bs, ok.bsz, ok.noex, ok.exfs, ok.funs, ok.frf⟩
theorem toXe {pins : List (Addr × Obj)} {σ : L2.St} {H : Hp} {s : Shared} (z : Value → Shared → Prop) (I : Inv X pins σ H s) : Inv { X with xe := z } pins σ H s :=
  ⟨Okxe I.ok, I.os, I.bare, I.base, I.loc, I.cell, I.free, I.freeC, I.pin, I.hok, I.len⟩
theorem ofXe {pins : List (Addr × Obj)} {σ : L2.St} {H : Hp} {s : Shared} {z : Value → Shared → Prop} (I : Inv { X with xe := z } pins σ H s) : Inv X pins σ H s :=
  ⟨Okex I.ok, I.os, I.bare, I.base, I.loc, I.cell, I.free, I.freeC, I.pin, I.hok, I.len⟩
/-- what leaves an item -/
abbrev blkX (X : Cx) (E : XK) (s : Shared) (H : Hp) (scope : Scope) (ce : Env) (fp : List Addr) : Cx :=
  { X.blk s H scope ce fp with xe := fun u s' => ∃ pins σ H' sB, Inv (X.blk s H scope ce fp) pins σ H' sB ∧ L2.CX X.prog X.w X.stack H' sB E u s' }
theorem pass_blk {E : XK} {s : Shared} {H : Hp} {scope : Scope} {ce : Env} {fp : List Addr} : Passes (L2.CX X.prog X.w) (blkX X E s H scope ce fp) E := fun pins σ H' sB e s' I c => ⟨pins, σ, H', sB, ofXe I, c⟩
def compPostX (M : Model) (A : Around) (E : Value → Shared → Prop) (Q : Value → Shared → Prop) (acc : Value) (cenv : Env) (r : Result) (s' : Shared) : Prop :=
  match r with
  | .ok _ => ∃ m, s'.heap.Ns cenv.locals m ∧ ∀ h', Heap.SameBut cenv.locals s'.heap h' → Q acc { s' with heap := h' }
  | .error x => ∃ m, s'.heap.Ns cenv.locals m ∧ ∀ h', Heap.SameBut cenv.locals s'.heap h' → wpAny M A (passOn "comprehension.variables-let-go" x cenv : Sem Value) (fun _ _ => False) E { s' with heap := h' }
theorem wpAny_compX {M : Model} {A : Around} {E : Value → Shared → Prop} {s : Shared} {env : Env} {e : Expr} {scope : Scope} {pos : Pos} {newAcc first : Sem Value} {g : Comprehension} {gs : List Comprehension} {cl : List (Str × Addr)}
    {Q : Value → Shared → Prop}
    (hcl : clausesOf e = g :: gs) (hs : ∀ x, foldedSetIterable g.iter env x = pure x) (hclos : closureFor scope env = pure cl)
    (hkind : scope.kind = .function) (hnames : ∀ x ∈ scope.names, x.2 = .local → scope.names.lookup x.1 = some .local)
    (h : wpAny M A first (fun x s1 => wpAny M A (pyIter x) (fun it s2 => wpAny M A newAcc (fun acc s3 =>
      wpAny M A (newFunctionEnv scope env.globals cl [] env.qual none .none (some env)) (fun cenv s4 =>
        codeAny M A (.compStart e 0 it acc { cenv with scope := relabel scope env }) (compPostX M A E Q acc { cenv with scope := relabel scope env }) s4) E s3) E s2) E s1) E s) :
    wpAny M A (comprehension e scope env pos newAcc false first none) Q E s := by
  unfold comprehension
  rw [hclos, hcl]
  refine wpAny_bind (wpAny_mono h (fun x s1 h1 => wpAny_bind (wpAny_standAt (wpAny_bind (wpAny_of_eq (hs x) (wpAny_bind (wpAny_holding (wpAny_mono h1 (fun it s2 h2 =>
    wpAny_standIf (wpAny_bind (wpAny_mono h2 (fun acc s3 h3 => wpAny_bind (wpAny_pure (wpAny_bind (wpAny_mono h3 (fun cenv s4 h4 => ?_) fun _ _ z => z)))) fun _ _ z => z)))
      fun _ _ z => z))))))) fun _ _ z => z)
  dsimp only
  have hv : ∀ x ∈ (scope.names.filter fun x => (x.2 == .local || x.2 == .cell) && x.1 != (".0" : Str)).reverse, x.2 = .local →
      Env.kindOf { cenv with scope := relabel scope env } x.1 = some .local := fun x hx hl => lookup_relabel_local (hnames x (List.mem_filter.mp (List.mem_reverse.mp hx)).1 hl)
  refine wpAny_holding (wpAny_bind (wpAny_attempt (wpAny_holding (wpAny_run (codeAny_mono h4 fun r s' hr => ?_)))))
  cases r with
  | ok f =>
    obtain ⟨m, hn, hr⟩ := hr
    exact wpAny_bind (wpAny_holding (wpAny_comp_letGo (cenv := { cenv with scope := relabel scope env }) hkind _ s' m hv hn fun h' m' _ hs' => wpAny_pure (hr h' hs')))
  | error x =>
    obtain ⟨m, hn, hr⟩ := hr
    exact wpAny_bind (wpAny_holding (wpAny_comp_letGo (cenv := { cenv with scope := relabel scope env }) hkind _ s' m hv hn fun h' m' _ hs' => wpAny_mono (hr h' hs') (fun _ _ f => f.elim) fun _ _ y => y))
theorem frames_at {h h' B B' : Heap} : ∀ {l : List Env}, h.FunFrames B l → (∀ L ∈ frs l, B'.get? L = none) → (∀ L ∈ frs l, h'.get? L = h.get? L) → h'.FunFrames B' l
  | [], _, _, _ => trivial
  | env :: l, ⟨hk, ⟨L, o, hf, _, ho, hd⟩, hr⟩, hn, he => by
    have hL : L ∈ frs (env :: l) := List.mem_filterMap.mpr ⟨env, List.mem_cons_self, hf⟩
    have up : ∀ b ∈ frs l, b ∈ frs (env :: l) := fun b hb => by
      obtain ⟨e, he, q⟩ := List.mem_filterMap.mp hb
      exact List.mem_filterMap.mpr ⟨e, List.mem_cons_of_mem _ he, q⟩
    exact ⟨hk, ⟨L, o, hf, hn L hL, (he L hL).trans ho, hd⟩, frames_at hr (fun b hb => hn b (up b hb)) fun b hb => he b (up b hb)⟩
/-- an exception that flies from this frame's own hand, as a call's -/
theorem heldX {W : WX} {E : XK} {pins : List (Addr × Obj)} {σ : L2.St} {H H' : Hp} {s s' : Shared} {a : Addr} {B : Heap} {cls : Value} {d : Option Addr} (I : Inv X pins σ H s) (hW : ∀ cls d H', E cls d H' → W cls d σ H')
    (fl : HandSPX.HeldZ B X.stack a (Zc cls d) X.env.locals s'.heap) (hok : HOk X.prog X.w H' B) (ub : UB (frs X.stack) H H' s.heap B s'.heap) (na : H' a = none) (os : s'.os = s.os) (ag : AllBare s'.gens) (hE : E cls d H') : XE X W (.ref a) s' := by
  obtain ⟨G, g1, g2⟩ := restrict s'.heap fun b => (B.get? b).isSome || decide (b ∈ frs X.stack)
  have st : B.StaysIn s'.heap := fl.1
  have gB : ∀ b o, B.get? b = some o → G.get? b = some o := fun b o e => by
    rw [g1 b (by simp [e])]
    exact st b o e
  have gF : ∀ b, b ∈ frs X.stack → G.get? b = s'.heap.get? b := fun b hb => g1 b (by simp [hb])
  have og : ∀ b o, G.get? b = some o → s'.heap.get? b = some o ∧ ((B.get? b).isSome = true ∨ b ∈ frs X.stack) := fun b o e => by
    cases q : ((B.get? b).isSome || decide (b ∈ frs X.stack)) with
    | false => rw [g2 b q] at e; cases e
    | true =>
      rw [g1 b q] at e
      exact ⟨e, by simpa [Bool.or_eq_true] using q⟩
  refine ⟨a, B, { s with heap := G, gens := s'.gens, drawn := s'.drawn, toks := s'.toks }, pins, σ, H', cls, d, rfl, ?_, fun b o e hb => ?_, Heap.UpToSlots.of_keeps fun b o e => (og b o e).1, .inr (.inr fl), na, os, ag, hW _ _ _ hE⟩
  · refine I.call (ch := []) ⟨fun b o e n hb _ => gB b o (ub.keep b o e n hb), fun b o e n hb _ => ?_, fun b o e n _ => ub.free b o e n, fun b o e _ => ?_, ub.tups, ub.frzs, ub.tbls⟩ (hok.kept gB) ag (fun _ z => nomatch z)
    · obtain ⟨sl, q⟩ := ub.slot b o e hb
      exact ⟨sl, by rw [gF b hb]; exact q⟩
    · by_cases hb : b ∈ frs X.stack
      · obtain ⟨sl, q⟩ := ub.slot b o e hb
        exact ⟨_, by rw [gF b hb]; exact q⟩
      · obtain ⟨o', q⟩ := ub.there b o e hb
        exact ⟨o', gB b o' q⟩
  · obtain ⟨e', h⟩ := og b o e
    rcases h with h | h
    · obtain ⟨o', q⟩ := Option.isSome_iff_exists.mp h
      have z := st b o' q
      rw [e'] at z; cases z
      exact q
    · exact absurd h hb
/-- the item's exception leaves the comprehension -/
theorem landX {E : XK} {pins pB : List (Addr × Obj)} {σ σB : L2.St} {H3 HB : Hp} {s3 sB s' : Shared} {scope : Scope} {cl : List (Str × Addr)} {C : Addr} {fp : List Addr} {u : Value} {Q : Value → Shared → Prop} {acc : Value} (tk : Takes X fun cls d _ H => E cls d H)
    (hs : X.stack = X.env :: X.outer) (hf : X.env.frame = some X.env.locals) (I3 : Inv X pins σ H3 s3) (hC : s3.heap.objs.size ≤ C) (hfp : ∀ b ∈ fp, FpOk X pins H3 b)
    (IB : Inv (X.blk s3 H3 scope (compEnvC scope cl C X.env) fp) pB σB HB sB) (c : L2.CX X.prog X.w X.stack HB sB E u s') :
    notedBy (model X.prog X.w) X.A (compEnvC scope cl C X.env) (fun e s'' => compPostX (model X.prog X.w) X.A X.xe Q acc (compEnvC scope cl C X.env) (.error e) s'') u s' := by
  obtain ⟨a, B, HX, cls, d, rfl, fl, hok, ub, na, os, ag, hE⟩ := c
  have hfr : X.A.frames = some (X.env :: X.outer) := by rw [I3.ok.frames, hs]
  have nC : HB C = none := IB.free
  have I7 : Inv X pins σ HB sB := I3.call' (ch := fp) IB.os IB.base IB.hok IB.bare fun b hb => ⟨(hfp b hb).2.2.2.1, (hfp b hb).2.1, (hfp b hb).2.2.2.2.1, (hfp b hb).2.2.2.2.2⟩
  obtain ⟨g0, g1, g2, g3, g4, g5⟩ := I3.fpOk hC nC
  have I8 : Inv X pins σ HB { sB with heap := PySem.W.hideAll sB.heap [C] } := I7.turned (t' := sB.toks) (fun b o hb e => PySem.W.hideAll_get _ e (by simpa using hb)) g0 g1 g3 g4 g5
  have nCf : C ∉ frs X.stack := fun hm => by
    rw [hs] at hm
    obtain ⟨e, he, q⟩ := List.mem_filterMap.mp hm
    rcases List.mem_cons.mp he with rfl | he
    · rw [hf] at q
      exact g1 (Option.some.inj q).symm
    · exact g2 (List.mem_filterMap.mpr ⟨e, he, q⟩)
  obtain ⟨mm, ⟨oC, es, ep, ho, hdC, hk1, hk2⟩, _⟩ := IB.loc
  have ho : sB.heap.get? C = some oC := ho
  have hBC : B.get? C = some oC := ub.keep C oC ho nC nCf
  have fl' : HandSPX.FlyingZ B (X.env :: X.outer) a (Zc cls d) s'.heap := by
    rw [← hs]
    exact fl
  show wpAny _ _ (noteFrame (.ref a) X.env) _ _ _
  refine HandSPX.looks_onZ Zc.steady hfr hf fl' fun h1 hd1 up1 => ?_
  have hC1 : h1.get? C = some oC := hd1.1 C oC hBC
  refine ⟨mm, ⟨oC, es, ep, hC1, hdC, hk1, hk2⟩, fun h' sb => ?_⟩
  have sb : Heap.SameBut C h1 h' := sb
  obtain ⟨k1, k2, k3, oe, vs, T, oT, ts, he, hz, hd, h1', hnT, hTe, hT, hdT, h3⟩ := hd1
  have naC : a ≠ C := fun z => by
    rw [z, hC1] at he
    cases he
    rw [hdC] at hd
    cases hd
  have nTC : T ≠ C := fun z => by
    rw [z, hBC] at hnT
    cases hnT
  obtain ⟨B', hB'⟩ : ∃ B', PySem.W.hideAll B [C] = B' := ⟨_, rfl⟩
  have b1 : ∀ b o, B'.get? b = some o → B.get? b = some o ∧ b ≠ C := fun b o e => by
    rw [← hB'] at e
    exact ⟨PySem.W.of_hideAll _ e, fun z => by
      rw [PySem.W.hideAll_none [C] (by simp [z])] at e
      cases e⟩
  have b2 : ∀ b o, B.get? b = some o → b ≠ C → B'.get? b = some o := fun b o e n => by
    rw [← hB']
    exact PySem.W.hideAll_get _ e (by simpa using n)
  have b3 : ∀ b, B.get? b = none → B'.get? b = none := fun b e => by
    cases q : B'.get? b with
    | none => rfl
    | some o =>
      rw [(b1 b o q).1] at e
      cases e
  have hd2 : HandSPX.HeldZ B' (X.env :: X.outer) a (Zc cls d) X.env.locals h' := by
    refine ⟨fun b o e => (sb.2 b (b1 b o e).2).trans (k1 b o (b1 b o e).1), b3 a k2, ?_, oe, vs, T, oT, ts, (sb.2 a naC).trans he, hz, hd, h1', b3 T hnT, hTe, (sb.2 T nTC).trans hT, hdT, h3⟩
    refine frames_at k3 (fun L hL => b3 L (k3.mem hL).1) fun L hL => sb.2 L fun z => nCf (by rw [hs, ← z]; exact hL)
  have hok' : HOk X.prog X.w HX B' := fun b o q => (hok b o q).stay (fun c u hc r => b2 c u r fun z => by
    have zC : HX C = none := ub.free C oC ho nC
    subst z
    rcases hc with hc | hc
    · rw [hc, q] at zC
      cases zC
    · rw [hc] at zC
      cases zC) (fun _ r => r) fun _ _ r => r
  show wpAny (model X.prog X.w) X.A (passOn "comprehension.variables-let-go" (.ref a) X.env : Sem Value) _ _ _
  unfold PySem.passOn
  refine wpAny_bind (wpAny_field ((sb.2 a naC).trans he) hd h1' ?_)
  rw [if_neg (show ¬ ((Value.ref T == Value.none) = true) from by simp)]
  have fin : wpAny (model X.prog X.w) X.A (setFlight (.ref a) X.env.frame) (fun _ s4 => wpAny (model X.prog X.w) X.A (throw (.ref a) : Sem Value) (fun _ _ => False) X.xe s4) X.xe { s' with heap := h' } := by
    rw [hf]
    refine HandSPX.setFlight_onZ hd2 fun h4 hh4 up4 => wpAny_throw (tk _ _ ?_)
    refine heldX (E := E) (B := B') (H' := HX) I8 (fun _ _ _ z => z) (by rw [hs]; exact hh4) hok' ⟨fun b o e n hb => ?_, fun b o e hb => ?_, fun b o e n => ub.free b o (PySem.W.of_hideAll _ e) n, fun b o e hb => ?_, ub.tups, ub.frzs, ub.tbls⟩ na os ag hE
    · have e2 := PySem.W.of_hideAll _ e
      refine b2 b o (ub.keep b o e2 n hb) fun z => ?_
      rw [PySem.W.hideAll_none [C] (by simp [z])] at e
      cases e
    · have e2 := PySem.W.of_hideAll _ e
      obtain ⟨sl, q⟩ := ub.slot b o e2 hb
      have hb' : b ∈ (X.env :: X.outer).filterMap (·.frame) := by
        rw [← hs]
        exact hb
      obtain ⟨_, o1, e1, hnf⟩ := fl'.2.2.1.mem hb'
      rw [q] at e1
      cases e1
      obtain ⟨sl2, q2⟩ := up1 b _ q hnf
      have q3 : h'.get? b = some { o with slots := sl2 } := (sb.2 b fun z => nCf (by rw [← z]; exact hb)).trans q2
      obtain ⟨sl3, q4⟩ := up4 b _ q3 hnf
      exact ⟨sl3, q4⟩
    · have e2 := PySem.W.of_hideAll _ e
      obtain ⟨o', q⟩ := ub.there b o e2 hb
      exact ⟨o', b2 b o' q fun z => by
        rw [PySem.W.hideAll_none [C] (by simp [z])] at e
        cases e⟩
  first
    | exact wpAny_bind (wpAny_pure (wpAny_bind fin))
    | exact wpAny_bind fin
/-- [e for x in xs], e raising what the def may let out -/
theorem pe_lcX {E : XK} {elt tg iter : Expr} {scope : Scope} {own : List (Str × Nat)} {pos : Pos} {wi : TI} {g : TG} {te : TE} (hc : X.calm = true) (hN : X.N.Nodup) (tk : Takes X fun cls d _ H => E cls d H) (hst : X.stack = X.env :: X.outer) (hfl : X.env.frame = some X.env.locals) (hi : PI X tg iter wi) (ok : BlkOk X.N X.env.scope scope own)
    (hg : ∀ (s : Shared) (H : Hp) (C : Addr) (cl : List (Str × Addr)) (fp : List Addr), PG (blkX X E s H scope (compEnvC scope cl C X.env) fp) tg g)
    (he : ∀ (s : Shared) (H : Hp) (C : Addr) (cl : List (Str × Addr)) (fp : List Addr), PE (blkX X E s H scope (compEnvC scope cl C X.env) fp) elt te) (hs : ∀ x, foldedSetIterable iter X.env x = pure x := by intro _; rfl) :
    PE X (.ListComp elt [⟨tg, iter, [], 0⟩] scope pos) (tLc wi g tYes te (own.map (·.2))) := by
  refine ⟨fun pins s σ H Q I h => ?_⟩
  rw [eval_ListComp]
  have fre : ∀ y ∈ scope.names, y.2 = .free → ∃ c, X.env.cells.lookup y.1 = some c := fun y hy e => (ok.free y hy e).elim (fun k => I.ok.has _ (.inl k)) fun k => I.ok.has _ (.inr k)
  refine wpAny_compX rfl hs (closure_ok fre) ok.kind (fun y hy e => by rw [ok.uniq y hy, e]) (thn (hi.run pins s σ H _ I h) fun xv s1 hx => thn hx fun itv s2 h2 => ?_)
  obtain ⟨it, fp, tn, J, H2, rfl, I2, T, st2, f2, q⟩ := h2
  refine wpAny_newObj_type (newEnv_comp ?_) (by show 0 ≤ sizeLine; decide)
  obtain ⟨D, hD⟩ : ∃ D, s2.heap.objs.size = D := ⟨_, rfl⟩
  obtain ⟨W, ⟨m0, w0⟩, turn⟩ := q D (I2.hok.fresh (Nat.le_of_eq hD))
  obtain ⟨s3, hs3⟩ : ∃ s3 : Shared, { s2 with heap := s2.heap.push { cls := .type "list", data := .seq ([] : List Value).toArray } } = s3 := ⟨_, rfl⟩
  have h3 : s3.heap = s2.heap.push { cls := .type "list", data := .seq ([] : List Value).toArray } := by rw [← hs3]
  obtain ⟨H3, hH3⟩ : ∃ H3, upd H2 D (.lst []) = H3 := ⟨_, rfl⟩
  have I3 : Inv X pins σ H3 s3 := by
    rw [← hs3, ← hH3]
    exact I2.laid (t' := s2.toks) (fun b o e => Heap.get?_push_of_some _ e) (Nat.le_of_eq hD) ⟨Nat.zero_le _, [], 0, .nil, by rw [← hD]; exact Heap.get?_push_size _ rfl⟩
  have f3 : ∀ b ∈ fp, FpOk X pins H3 b ∧ b < s3.heap.objs.size := fun b hb => by
    obtain ⟨o, e, _⟩ := T.obj _ _ st2 b hb
    have hlt := Heap.lt_size e
    refine ⟨⟨?_, (f2 b hb).2⟩, by rw [h3, Heap.size_push]; exact Nat.lt_succ_of_lt hlt⟩
    rw [← hH3, upd_ne (by rw [← hD]; exact Nat.ne_of_lt hlt)]
    exact (f2 b hb).1
  have I4 := block_start I3 ok hN f3
  obtain ⟨clo, hclo⟩ : ∃ clo, cellsFrom (s3.heap.objs.size + 1) scope.names (cloFrom X.env.cells scope.names []) = clo := ⟨_, rfl⟩
  obtain ⟨C, hC⟩ : ∃ C, s3.heap.objs.size = C := ⟨_, rfl⟩
  have pg := hg s3 H3 C clo fp
  have pe := he s3 H3 C clo fp
  rw [hclo, hC] at I4
  rw [hH3] at w0
  rw [hD, hs3]
  have nfp : ∀ b ∈ fp, H3 b = none := fun b hb => (f3 b hb).1.1
  show codeAny _ _ (.compStart (.ListComp elt [⟨tg, iter, [], 0⟩] scope pos) 0 (.ref it) (.ref D) (compEnvC scope (cellsFrom (s3.heap.objs.size + 1) scope.names (cloFrom X.env.cells scope.names [])) s3.heap.objs.size X.env)) (compPostX _ _ _ _ _ (compEnvC scope (cellsFrom (s3.heap.objs.size + 1) scope.names (cloFrom X.env.cells scope.names [])) s3.heap.objs.size X.env)) { s3 with heap := pushCells (s3.heap.push { cls := .type "dict", data := .dict #[] }) scope.names }
  rw [hclo, hC]
  obtain ⟨Y, hY⟩ : ∃ Y, blkX X E s3 H3 scope (compEnvC scope clo C X.env) fp = Y := ⟨_, rfl⟩
  have I4 : Inv (blkX X E s3 H3 scope (compEnvC scope clo C X.env) fp) _ _ _ _ := toXe _ I4
  obtain ⟨s4, hs4⟩ : ∃ s4 : Shared, { s3 with heap := pushCells (s3.heap.push { cls := .type "dict", data := .dict #[] }) scope.names } = s4 := ⟨_, rfl⟩
  have st4 : tn 0 s4.heap := T.keep _ _ _ st2 fun b _ o e => by
    rw [← hs4]
    exact pushCells_keeps _ _ _ _ (Heap.get?_push_of_some _ (by rw [h3]; exact Heap.get?_push_of_some _ e))
  rw [hs4] at I4 ⊢
  have stat : ∀ {σ' : L2.St} {H' : Hp} {s' : Shared}, Inv (blkX X E s3 H3 scope (compEnvC scope clo C X.env) fp) [] σ' H' s' → (∀ b ∈ fp, H' b = none) → ∀ b ∈ fp, FpOk (blkX X E s3 H3 scope (compEnvC scope clo C X.env) fp) [] H' b := fun {σ' H' s'} I' hn b hb =>
    ⟨hn b hb, (I'.ok.exf b hb).1, I'.ok.exfs b hb, .inl hb, fun x c e => (I'.ok.exf b hb).2 x c e, fun p hp => absurd (show p ∈ ([] : List (Addr × Obj)) ++ [] from hp) (by simp)⟩
  have hEx : ∀ u s', (blkX X E s3 H3 scope (compEnvC scope clo C X.env) fp).xe u s' → notedBy (model X.prog X.w) X.A (compEnvC scope clo C X.env) (fun e s'' => compPostX (model X.prog X.w) X.A X.xe (EP X pins σ Q) (.ref D) (compEnvC scope clo C X.env) (.error e) s'') u s' := fun u s' ⟨pB, σB, HB, sB, IB, c⟩ =>
    landX tk hst hfl I3 (Nat.le_of_eq hC) (fun b hb => (f3 b hb).1) IB c
  refine (fun loop => codeAny_compStart_list loop (T.self X.A 0 _ _ _ st4 loop)) ?_
  refine compLoop_any (fun n s' => ∃ i H', Inv (blkX X E s3 H3 scope (compEnvC scope clo C X.env) fp) [] (wipe σ (own.map (·.2))) H' s' ∧ tn i s'.heap ∧ (∀ b ∈ fp, H' b = none) ∧ W i n H') ?_ m0 ⟨0, H3, I4, st4, nfp, w0⟩
  rintro n s5 ⟨i, H5, I5, st5, n5, w5⟩
  rcases turn i n H5 w5 with ⟨stop, qq⟩ | ⟨go, Nx, hNx, step⟩
  · refine thnF (T.done (blkX X E s3 H3 scope (compEnvC scope clo C X.env) fp) rfl rfl rfl hc i [] s5 _ H5 (fun _ _ => False) I5 (stat I5 n5) st5 stop) fun r s6 ⟨hr, I6⟩ => ?_
    subst hr
    have I7 : Inv X pins σ H5 s6 := I3.call' (ch := fp) I6.os I6.base I6.hok I6.bare fun b hb => ⟨(f3 b hb).1.2.2.2.1, (f3 b hb).1.2.1, (f3 b hb).1.2.2.2.2.1, (f3 b hb).1.2.2.2.2.2⟩
    have nC : H5 C = none := I6.free
    obtain ⟨mm, hn, _⟩ := I6.loc
    have hn : s6.heap.Ns C mm := hn
    obtain ⟨g0, g1, g2, g3, g4, g5⟩ := I3.fpOk (Nat.le_of_eq hC) nC
    exact ⟨mm, hn, fun h'' sb => ⟨.ref D, H5, I7.turned (t' := s6.toks) (fun b o hb e => (sb.2 b hb).trans e) g0 g1 g3 g4 g5, rfl, qq⟩⟩
  · refine thnF (T.item (blkX X E s3 H3 scope (compEnvC scope clo C X.env) fp) rfl rfl rfl hc i [] s5 _ H5 (fun _ _ => False) I5 (stat I5 n5) st5 go) fun r s6 ⟨u, hr, h6⟩ => ?_
    subst hr
    refine thnF h6 fun _ s7 ⟨x, H7, I7, r7, y7, st7, n7⟩ => ?_
    refine wpAny_mono (pg.run _ s7 _ H7 x u _ (I7.pinned (stat I7 n7) (T.obj _ _ st7)) r7 (step x H7 y7)) (fun _ s8 ⟨σ8, H8, I8, hw8, q8⟩ => ?_) hEx
    refine wpAny_tests_nil ?_
    simp only [if_true]
    refine wpAny_mono (pe.run _ s8 σ8 H8 _ I8 q8) (fun z s10 ⟨yv, H10, I10, r10, acc, hD10, hz10, nx⟩ => ?_) hEx
    refine app_ok (X := blkX X E s3 H3 scope (compEnvC scope clo C X.env) fp) I10 hD10 hz10 r10 fun s11 I11 => ?_
    obtain ⟨m', hm, w'⟩ := hNx _ nx
    have pin' : ∀ b ∈ fp, ∀ o, s7.heap.get? b = some o → s11.heap.get? b = some o ∧ (upd H10 D (.lst (acc ++ [yv]))) b = none := fun b hb o e =>
      let z := I11.pin (b, o) (List.mem_append_right _ (List.mem_append_right _ (mem_pinsAt hb e)))
      ⟨z.1, z.2.1⟩
    refine ⟨m', hm, i + 1, _, (I11.unpinned (pins := [])).weak (by rw [← hw8, wipe_length]) (fun j v e => ?_), T.keep _ _ _ st7 fun b hb o e => (pin' b hb o e).1, fun b hb => ?_, w'⟩
    · rw [← hw8] at e
      exact (wipe_some e).1
    · obtain ⟨o, e, _⟩ := T.obj _ _ st7 b hb
      exact (pin' b hb o e).2
end
end SL

set_option Elab.async false
set_option linter.all false
set_option maxRecDepth 100000
set_option maxHeartbeats 4000000
/-! Law k21: the step that a row writes; promises of read and of the law's own reader. -/
namespace Sp
open PySem L2 SM SR SD SE
/-- the rows of a text -/
def rowsX (t : Str) : List Str := if t = "" then [] else Txt.split t "\n"
def headW (x : Str) : Str := (Txt.split x " ").headD ""
def tailW (x : Str) : List Str := (Txt.split x " ").tail
def fitsW (x : Str) : Bool := decide ((sizesP.lookup (headW x)).getD (-1) = ((Txt.split x " ").length : Int) - 1)
/-- the step that a row writes -/
def rowStep (x : Str) : Option D := if fitsW x && (tailW x).all (fun w => (numOf w).isSome) then some (.tuple (.str (headW x) :: (tailW x).map fun w => .int ((numOf w).getD 0))) else none
def badTxtAt (xs : List Str) (i : Nat) : Bool := decide (300 ≤ i) || (rowStep (xs.getD i "")).isNone
def badTxt (xs : List Str) : Option Nat := (List.range xs.length).find? (badTxtAt xs)
def stepD (x : Str) : D := (rowStep x).getD .none
open Classical in
noncomputable def f_readT (a : Ad) : List D → Option Rs
  | [.str t] => if t.length ≤ 10000 ∧ lay t then some (match badTxt (rowsX t) with
    | some i => .ef a.BadText "row" i
    | none => .ok (.list ((rowsX t).map stepD))) else none
  | _ => none
noncomputable def sp_read (P : Program) (w : World) (K : PySem.W.Frag) (a : Ad) : Sp := SpP (f_readT a)
open Classical in
noncomputable def f_law_read : List D → Option Rs
  | [.str x] => if x.length ≤ 10000 ∧ lay x then some (.ok (stepD x)) else none
  | _ => none
noncomputable def sp_law_read (P : Program) (w : World) (K : PySem.W.Frag) (a : Ad) : Sp := SpP f_law_read
open Classical in
theorem f_readT_of {a : Ad} {t : Str} (h : t.length ≤ 10000 ∧ lay t) : f_readT a [.str t] = some (match badTxt (rowsX t) with
    | some i => .ef a.BadText "row" i
    | none => .ok (.list ((rowsX t).map stepD))) := by
  show (if t.length ≤ 10000 ∧ lay t then _ else _) = _
  rw [if_pos h]
  try rfl
open Classical in
theorem f_readT_not {a : Ad} {t : Str} (h : ¬ (t.length ≤ 10000 ∧ lay t)) : f_readT a [.str t] = none := by
  show (if t.length ≤ 10000 ∧ lay t then _ else _) = _
  rw [if_neg h]
open Classical in
theorem f_law_read_of {x : Str} (h : x.length ≤ 10000 ∧ lay x) : f_law_read [.str x] = some (.ok (stepD x)) := by
  show (if x.length ≤ 10000 ∧ lay x then _ else _) = _
  rw [if_pos h]
open Classical in
theorem f_law_read_not {x : Str} (h : ¬ (x.length ≤ 10000 ∧ lay x)) : f_law_read [.str x] = none := by
  show (if x.length ≤ 10000 ∧ lay x then _ else _) = _
  rw [if_neg h]
/-- a text told otherwise -/
def f_spoiltL : List D → D → Prop := fun ds d => ∃ t : Str, ds = [.str t] ∧ t.length ≤ 5000 ∧ lay t ∧ ∃ t' : Str, t'.length ≤ 2 * t.length + 20 ∧ lay t' ∧ d = .str t'
def sp_law_spoilt (P : Program) (w : World) (K : PySem.W.Frag) (a : Ad) : Sp := SpRow K f_spoiltL
/-! ### rows -/
theorem rows_nil {t : Str} (h : t = "") : rowsX t = [] := if_pos h
theorem rows_of {t : Str} (h : t ≠ "") : rowsX t = Txt.split t "\n" := if_neg h
theorem rows_lay {t : Str} (h : lay t) : ∀ p ∈ rowsX t, lay p := fun p hp => by
  by_cases e : t = ""
  · rw [rows_nil e] at hp
    cases hp
  · rw [rows_of e] at hp
    exact lay_nl h p hp
theorem rows_tot (t : Str) : tot (rowsX t) ≤ t.length + 1 := by
  by_cases e : t = ""
  · rw [rows_nil e]
    exact Nat.zero_le _
  · rw [rows_of e, (split_nl t).2.1]
    exact Nat.le_refl _
theorem words_eq (x : Str) : Txt.split x " " = headW x :: tailW x := by
  unfold headW tailW
  cases h : Txt.split x " " with
  | nil => exact absurd h (split_bl x).1
  | cons a r => rfl
theorem words_lenX (x : Str) : (Txt.split x " ").length = (tailW x).length + 1 := by
  rw [words_eq]
  rfl
theorem fits_len {x : Str} (h : fitsW x = true) : (tailW x).length ≤ 2 ∧ ∃ n : Int, sizesP.lookup (headW x) = some n := by
  have h := of_decide_eq_true h
  rw [words_lenX] at h
  cases hl : sizesP.lookup (headW x) with
  | none =>
    rw [hl] at h
    simp only [Option.getD_none] at h
    omega
  | some n =>
    rw [hl] at h
    have hm := lookup_mem hl
    refine ⟨?_, n, rfl⟩
    have : n ≤ 2 := by
      simp only [sizesP, List.mem_cons, Prod.mk.injEq, List.not_mem_nil, or_false] at hm
      rcases hm with ⟨_, rfl⟩ | ⟨_, rfl⟩ | ⟨_, rfl⟩ | ⟨_, rfl⟩ | ⟨_, rfl⟩ | ⟨_, rfl⟩ | ⟨_, rfl⟩ | ⟨_, rfl⟩ | ⟨_, rfl⟩ <;> decide
    simp only [Option.getD_some] at h
    omega
theorem step_none_fits {x : Str} (h : fitsW x = false) : rowStep x = none := by
  unfold rowStep
  rw [h]
  rfl
theorem step_none_num {x : Str} {w : Str} (hw : w ∈ tailW x) (h : numOf w = none) : rowStep x = none := by
  unfold rowStep
  rw [if_neg]
  intro z
  rw [Bool.and_eq_true, List.all_eq_true] at z
  have := z.2 w hw
  rw [h] at this
  cases this
theorem step_some {x : Str} (h1 : fitsW x = true) (h2 : ∀ w ∈ tailW x, (numOf w).isSome = true) : rowStep x = some (.tuple (.str (headW x) :: (tailW x).map fun w => .int ((numOf w).getD 0))) := by
  unfold rowStep
  rw [if_pos (by rw [h1, Bool.true_and, List.all_eq_true]; exact h2)]
theorem words_mem {x w : Str} (h : w ∈ tailW x) : w ∈ Txt.split x " " := by
  rw [words_eq]
  exact List.mem_cons_of_mem _ h
theorem head_mem (x : Str) : headW x ∈ Txt.split x " " := by
  rw [words_eq]
  exact List.mem_cons_self
/-- what is no step of a row is none -/
theorem stepD_none {x : Str} : stepD x = .none ↔ rowStep x = none := by
  unfold stepD
  constructor
  · intro h
    cases e : rowStep x with
    | none => rfl
    | some d =>
      rw [e] at h
      unfold rowStep at e
      split at e
      · cases e
        cases h
      · cases e
  · intro h
    rw [h]
    rfl
end Sp

set_option Elab.async false
set_option linter.all false
set_option maxRecDepth 100000
set_option maxHeartbeats 4000000
/-! Readings, printed by gen.py. -/
namespace Sp
open PySem L2 SM SR SD SE LamX
def t_read (P : Program) (w : World) (K : PySem.W.Frag) (a : Ad) (E : XK) : TS :=
  (tSeq (tAsg (tLst tNil) (gName 1)) (tSeq (tFor (iEnum K (tCons (tIf (tTest (tOp (rNeD K) (tVar 0) (tC (.str "")))) (tM1 rSplit1 (tVar 0) (tC (.str "\n"))) (tLst tNil)) tNil)) (gTup K 2 (gCons (gName 2) (gCons (gName 3) gNil))) (tSeq (tAsg (tM1 rSplit1 (tVar 3) (tC (.str " "))) (gName 4)) (tSeq (tIfS (tOr (tTest (tOp rGeI (tVar 2) (tC (.int 300)))) (tTest (tOp (rNeD K) (tKGet2 a.tP sizesP (tC (.ref a.tP)) (tOp (rIxU P w K) (tVar 4) (tC (.int 0))) (tUn rNegI (tC (.int 1)))) (tOp rSubI (tCB (rLenU K) (tCons (tVar 4) tNil)) (tC (.int 1)))))) (tRaiseF a.BadText "row" E (tCons (tVar 2) tNil)) tNext) (tDrop (tBM K "list" rAppend (tVar 1) (tCons (tOp (rAddU K) (tTupB (tCons (tOp (rIxU P w K) (tVar 4) (tC (.int 0))) tNil)) (tCB (rTupU K) (tCons (tLc (iSeqU K (tSl (rSlU K) (tVar 4) (tPart (tC (.int 1))) tNoPart)) (gName 5) tYes (tCall (sp_number_of P w K a) [] E (tCons (tVar 5) (tCons (tVar 2) tNil))) [5]) tNil))) tNil)))))) (tRet (tVar 1))))
abbrev n_read : List Str := ["text", "found", "row", "line", "words", "word"]
def t_law_read (P : Program) (w : World) (K : PySem.W.Frag) (a : Ad) (E : XK) : TS :=
  (tSeq (tAsg (tM1 rSplit1 (tVar 0) (tC (.str " "))) (gName 1)) (tSeq (tAsg (tDisp [((tC (.str "find")), (tC (.int 1))), ((tC (.str "look")), (tC (.int 1))), ((tC (.str "put")), (tC (.int 2))), ((tC (.str "take")), (tC (.int 1))), ((tC (.str "mark")), (tC (.int 0))), ((tC (.str "next")), (tC (.int 1))), ((tC (.str "relay")), (tC (.int 1))), ((tC (.str "stop")), (tC (.int 1))), ((tC (.str "mend")), (tC (.int 0)))]) (gName 2)) (tSeq (tIfS (tTest (tOp (rNeD K) (tDGet2 (tVar 2) (tOp (rIxU P w K) (tVar 1) (tC (.int 0))) (tOp rSubI (tC (.int 0)) (tC (.int 1)))) (tOp rSubI (tCB (rLenU K) (tCons (tVar 1) tNil)) (tC (.int 1))))) (tRet (tC .non)) tNext) (tSeq (tFor (iSeqU K (tSl (rSlU K) (tVar 1) (tPart (tC (.int 1))) tNoPart)) (gName 3) (tSeq (tIfS (tOr (tTest (tOp rGtI (tCB (rLenU K) (tCons (tVar 3) tNil)) (tC (.int 3)))) (tOr (tTest (tOp (rEqD K) (tVar 3) (tC (.str "")))) (tTest (tOp (rNeD K) (tLc (iSeqU K (tVar 3)) (gName 4) (tTest (tOp (rNotInU K) (tVar 4) (tC (.str "0123456789")))) (tVar 4) [4]) (tLst tNil))))) (tRet (tC .non)) tNext) (tIfS (tTest (tOp (rNeD K) (tCB rStrU (tCons (tCB rIntS (tCons (tVar 3) tNil)) tNil)) (tVar 3))) (tRet (tC .non)) tNext))) (tRet (tOp (rAddU K) (tTupB (tCons (tOp (rIxU P w K) (tVar 1) (tC (.int 0))) tNil)) (tCB (rTupU K) (tCons (tLc (iSeqU K (tSl (rSlU K) (tVar 1) (tPart (tC (.int 1))) tNoPart)) (gName 3) tYes (tCB rIntS (tCons (tVar 3) tNil)) [3]) tNil))))))))
abbrev n_law_read : List Str := ["_law_line", "_law_words", "_law_many", "_law_word_here", "_law_sign"]
def t_law_spoilt (P : Program) (w : World) (K : PySem.W.Frag) (a : Ad) (E : XK) : TS :=
  (tSeq (tAsg (tCall (sp_law_taken P w K a) [] E (tCons (tVar 0) (tCons (tC (.int 9)) tNil))) (gName 2)) (tSeq (tAsg (tCall (sp_law_taken P w K a) [] E (tCons (tVar 0) (tCons (tOp (rAddU K) (tCB (rLenU K) (tCons (tVar 1) tNil)) (tC (.int 1))) tNil))) (gName 3)) (tSeq (tAsg (tC (.str "0123456789 \nabcdefghijklmnopqrstuvwxyz!#$&'()*+,-./:;<=>?@ABCDEFGHIJKLMNOPQRSTUVWXYZ[]^_{|}~")) (gName 4)) (tSeq (tAsg (tOp (rIxU P w K) (tVar 4) (tCall (sp_law_taken P w K a) [] E (tCons (tVar 0) (tCons (tOp (rIxU P w K) (tLst (tCons (tC (.int 12)) (tCons (tCB (rLenU K) (tCons (tVar 4) tNil)) tNil))) (tCall (sp_law_taken P w K a) [] E (tCons (tVar 0) (tCons (tC (.int 2)) tNil)))) tNil)))) (gName 5)) (tSeq (tIfS (tTest (tOp rLtI (tVar 2) (tC (.int 3)))) (tRet (tOp (rAddU K) (tOp (rAddU K) (tSl (rSlU K) (tVar 1) tNoPart (tPart (tVar 3))) (tOp (rIxU P w K) (tLst (tCons (tVar 5) (tCons (tC (.str "")) (tCons (tVar 5) tNil)))) (tVar 2))) (tSl (rSlU K) (tVar 1) (tPart (tOp (rAddU K) (tVar 3) (tCB rIntU (tCons (tOp rGtI (tVar 2) (tC (.int 0))) tNil)))) tNoPart))) tNext) (tSeq (tAsg (tM1 rSplit1 (tVar 1) (tC (.str "\n"))) (gName 6)) (tSeq (tAsg (tOp (rIxU P w K) (tLst (tCons (tCall (sp_law_taken P w K a) [] E (tCons (tVar 0) (tCons (tCB (rLenU K) (tCons (tVar 6) tNil)) tNil))) (tCons (tOp rSubI (tCB (rLenU K) (tCons (tVar 6) tNil)) (tC (.int 1))) tNil))) (tOp rDivI (tCall (sp_law_taken P w K a) [] E (tCons (tVar 0) (tCons (tC (.int 4)) tNil))) (tC (.int 3)))) (gName 7)) (tSeq (tIfS (tTest (tOp rLtI (tVar 2) (tC (.int 6)))) (tRet (tM1 (rJoin1 K) (tC (.str "\n")) (tOp (rIxU P w K) (tLst (tCons (tOp (rAddU K) (tSl (rSlU K) (tVar 6) tNoPart (tPart (tVar 7))) (tSl (rSlU K) (tVar 6) (tPart (tOp (rAddU K) (tVar 7) (tC (.int 1)))) tNoPart)) (tCons (tOp (rAddU K) (tSl (rSlU K) (tVar 6) tNoPart (tPart (tOp (rAddU K) (tVar 7) (tC (.int 1))))) (tSl (rSlU K) (tVar 6) (tPart (tVar 7)) tNoPart)) (tCons (tOp (rAddU K) (tSl (rSlU K) (tVar 6) (tPart (tVar 7)) tNoPart) (tSl (rSlU K) (tVar 6) tNoPart (tPart (tVar 7)))) tNil)))) (tOp rSubI (tVar 2) (tC (.int 3)))))) tNext) (tSeq (tAsg (tM1 rSplit1 (tOp (rIxU P w K) (tVar 6) (tVar 7)) (tC (.str " "))) (gName 8)) (tSeq (tAsg (tCall (sp_law_taken P w K a) [] E (tCons (tVar 0) (tCons (tCB (rLenU K) (tCons (tVar 8) tNil)) tNil))) (gName 9)) (tSeq (tAsg (tLst (tCons (tC (.str "")) (tCons (tC (.str "-")) (tCons (tC (.str "0")) (tCons (tC (.str "00")) (tCons (tC (.str "1000")) (tCons (tC (.str "999")) (tCons (tC (.str "find")) (tCons (tC (.str "mark")) (tCons (tC (.str "x")) (tCons (tC (.str "1 2")) tNil))))))))))) (gName 10)) (tSeq (tAsg (tOp (rAddU K) (tOp (rAddU K) (tSl (rSlU K) (tVar 8) tNoPart (tPart (tVar 9))) (tOp (rIxU P w K) (tLst (tCons (tLst tNil) (tCons (tOp (rMulU K) (tLst (tCons (tOp (rIxU P w K) (tVar 8) (tVar 9)) tNil)) (tC (.int 2))) (tCons (tLst (tCons (tOp (rIxU P w K) (tVar 10) (tCall (sp_law_taken P w K a) [] E (tCons (tVar 0) (tCons (tC (.int 10)) tNil)))) tNil)) tNil)))) (tOp rSubI (tVar 2) (tC (.int 6))))) (tSl (rSlU K) (tVar 8) (tPart (tOp (rAddU K) (tVar 9) (tC (.int 1)))) tNoPart)) (gName 8)) (tRet (tM1 (rJoin1 K) (tC (.str "\n")) (tOp (rAddU K) (tOp (rAddU K) (tSl (rSlU K) (tVar 6) tNoPart (tPart (tVar 7))) (tLst (tCons (tM1 (rJoin1 K) (tC (.str " ")) (tVar 8)) tNil))) (tSl (rSlU K) (tVar 6) (tPart (tOp (rAddU K) (tVar 7) (tC (.int 1)))) tNoPart))))))))))))))))
abbrev n_law_spoilt : List Str := ["_law_row", "_law_text", "_law_way", "_law_at", "_law_signs", "_law_sign", "_law_rows", "_law_k", "_law_words", "_law_j", "_law_odd"]
end Sp

set_option Elab.async false
set_option linter.all false
set_option maxRecDepth 100000
set_option maxHeartbeats 4000000
/-! Readings, printed by gen.py. -/
namespace Sp
open PySem L2 SM SR SD SE LamX
def t_law (P : Program) (w : World) (K : PySem.W.Frag) (a : Ad) (E : XK) : TS :=
  (tSeq (tAsg (tLst (tCons (tVar 0) (tCons (tC (.int 0)) (tCons (tC (.int 0)) (tCons (tC (.int 0)) tNil))))) (gName 1)) (tSeq (tAsg (tLst (tCons (tC (.str "")) (tCons (tC (.str "\n")) (tCons (tC (.str " ")) (tCons (tC (.str "find")) (tCons (tC (.str "find 3")) (tCons (tC (.str "find 03")) (tCons (tC (.str "find 1000")) (tCons (tC (.str "put 3")) (tCons (tC (.str "put 3 4")) (tCons (tC (.str "mark")) (tCons (tC (.str "mark 0")) (tCons (tC (.str "mend\n")) tNil))))))))))))) (gName 2)) (tSeq (tAsg (tOp (rAddU K) (tVar 2) (tLst (tCons (tC (.str "stop 99\n\nmend")) (tCons (tC (.str " mark")) (tCons (tC (.str "mark ")) (tCons (tC (.str "look  3")) (tCons (tC (.str "Look 3")) (tCons (tC (.str "next -1")) (tCons (tC (.str "relay 0")) tNil))))))))) (gName 2)) (tSeq (tAsg (tOp (rAddU K) (tVar 2) (tLst (tCons (tC (.str "take 9 9")) (tCons (tC (.str "find 999")) tNil)))) (gName 2)) (tSeq (tAsg (tOp (rAddU K) (tVar 2) (tLst (tCons (tM1 (rJoin1 K) (tC (.str "\n")) (tOp (rMulU K) (tLst (tCons (tC (.str "mark")) tNil)) (tC (.int 300)))) (tCons (tM1 (rJoin1 K) (tC (.str "\n")) (tOp (rMulU K) (tLst (tCons (tC (.str "mark")) tNil)) (tC (.int 301)))) (tCons (tM1 (rJoin1 K) (tC (.str "\n")) (tOp (rAddU K) (tOp (rMulU K) (tLst (tCons (tC (.str "mend")) tNil)) (tC (.int 300))) (tLst (tCons (tC (.str "x")) tNil)))) tNil))))) (gName 2)) (tSeq (tFor (iRng1 (tCons (tC (.int 5)) tNil)) (gName 3) (tSeq (tAsg (tCall (sp_law_taken P w K a) [] E (tCons (tVar 1) (tCons (tCB (rLenU K) (tCons (tVar 2) tNil)) tNil))) (gName 4)) (tSeq (tAsg (tLc (iRng1 (tCons (tCall (sp_law_taken P w K a) [] E (tCons (tVar 1) (tCons (tC (.int 9)) tNil))) tNil)) (gName 12) tYes (tCall (sp_law_step P w K a) [] E0 (tCons (tVar 1) (tCons (tCall (sp_law_made P w K a) [] E0 (tCons (tTupB (tCons (tC (.int 2)) (tCons (tC (.int 1)) (tCons (tC (.int 3)) tNil)))) (tCons (tLst tNil) tNil))) (tCons (tC (.bl true)) tNil)))) [12]) (gName 5)) (tSeq (tAsg (tM1 (rJoin1 K) (tC (.str "\n")) (tLc (iSeqU K (tVar 5)) (gName 13) tYes (tM1 (rJoin1 K) (tC (.str " ")) (tLc (iSeqU K (tVar 13)) (gName 15) tYes (tCB rStrU (tCons (tVar 15) tNil)) [15])) [13])) (gName 6)) (tSeq (tFor (iRng1 (tCons (tCall (sp_law_taken P w K a) [] E (tCons (tVar 1) (tCons (tC (.int 4)) tNil))) tNil)) (gName 7) (tAsg (tCall (sp_law_spoilt P w K a) [] E (tCons (tVar 1) (tCons (tVar 6) tNil))) (gName 6))) (tFor (iSeqU K (tLst (tCons (tVar 6) (tCons (tOp (rIxU P w K) (tVar 2) (tVar 4)) tNil)))) (gName 11) (tSeq (tAsg (tIf (tTest (tOp (rNeD K) (tVar 11) (tC (.str "")))) (tM1 rSplit1 (tVar 11) (tC (.str "\n"))) (tLst tNil)) (gName 8)) (tSeq (tAsg (tLc (iSeqU K (tVar 8)) (gName 14) tYes (tCall (sp_law_read P w K a) [] E0 (tCons (tVar 14) tNil)) [14]) (gName 9)) (tSeq (tAsg (tLc (iRng1 (tCons (tCB (rLenU K) (tCons (tVar 9) tNil)) tNil)) (gName 12) (tOr (tTest (tOp rIsNone (tOp (rIxU P w K) (tVar 9) (tVar 12)) (tC .non))) (tTest (tOp rGtI (tVar 12) (tC (.int 299))))) (tVar 12) [12]) (gName 10)) (tIfS (tTest (tOp (rNeD K) (tVar 10) (tLst tNil))) (tIfS (tTest (tOp (rNeD K) (tLam a.T (TTw K a) fun E => (tCall (sp_read P w K a) [] E (tCons (tVar 11) tNil))) (tTupB (tCons (tC (.str "text")) (tCons (tOp (rIxU P w K) (tVar 10) (tC (.int 0))) tNil))))) (tRet (tC (.bl false))) tNext) (tIfS (tNot (tB (tCall (sp_law_alike P w K a) [] E (tCons (tCall (sp_read P w K a) [] E (tCons (tVar 11) tNil)) (tCons (tVar 9) tNil))))) (tRet (tC (.bl false))) tNext))))))))))) (tRet (tC (.bl true)))))))))
abbrev n_law : List Str := ["_law_script", "_law_row", "_law_some", "_law_turn", "_law_choice", "_law_steps", "_law_text", "_law_change", "_law_rows", "_law_found", "_law_bad", "_law_one", "_law_k", "_law_step_here", "_law_line", "_law_part"]
end Sp

set_option Elab.async false
set_option linter.all false
set_option maxRecDepth 100000
set_option maxHeartbeats 4000000
/-! Expressions of which a part raises. -/
namespace Sp
open PySem L2 SM SR SD SE
section
variable {X : Wd} {Φ : Iv} {Γ : Gm} {E : XK} {ta tb te : TE} {tr : TA} {d : D} {c : Addr} {f : Str} {n : Int} {i : Nat} {N : Gm → Iv → Prop} {R : Ro → Iv → Prop}
/-- it raises c, with the number n as its f -/
def EvX (X : Wd) (Φ : Iv) (te : TE) (Γ : Gm) (E : XK) (c : Addr) (f : Str) (n : Int) : Prop := ∀ L H σ, Cur X Φ L H → EnvD X Φ L H σ Γ → ∀ Q : VK, (∀ b H', Same H H' → H' b = some (.xd [(f, .int n)]) → E (.ref c) (some b) H') → te σ H Q
def EvXA (X : Wd) (Φ : Iv) (ta : TA) (Γ : Gm) (E : XK) (c : Addr) (f : Str) (n : Int) : Prop := ∀ L H σ, Cur X Φ L H → EnvD X Φ L H σ Γ → ∀ Q : List V → Hp → Prop, (∀ b H', Same H H' → H' b = some (.xd [(f, .int n)]) → E (.ref c) (some b) H') → ta σ H Q
theorem ex_of (h : EvR X Φ te Γ E (.ef c f n)) : EvX X Φ te Γ E c f n := fun L H σ cc g Q q => h L H σ cc g Q q
theorem ex_op2 {r : R2} (ha : Ev X Φ ta Γ d) (hb : EvX X Φ tb Γ E c f n) : EvX X Φ (tOp r ta tb) Γ E c f n := fun L H σ cc g Q q =>
  ha L H σ cc g _ fun v H1 e1 r1 => hb L H1 σ (cc.up e1) (g.up e1) _ fun b H2 e2 hx => q b H2 (e1.trans e2) hx
theorem ex_cons1 (h : EvX X Φ te Γ E c f n) : EvXA X Φ (tCons te tr) Γ E c f n := fun L H σ cc g Q q => h L H σ cc g _ fun b H2 e2 hx => q b H2 e2 hx
theorem ex_cb {r : List V → Hp → VK → Prop} {t : TA} (h : EvXA X Φ t Γ E c f n) : EvX X Φ (tCB r t) Γ E c f n := fun L H σ cc g Q q => h L H σ cc g _ fun b H2 e2 hx => q b H2 e2 hx
/-- found.append(e), e raising -/
theorem fw_appX {K : PySem.W.Frag} {ds : List D} (ho : Γ[i]? = some (.own ds)) (h : EvX X Φ te Γ E c f n) (hx : ∀ L H', Cur X Φ L H' → ErTo E H' (.ef c f n)) : FW X (tDrop (tBM K "list" rAppend (tVar i) (tCons te tNil))) Γ Φ N R := fun L H σ D cc g k r => by
  obtain ⟨l, vs, h1, h2, h3, h4, h5⟩ := own_at g ho
  exact ⟨_, h1, .inl ⟨rfl, vs, SqL.of h3⟩, h L H σ cc g _ fun b H2 e2 hb => hx L H2 (cc.up e2) b hb⟩
/-- [e for x in xs], e raising at the j-th -/
theorem ex_lc {α : Type} {wi : TI} {g : TG} {vs : List Nat} {xs : List α} {enc : α → D} (fd : α → D) {j : Nat} (hi : EvI X Φ wi Γ (xs.map enc)) (hz : xs.length < 100000) (hj : j < xs.length)
    (hs : ∀ (k : Nat) (hk : k < j), ∃ Γ2, TgW X Φ g vs (enc (xs[k]'(by omega))) (wipeG Γ vs) Γ2 ∧ Ev X Φ te Γ2 (fd (xs[k]'(by omega))))
    (he : ∃ Γ2, TgW X Φ g vs (enc xs[j]) (wipeG Γ vs) Γ2 ∧ EvX X Φ te Γ2 E c f n) : EvX X Φ (tLc wi g tYes te vs) Γ E c f n := fun L H σ cc gg Q q =>
  eis_of hi L H σ cc gg _ fun J Ha e1 wk => by
    intro D hD
    have c1 := cc.up e1
    have g1 := gg.up e1
    have nD : D ∉ hdn X Φ L := c1.lv.out hD
    refine ⟨fun i m H1 => m = xs.length - i ∧ i ≤ j ∧ Same Ha H1 ∧ ∃ us, H1 D = some (.lst us) ∧ Dts (hd X Φ ((0, D) :: L) H1) us ((xs.take i).map fd), ⟨xs.length, by simp, Nat.zero_le _, new_same hD, [], upd_same, by simpa using Paired.nil⟩, ?_⟩
    rintro i m H1 ⟨rfl, hle, s1, us, hus, rus⟩
    have up : Same (hd X Φ L Ha) (hd X Φ ((0, D) :: L) H1) := by
      rw [← hd_cons (X := X) (Φ := Φ) (L := L) (i := 0) hD]
      exact Same.hid s1
    have cD : Cur X Φ ((0, D) :: L) H1 := by
      refine ⟨c1.but.trans (But.of s1), fun a m z => ?_, fun p hp => ?_, (fun p hp => ?_), ?_, fun p hp => ?_, Iv.same s1 (Same.s up) c1.at_, fun p hp => ?_⟩
      · rcases mem_cons_hdn.mp m with rfl | m
        · rw [hus] at z
          cases z
        · exact (c1.lv.mono s1) a m z
      · rcases List.mem_cons.mp hp with rfl | hp
        · exact c1.but.free hD
        · exact cc.new p hp
      · rcases List.mem_cons.mp hp with rfl | hp
        · exact fun z => nD (Or.inr (Or.inl z))
        · exact cc.om p hp
      · rw [List.map_cons, List.nodup_cons]
        exact ⟨fun z => nD (Or.inl z), cc.nd⟩
      · rcases List.mem_cons.mp hp with rfl | hp
        · exact fun z => nD (Or.inr (Or.inr z))
        · exact cc.dj p hp
      · rcases List.mem_cons.mp hp with rfl | hp
        · exact ⟨_, hus⟩
        · exact (c1.ls p hp).imp fun _ z => s1 _ _ z
    have gD : EnvD X Φ ((0, D) :: L) H1 σ Γ := by
      refine ⟨g1.len, fun j s hj => ?_⟩
      have z := g1.ok j s hj
      cases s with
      | no => trivial
      | dat d =>
        obtain ⟨v, h1, h2⟩ := z
        exact ⟨v, h1, h2.mono (Same.s up)⟩
      | val v => exact z
      | own ds =>
        obtain ⟨l', vs2, g1, g2, g3, g4⟩ := z
        exact ⟨l', vs2, g1, List.mem_cons_of_mem _ g2, s1 _ _ g3, g4.mono (Same.s up)⟩
      | tre d =>
        obtain ⟨v, A, g1, g2, g4, g3⟩ := z
        exact ⟨v, A, g1, fun l hl => List.mem_cons_of_mem _ (g2 l hl), fun l hl => (g4 l hl).imp fun _ z => s1 _ _ z, g3.mono (tgv_mono (fun l _ o h => s1 l o h) (Same.s up))⟩
    obtain ⟨go, stop⟩ := wk _ H1 s1 (Same.s up) cD.lv
    have hlt : i < xs.length := by omega
    obtain ⟨y1, y2⟩ := go i (enc xs[i]) (by simp [hlt])
    refine .inr ⟨y1, fun H' => i < j ∧ Same Ha H' ∧ ∃ us, H' D = some (.lst us) ∧ Dts (hd X Φ ((0, D) :: L) H') us ((xs.take (i + 1)).map fd), fun H' z => ⟨_, by omega, rfl, by omega, z.2⟩, fun x H' y => ?_⟩
    obtain ⟨e2, rx⟩ := y2 x H' y
    by_cases hij : i = j
    · subst hij
      obtain ⟨Γ2, ht, hx⟩ := he
      refine ht ((0, D) :: L) H' (L2.wipe σ vs) x ((gD.up e2).wipe vs) rx _ fun σ2 g2 w2 => ⟨?_, ?_⟩
      · rw [w2]
        exact SE.ev_lc0.wipe_wipe (xs := xs) σ vs
      show te σ2 H' _
      exact hx _ H' σ2 (cD.up e2) g2 _ fun b H3 e3 hb => q b H3 (((e1.trans s1).trans e2).trans e3) hb
    · obtain ⟨Γ2, ht, ht3⟩ := hs i (by omega)
      have tk : xs.take (i + 1) = xs.take i ++ [xs[i]] := by rw [List.take_add_one]; simp [hlt]
      refine ht ((0, D) :: L) H' (L2.wipe σ vs) x ((gD.up e2).wipe vs) rx _ fun σ2 g2 w2 => ⟨?_, ?_⟩
      · rw [w2]
        exact SE.ev_lc0.wipe_wipe (xs := xs) σ vs
      show te σ2 H' _
      refine ht3 _ H' σ2 (cD.up e2) g2 _ fun y H4 e4 ry => ?_
      have e24 := e2.trans e4
      refine ⟨us, e24 _ _ hus, ?_, by omega, ?_, us ++ [y], upd_same, ?_⟩
      · have := rus.len
        rw [List.length_map, List.length_take] at this
        exact Nat.lt_of_lt_of_le (by omega) (by decide : 100000 ≤ sizeLine)
      · intro a o ha
        rw [upd_ne (ne_of_none ha hD)]
        exact e24 _ _ (s1 _ _ ha)
      · have eq : hd X Φ ((0, D) :: L) (upd H4 D (.lst (us ++ [y]))) = hd X Φ ((0, D) :: L) H4 := hid_upd (mem_cons_hdn.mpr (.inl rfl))
        rw [eq, tk, List.map_append]
        exact (rus.mono (Same.s (Same.hid e24))).app (.cons ry .nil)
end
end Sp

set_option Elab.async false
set_option linter.all false
set_option maxRecDepth 100000
set_option maxHeartbeats 4000000
/-! read, of any text. -/
namespace Sp
open PySem L2 SM SR SD SE
section
variable {P : Program} {w : World} {K : PySem.W.Frag} {a : Ad}
theorem num_any {x : Str} {k : Nat} (h1 : x.length ≤ 10000) (h2 : lay x) (h3 : k ≤ 10000) : f_number_of a [.str x, .int (k : Nat)] = some (match numOf x with
    | some n => .ok (.int n)
    | none => .ef a.BadText "row" (k : Nat)) := by
  simp only [f_number_of]
  rw [if_pos ⟨by omega, by omega, by omega, lay_iff.mpr h2⟩]
  try (cases numOf x <;> rfl)
theorem first_bad : ∀ ws : List Str, (∀ w ∈ ws, (numOf w).isSome = true) ∨ ∃ j, ∃ h : j < ws.length, numOf ws[j] = none ∧ ∀ (k : Nat) (hk : k < j), (numOf (ws[k]'(by omega))).isSome = true
  | [] => .inl nofun
  | w :: ws => by
    cases h : numOf w with
    | none => exact .inr ⟨0, by simp, h, fun k hk => absurd hk (by omega)⟩
    | some n =>
      rcases first_bad ws with z | ⟨j, hj, z1, z2⟩
      · refine .inl fun v hv => ?_
        rcases List.mem_cons.mp hv with rfl | hv
        · rw [h]
          rfl
        · exact z v hv
      · refine .inr ⟨j + 1, by simp; omega, z1, fun k hk => ?_⟩
        cases k with
        | zero =>
          show (numOf w).isSome = true
          rw [h]
          rfl
        | succ k => exact z2 k (by omega)
abbrev G6 (t : Str) (xs : List D) (s2 s3 s4 s5 : Sl) : Gm := [Sl.dat (.str t), .own xs, s2, s3, s4, s5]
theorem pure_read (vs : List V) (H : Hp) (Q : VK) (E : XK) (h : sp_read P w K a vs H Q E) : t_read P w K a E { nx := fun _ H' => Q .non H', rt := Q } (L2.start n_read vs) H := by
  obtain ⟨M, ds, lv, r, hr⟩ := h
  match ds, r, hr with
  | [.str t], r, hr =>
    by_cases ht : t.length ≤ 10000 ∧ lay t
    · obtain ⟨rs, hrs⟩ : ∃ rs, rs = rowsX t := ⟨_, rfl⟩
      have hs : f_readT a [.str t] = some (match badTxt rs with
          | some i => .ef a.BadText "row" i
          | none => .ok (.list (rs.map stepD))) := by
        rw [hrs]
        exact f_readT_of ht
      have hlay : ∀ p ∈ rs, lay p := hrs ▸ rows_lay ht.2
      have htot : tot rs ≤ 10001 := by
        have := rows_tot t
        rw [← hrs] at this
        omega
      have hlen : rs.length ≤ 10001 := Nat.le_trans (tot_len rs) htot
      rw [hs] at hr
      refine sw_fin lv At0.nil (env_start At0.nil r (by simp)) ?_ hr
      show SW (wd M H) _ _ [Sl.dat (.str t), .no, .no, .no, .no, .no] _ _
      refine sw_then sw_own0 ?_
      (dsimp only [List.set_cons_zero, List.set_cons_succ])
      have hit : EvI (wd M H) Iv.nil (iEnum K (tCons (tIf (tTest (tOp (rNeD K) (tVar 0) (tC (.str "")))) (tM1 rSplit1 (tVar 0) (tC (.str "\n"))) (tLst tNil)) tNil)) [Sl.dat (.str t), .own [], .no, .no, .no, .no] (enumD (rs.map .str)) := by
        refine ei_enum (ea_cons (ev_if (b := !decide (t = "")) (et_eq (et_test (ev_op (ev_var rfl) (ev_str "") (od_ne (lay_shd ht.2).ok (by decide +kernel)))) ?_) (fun hn => ?_) (fun hn => ?_)) ea_nil)
        · rw [Bool.eq_iff_iff]
          simp [PyData.eqv]
        · have hne : t ≠ "" := by simpa using hn
          rw [hrs, rows_of hne]
          exact ev_split (ev_var rfl) (ev_str "\n") (by decide +kernel) (Nat.le_trans (Nat.add_le_add_right ht.1 2) (by decide))
        · have hne : t = "" := by simpa using hn
          rw [hrs, rows_nil hne]
          exact ev_lst ea_nil (by simp)
      refine sw_seq (N1 := fun Γ => badTxt rs = none ∧ ∃ s2 s3 s4 s5, Γ = G6 t (rs.map stepD) s2 s3 s4 s5) (sw_for hit (fun k Γ => (∀ j < k, badTxtAt rs j = false) ∧ ∃ s2 s3 s4 s5, Γ = G6 t ((rs.take k).map stepD) s2 s3 s4 s5) ⟨fun j hj => absurd hj (by omega), _, _, _, _, rfl⟩ (fun k d Γ1 hk hI => ?_) fun Γ1 hI => ?_) fun Γ1 hI => ?_
      · obtain ⟨hb, s2, s3, s4, s5, rfl⟩ := hI
        have hkl : k < rs.length := by
          have := (List.getElem?_eq_some_iff.mp hk).1
          simpa [enumD] using this
        have e : d = .tuple [.int (k : Nat), .str rs[k]] := by
          simp [enumD, hkl] at hk
          exact hk.symm
        subst e
        have hgd : rs.getD k "" = rs[k] := by
          rw [List.getD_eq_getElem?_getD, List.getElem?_eq_getElem hkl]
          rfl
        have hmem := List.getElem_mem hkl
        obtain ⟨x, hx⟩ : ∃ x, x = rs[k] := ⟨_, rfl⟩
        rw [← hx] at hgd hmem ⊢
        have lx := hlay x hmem
        have lenx : x.length ≤ 10000 := by
          have := tot_mem hmem
          omega
        refine ⟨_, tg_pair, ?_⟩
        (dsimp only [List.set_cons_zero, List.set_cons_succ])
        have hw : (Txt.split x " ").map PyData.str = .str (headW x) :: (tailW x).map .str := by rw [words_eq]; rfl
        have hraise : badTxtAt rs k = true → RsTo M H Q E (some (.ef a.BadText "row" k)) := fun z => by
          have : badTxt rs = some k := find_range hkl z hb
          rw [this] at hr
          exact hr
        have hlog : ((k : Nat) : Int).natAbs.log2 < 1000 := log_small (by
          have : ((k : Nat) : Int).natAbs ≤ 10001 := by omega
          exact Nat.lt_of_le_of_lt this (by decide))
        refine sw_then (sw_asg (d := .list (.str (headW x) :: (tailW x).map .str)) (ev_eq (ev_split (ev_var rfl) (ev_str " ") (by decide +kernel) (Nat.le_trans (Nat.add_le_add_right lenx 2) (by decide))) (by rw [hw]))) ?_
        (dsimp only [List.set_cons_zero, List.set_cons_succ])
        have w0 : ∀ {Φ : Iv} {Γ : Gm}, Γ[4]? = some (.dat (.list (.str (headW x) :: (tailW x).map .str))) → Ev (wd M H) Φ (tOp (rIxU P w K) (tVar 4) (tC (.int 0))) Γ (.str (headW x)) := fun h => ev_op (ev_var h) (ev_int 0) (od_ixL atI_hd)
        have cond : EvT (wd M H) Iv.nil (tOr (tTest (tOp rGeI (tVar 2) (tC (.int 300)))) (tTest (tOp (rNeD K) (tKGet2 a.tP sizesP (tC (.ref a.tP)) (tOp (rIxU P w K) (tVar 4) (tC (.int 0))) (tUn rNegI (tC (.int 1)))) (tOp rSubI (tCB (rLenU K) (tCons (tVar 4) tNil)) (tC (.int 1)))))) [Sl.dat (.str t), .own ((rs.take k).map stepD), .dat (.int (k : Nat)), .dat (.str x), .dat (.list (.str (headW x) :: (tailW x).map .str)), s5] (decide ((300 : Int) ≤ (k : Nat)) || !fitsW x) :=
          et_or (et_test (ev_op (ev_var rfl) (ev_int 300) od_ge)) fun _ => et_eq (et_test (ev_op (ev_eq (e := .int ((sizesP.lookup (headW x)).getD (-1))) (ev_kget2 (w0 rfl) (ev_neg (ev_int 1))) (by cases sizesP.lookup (headW x) <;> rfl)) (ev_op (ev_cb (ea_cons (ev_var rfl) ea_nil) cb_lenL) (ev_int 1) od_subI) od_neI)) (by
            unfold fitsW
            rw [words_lenX]
            simp)
        cases hbb : decide ((300 : Int) ≤ (k : Nat)) || !fitsW x with
        | true =>
          have hbad : badTxtAt rs k = true := by
            unfold badTxtAt
            rw [hgd]
            rcases Bool.or_eq_true _ _ |>.mp hbb with z | z
            · have : 300 ≤ k := by
                have := of_decide_eq_true z
                omega
              rw [decide_eq_true this]
              rfl
            · rw [step_none_fits (by simpa using z)]
              simp
          exact sw_seq (N1 := fun _ => False) (sw_if (b := true) (et_eq cond hbb) (fun _ => sw_raiseF (ea_cons (ev_var rfl) ea_nil) hlog (hraise hbad)) nofun) fun _ z => z.elim
        | false =>
          simp only [Bool.or_eq_false_iff, decide_eq_false_iff_not, Bool.not_eq_false'] at hbb
          obtain ⟨hb3, hfit⟩ := hbb
          refine sw_then (sw_if (b := false) (et_eq cond (by rw [decide_eq_false hb3, hfit]; rfl)) nofun fun _ => sw_next rfl) ?_
          obtain ⟨hlt2, _⟩ := fits_len hfit
          have hwords : EvI (wd M H) Iv.nil (iSeqU K (tSl (rSlU K) (tVar 4) (tPart (tC (.int 1))) tNoPart)) [Sl.dat (.str t), .own ((rs.take k).map stepD), .dat (.int (k : Nat)), .dat (.str x), .dat (.list (.str (headW x) :: (tailW x).map .str)), s5] ((tailW x).map .str) := ei_eq (ei_seqL (ev_slL (ev_var rfl) (eo_some (ev_int 1)) eo_none)) (by
            rw [show (1 : Int) = ((1 : Nat) : Int) from rfl, cut_from2]
            rfl)
          have wl : ∀ w ∈ tailW x, w.length ≤ 10000 ∧ lay w := fun w hw => ⟨by
            have h1 := tot_mem (words_mem hw)
            have h2 := (split_bl x).2.1
            omega, lay_bl lx w (words_mem hw)⟩
          rcases first_bad (tailW x) with hall | ⟨j, hj, hj1, hj2⟩
          · have hst := step_some hfit hall
            refine fw_app (d := stepD x) rfl (ev_eq (ev_op (f := .tuple ([.str (headW x)] ++ (tailW x).map fun w => .int ((numOf w).getD 0))) (ev_tup (ea_cons (w0 rfl) ea_nil) (by simp)) (ev_cb (ea_cons (ev_lcm (xs := tailW x) (enc := .str) (fun w => .int ((numOf w).getD 0)) hwords (by omega) fun w hw => ⟨_, tgw_name, ev_callP (ea_cons (ev_var rfl) (ea_cons (ev_var rfl) ea_nil)) ?_⟩) ea_nil) cb_tupL) (od_addT (by simp; omega))) (by unfold stepD; rw [hst]; rfl)) (by rw [List.length_map, List.length_take]; omega) ?_
            · rw [num_any (wl w hw).1 (wl w hw).2 (by omega)]
              have := hall w hw
              cases hn : numOf w with
              | none =>
                rw [hn] at this
                cases this
              | some n => rfl
            (dsimp only [List.set_cons_zero, List.set_cons_succ])
            have tk : (rs.take k).map stepD ++ [stepD x] = (rs.take (k + 1)).map stepD := by
              rw [List.take_add_one, List.getElem?_eq_getElem hkl, List.map_append, hx]
              rfl
            rw [tk]
            refine ⟨rfl, fun j hj => ?_, _, _, _, _, rfl⟩
            by_cases hjk : j < k
            · exact hb j hjk
            · have : j = k := by omega
              subst this
              unfold badTxtAt
              rw [hgd, hst, decide_eq_false (by omega)]
              rfl
          · have hbad : badTxtAt rs k = true := by
              unfold badTxtAt
              rw [hgd, step_none_num (List.getElem_mem hj) hj1]
              simp
            refine fw_appX (c := a.BadText) (f := "row") (n := (k : Nat)) rfl (ex_op2 (ev_tup (ea_cons (w0 rfl) ea_nil) (by simp)) (ex_cb (ex_cons1 (ex_lc (xs := tailW x) (enc := .str) (j := j) (fun w => .int ((numOf w).getD 0)) hwords (by omega) hj (fun i hi => ⟨_, tgw_name, ev_callP (ea_cons (ev_var rfl) (ea_cons (ev_var rfl) ea_nil)) ?_⟩) ⟨_, tgw_name, ex_of (er_callP (ea_cons (ev_var rfl) (ea_cons (ev_var rfl) ea_nil)) ?_)⟩)))) fun L H' c => er_cur (hraise hbad) c
            · have hm := List.getElem_mem (show i < (tailW x).length by omega)
              rw [num_any (wl _ hm).1 (wl _ hm).2 (by omega)]
              have := hj2 i hi
              cases hn : numOf ((tailW x)[i]'(by omega)) with
              | none =>
                rw [hn] at this
                cases this
              | some n => rfl
            · have hm := List.getElem_mem hj
              rw [num_any (wl _ hm).1 (wl _ hm).2 (by omega), hj1]
      · obtain ⟨hb, s2, s3, s4, s5, rfl⟩ := hI
        have hl2 : (enumD (rs.map PyData.str)).length = rs.length := by simp [enumD]
        rw [hl2] at hb ⊢
        refine ⟨?_, s2, s3, s4, s5, by rw [List.take_length]⟩
        unfold badTxt
        rw [List.find?_eq_none]
        intro i hi
        rw [hb i (by simpa using hi)]
        simp
      · obtain ⟨hb, s2, s3, s4, s5, rfl⟩ := hI
        refine sw_retOwn rfl ?_
        rw [hb]
    · rw [f_readT_not ht] at hr
      exact hr.elim
end
end Sp

set_option Elab.async false
set_option linter.all false
set_option maxRecDepth 100000
set_option maxHeartbeats 4000000
/-! {"put": 2, ..}.get(word, x). -/
namespace Sp
open PySem L2 SM SR SD SE
section
variable {X : Wd} {Φ : Iv} {Γ : Gm} {ty tx : TE} {d : D}
abbrev tKv (kv : Str × Int) : TE × TE := (tC (.str kv.1), tC (.int kv.2))
abbrev kvV (kv : Str × Int) : Key × V := (.inr kv.1, .int kv.2)
theorem pairs_const (σ : L2.St) (H : Hp) (Q : List (V × V) → Hp → Prop) : ∀ kvs : List (Str × Int), Q (kvs.map fun kv => (.str kv.1, .int kv.2)) H → tPairs (kvs.map tKv) σ H Q := by
  intro kvs
  induction kvs generalizing Q with
  | nil => exact id
  | cons kv r ih => exact fun h => ih _ h
theorem merge_app : ∀ (l acc : List (Key × V)), ((acc ++ l).map (·.1)).Nodup → mergeK acc l = acc ++ l
  | [], acc, _ => by rw [List.append_nil]; rfl
  | p :: l, acc, h => by
    have hn : (acc.any fun kv => decide (kv.1 = p.1)) = false := by
      rw [List.any_eq_false]
      intro q hq
      rw [List.map_append, List.nodup_append] at h
      have := h.2.2 q.1 (List.mem_map.mpr ⟨q, hq, rfl⟩) p.1 (List.mem_map.mpr ⟨p, List.mem_cons_self, rfl⟩)
      simpa using this
    have e : putK acc p.1 p.2 = acc ++ [p] := by
      unfold putK
      rw [hn]
      rfl
    show mergeK (putK acc p.1 p.2) l = _
    rw [e, merge_app l (acc ++ [p]) (by rw [List.append_assoc]; exact h), List.append_assoc]
    rfl
theorem val_table {s : Str} : ∀ kvs : List (Str × Int), valV (kvs.map kvV) (.inr s) = (kvs.lookup s).map V.int
  | [] => rfl
  | kv :: r => by
    rw [List.map_cons]
    by_cases e : kv.1 = s
    · rw [valV_pos (by rw [← e]), List.lookup_cons, e]
      simp
    · rw [valV_neg (by simpa using e), val_table r, List.lookup_cons, beq_false_of_ne (Ne.symm e)]
end
end Sp

set_option Elab.async false
set_option linter.all false
set_option maxRecDepth 100000
set_option maxHeartbeats 4000000
/-! A table of words that is held; the end of defs that hold more. -/
namespace Sp
open PySem L2 SM SR SD SE
def ivTw (o : Addr) (kvs : List (Str × Int)) : Iv := ⟨[o], fun _ H => H o = some (.dK (kvs.map kvV)), fun Z k n _ h => k _ _ (fun z => (n _ z).1 (by simp)) h, fun _ _ h => h⟩
section
variable {X : Wd} {Φ Ψ : Iv} {Γ : Gm} {i : Nat} {ty tx : TE} {d : D} {s : Str} {kvs : List (Str × Int)} {N : Gm → Iv → Prop} {R : Ro → Iv → Prop} {o : Addr} {M : Ads} {H : Hp} {E : XK}
theorem fw_disp (kvs : List (Str × Int)) (hk : (kvs.map (·.1)).Nodup) (hl : kvs.length ≤ 15) (n : ∀ o, o ∉ Φ.fp → X.H0 o = none → N (Γ.set i (.val (.ref o))) (Φ.and (ivTw o kvs))) : FW X (tAsg (tDisp (kvs.map tKv)) (gName i)) Γ Φ N R := fun L H σ D c g kk _ p hp => by
  refine pairs_const σ _ _ kvs ⟨upd_same, kvs.map kvV, ?_, by simpa using hl, ?_⟩
  · rw [List.map_map]
    rfl
  have nd : ((kvs.map kvV).map (·.1)).Nodup := by
    rw [List.map_map]
    have : (kvs.map ((·.1) ∘ kvV)) = (kvs.map (·.1)).map Sum.inr := by rw [List.map_map]; rfl
    rw [this]
    exact List.Pairwise.map (R := (· ≠ ·)) Sum.inr (fun x y hxy z => hxy (Sum.inr.inj z)) hk
  rw [merge_app _ [] (by rw [List.nil_append]; exact nd), List.nil_append]
  have s2 : Same H (upd (upd H p (.dK [])) p (.dK (kvs.map kvV))) := fun b o e => by
    rw [upd_ne (ne_of_none e hp), upd_ne (ne_of_none e hp)]
    exact e
  obtain ⟨c2, ss⟩ := Cur.add (Ψ := ivTw p kvs) c s2 (fun b hb => by rw [show b = p by simpa [ivTw] using hb]; exact hp) (fun b hb => by rw [show b = p by simpa [ivTw] using hb, upd_same]; nofun) (show upd (upd H p (.dK [])) p (.dK (kvs.map kvV)) p = _ from upd_same)
  have g2 := g.kp ss (Kp.same c s2)
  exact kk L _ _ _ _ c2 ss (g2.set (s := .val (.ref p)) rfl) (n p (fun z => c.lv p (Or.inr (Or.inr z)) hp) (c.but.free hp))
theorem ev_tget2 (hB : ∀ N H, Φ.p N H → H o = some (.dK (kvs.map kvV))) (hv : Γ[i]? = some (.val (.ref o))) (hy : Ev X Φ ty Γ (.str s)) (hx : Ev X Φ tx Γ d) : Ev X Φ (tDGet2 (tVar i) ty tx) Γ (match kvs.lookup s with
  | some i => .int i
  | none => d) := fun L H σ c g Q q => by
  refine ⟨_, g.ok i _ hv, o, rfl, .inl ⟨_, .inl (hB _ _ c.at_)⟩, hy L H σ c g _ fun v H1 e1 r1 => hx L H1 σ (c.up e1) (g.up e1) _ fun z H2 e2 r2 => ?_⟩
  cases r1
  refine ⟨_, .inl ⟨_, .inr s, .inl (hB _ _ (c.up (e1.trans e2)).at_), rfl, rfl⟩, ?_⟩
  rw [val_table]
  refine q _ H2 (e1.trans e2) ?_
  cases kvs.lookup s with
  | none => exact r2
  | some i => exact .int i
/-- from the data's walk to the reading, more being held at the end -/
theorem fw_finQ {t : TS} {Ns : List Str} {vs : List V} {r : Option Rs} {Q : VK} (lv : Lv M H) (h0 : At0 Φ M H) (g : EnvD (wd M H) Φ [] H (L2.start Ns vs) Γ) (hs : FW (wd M H) t Γ Φ (fun _ _ => r = some (.ok .none)) (fun ro _ => ∃ d, ro = .dat d ∧ r = some (.ok d))) (hr : RsTo M H Q E r) :
    t { nx := fun _ H' => Q .non H', rt := Q } (L2.start Ns vs) H := by
  refine hs [] H (L2.start Ns vs) _ (h0.cur lv) g (fun L' H' σ' Γ' Φ' c' s' g' n => ?_) fun v ro H' Φ' b hp rd ed => ?_
  · subst n
    exact hr .non H' c'.but.same .non
  · obtain ⟨d, rfl, ed⟩ := ed
    subst ed
    exact hr v H' b.same (Dt.mono (Same.s (hid_sub fun a ha => Or.inl ha)) rd)
end
end Sp

set_option Elab.async false
set_option linter.all false
set_option maxRecDepth 100000
set_option maxHeartbeats 4000000
/-! The law's own reader of a row. -/
namespace Sp
open PySem L2 SM SR SD SE
def mkS (cs : List Nat) : Str := ⟨cs.toArray⟩
def dig3B (cs : List Nat) : Bool := match intText? (mkS cs) with
  | some n => (decide (0 ≤ n) && decide (n < 1000)) && (decide (numT n = mkS cs) == (!decide (cs.head? = some 48) || decide (cs = [48])))
  | none => false
theorem dig_1 : ((List.range 10).all fun x => dig3B [48 + x]) = true := by decide +kernel
theorem dig_2 : ((List.range 10).all fun x => (List.range 10).all fun y => dig3B [48 + x, 48 + y]) = true := by decide +kernel
theorem dig_3 : ((List.range 10).all fun x => (List.range 10).all fun y => (List.range 10).all fun z => dig3B [48 + x, 48 + y, 48 + z]) = true := by decide +kernel
theorem dig_of {c : Nat} (h : digB c = true) : ∃ x, x < 10 ∧ c = 48 + x := by
  simp only [digB, Bool.and_eq_true, decide_eq_true_eq] at h
  exact ⟨c - 48, by omega, by omega⟩
theorem dig3 {cs : List Nat} (h1 : 1 ≤ cs.length) (h2 : cs.length ≤ 3) (h : cs.all digB = true) : dig3B cs = true := by
  rw [List.all_eq_true] at h
  match cs, h1, h2, h with
  | [a], _, _, h =>
    obtain ⟨x, hx, rfl⟩ := dig_of (h a (by simp))
    exact List.all_eq_true.mp dig_1 x (List.mem_range.mpr hx)
  | [a, b], _, _, h =>
    obtain ⟨x, hx, rfl⟩ := dig_of (h a (by simp))
    obtain ⟨y, hy, rfl⟩ := dig_of (h b (by simp))
    exact List.all_eq_true.mp (List.all_eq_true.mp dig_2 x (List.mem_range.mpr hx)) y (List.mem_range.mpr hy)
  | [a, b, c], _, _, h =>
    obtain ⟨x, hx, rfl⟩ := dig_of (h a (by simp))
    obtain ⟨y, hy, rfl⟩ := dig_of (h b (by simp))
    obtain ⟨z, hz, rfl⟩ := dig_of (h c (by simp))
    exact List.all_eq_true.mp (List.all_eq_true.mp (List.all_eq_true.mp dig_3 x (List.mem_range.mpr hx)) y (List.mem_range.mpr hy)) z (List.mem_range.mpr hz)
/-- a word of figures: the number, and whether it writes it -/
theorem word_dig {w : Str} (h1 : 1 ≤ w.length) (h2 : w.length ≤ 3) (h : w.cps.toList.all digB = true) : ∃ n : Int, intText? w = some n ∧ 0 ≤ n ∧ n < 1000 ∧ (numOf w = if numT n = w then some n else none) := by
  have hl : w.cps.toList.length = w.length := Array.length_toList
  have hd := dig3 (cs := w.cps.toList) (by omega) (by omega) h
  have hw : mkS w.cps.toList = w := by
    cases w
    exact congrArg Str.mk (by simp)
  unfold dig3B at hd
  rw [hw] at hd
  cases hi : intText? w with
  | none =>
    rw [hi] at hd
    cases hd
  | some n =>
    rw [hi] at hd
    simp only [Bool.and_eq_true, decide_eq_true_eq, beq_iff_eq] at hd
    obtain ⟨⟨a1, a2⟩, a3⟩ := hd
    refine ⟨n, rfl, a1, a2, ?_⟩
    unfold numOf
    by_cases e : numT n = w
    · rw [if_pos e, decide_eq_true e] at *
      have a3 := a3.symm
      simp only [Bool.or_eq_true, Bool.not_eq_true', decide_eq_false_iff_not, decide_eq_true_eq] at a3
      rw [if_pos ⟨⟨h1, h2⟩, h, fun z => a3.elim (fun y => absurd z y) id⟩, hi]
    · rw [decide_eq_false e] at a3
      have a3 := a3.symm
      simp only [Bool.or_eq_false_iff, Bool.not_eq_false', decide_eq_true_eq, decide_eq_false_iff_not] at a3
      rw [if_neg e, if_neg]
      intro z
      exact a3.2 (z.2.2 a3.1)
section
variable {P : Program} {w : World} {K : PySem.W.Frag} {a : Ad}
abbrev G5 (x : Str) (o : Addr) (s3 s4 : Sl) : Gm := [Sl.dat (.str x), .dat (.list (.str (headW x) :: (tailW x).map .str)), .val (.ref o), s3, s4]
theorem pure_law_read (vs : List V) (H : Hp) (Q : VK) (E : XK) (h : sp_law_read P w K a vs H Q E) : t_law_read P w K a E { nx := fun _ H' => Q .non H', rt := Q } (L2.start n_law_read vs) H := by
  obtain ⟨M, ds, lv, r, hr⟩ := h
  match ds, r, hr with
  | [.str x], r, hr =>
    by_cases hx : x.length ≤ 10000 ∧ lay x
    · rw [f_law_read_of hx] at hr
      refine fw_finQ lv At0.nil (env_start At0.nil r (by simp)) ?_ hr
      show FW (wd M H) _ [Sl.dat (.str x), .no, .no, .no, .no] _ _ _
      have hw : (Txt.split x " ").map PyData.str = .str (headW x) :: (tailW x).map .str := by rw [words_eq]; rfl
      apply fw_cps
      refine fw_asg (d := .list (.str (headW x) :: (tailW x).map .str)) (ev_eq (ev_split (ev_var rfl) (ev_str " ") (by decide +kernel) (Nat.le_trans (Nat.add_le_add_right hx.1 2) (by decide))) (by rw [hw])) ?_
      (dsimp only [List.set_cons_zero, List.set_cons_succ])
      apply fw_cps
      refine fw_disp sizesP (by decide +kernel) (by decide) fun o ho _ => ?_
      (dsimp only [List.set_cons_zero, List.set_cons_succ])
      have hB : ∀ N H, (Iv.nil.and (ivTw o sizesP)).p N H → H o = some (.dK (sizesP.map kvV)) := fun _ _ p => p.2
      generalize Iv.nil.and (ivTw o sizesP) = Φ at *
      have w0 : ∀ {Γ : Gm}, Γ[1]? = some (.dat (.list (.str (headW x) :: (tailW x).map .str))) → Ev (wd M H) Φ (tOp (rIxU P w K) (tVar 1) (tC (.int 0))) Γ (.str (headW x)) := fun h => ev_op (ev_var h) (ev_int 0) (od_ixL atI_hd)
      apply fw_cps
      refine fw_if (b := !fitsW x) (et_eq (et_test (ev_op (ev_eq (e := .int ((sizesP.lookup (headW x)).getD (-1))) (ev_tget2 hB rfl (w0 rfl) (ev_op (ev_int 0) (ev_int 1) od_subI)) (by cases sizesP.lookup (headW x) <;> rfl)) (ev_op (ev_cb (ea_cons (ev_var rfl) ea_nil) cb_lenL) (ev_int 1) od_subI) od_neI)) (by
        unfold fitsW
        rw [words_lenX]
        simp)) (fun hb => fw_ret ev_non ⟨_, rfl, by rw [stepD_none.mpr (step_none_fits (by simpa using hb))]⟩) fun hb => fw_next ?_
      have hfit : fitsW x = true := by simpa using hb
      obtain ⟨hlt2, _⟩ := fits_len hfit
      have hwords : ∀ {Γ : Gm}, Γ[1]? = some (.dat (.list (.str (headW x) :: (tailW x).map .str))) → EvI (wd M H) Φ (iSeqU K (tSl (rSlU K) (tVar 1) (tPart (tC (.int 1))) tNoPart)) Γ ((tailW x).map .str) := fun h => ei_eq (ei_seqL (ev_slL (ev_var h) (eo_some (ev_int 1)) eo_none)) (by
        rw [show (1 : Int) = ((1 : Nat) : Int) from rfl, cut_from2]
        rfl)
      refine fw_seq (N1 := fun Γ Φ' => Φ' = Φ ∧ (∀ w ∈ tailW x, (numOf w).isSome = true ∧ intText? w = numOf w) ∧ ∃ s3 s4, Γ = G5 x o s3 s4) (fw_for (hwords rfl) (fun k Γ Φ' => Φ' = Φ ∧ (∀ w ∈ (tailW x).take k, (numOf w).isSome = true ∧ intText? w = numOf w) ∧ ∃ s3 s4, Γ = G5 x o s3 s4) ⟨rfl, fun _ z => by simp at z, _, _, rfl⟩ (fun k d Γ1 Φ1 hk hI => ?_) fun Γ1 Φ1 hI => ?_) fun Γ1 Φ1 hI => ?_
      · obtain ⟨rfl, hb, s3, s4, rfl⟩ := hI
        have hkl : k < (tailW x).length := by
          have := (List.getElem?_eq_some_iff.mp hk).1
          simpa using this
        obtain ⟨wd', hwd⟩ : ∃ y, y = (tailW x)[k] := ⟨_, rfl⟩
        have e : d = .str wd' := by
          rw [List.getElem?_map, List.getElem?_eq_getElem hkl] at hk
          rw [hwd]
          exact (Option.some.inj hk).symm
        subst e
        have hmem : wd' ∈ tailW x := hwd ▸ List.getElem_mem hkl
        have wl : wd'.length ≤ 10000 ∧ lay wd' := ⟨by
          have h1 := tot_mem (words_mem hmem)
          have h2 := (split_bl x).2.1
          omega, lay_bl hx.2 _ (words_mem hmem)⟩
        refine ⟨_, tg_name, ?_⟩
        (dsimp only [List.set_cons_zero, List.set_cons_succ])
        have none_ : numOf wd' = none → FW (wd M H) (tRet (tC .non)) (G5 x o (.dat (.str wd')) s4) Φ1 (fun _ _ => False) (fun ro _ => ∃ d, ro = .dat d ∧ some (Rs.ok (stepD x)) = some (.ok d)) := fun z => fw_ret ev_non ⟨_, rfl, by rw [stepD_none.mpr (step_none_num hmem z)]⟩
        have hz3 : wd'.cps.toList.length = wd'.length := Array.length_toList
        have shw := lay_shd wl.2
        have lc : Ev (wd M H) Φ1 (tLc (iSeqU K (tVar 3)) (gName 4) (tTest (tOp (rNotInU K) (tVar 4) (tC (.str "0123456789")))) (tVar 4) [4]) (G5 x o (.dat (.str wd')) s4) (.list ((wd'.cps.toList.filter fun c => !digB c).map sgD)) :=
          ev_lc (xs := wd'.cps.toList) (enc := sgD) (fun c => !digB c) sgD (ei_seqS (ev_var rfl)) (by omega) fun c hc => ⟨_, tgw_name, et_eq (et_test (ev_op (ev_var rfl) (ev_str _) od_notInS)) (by rw [dig_in]), fun _ => ev_var rfl⟩
        have shc : SeqAt.shaped (.list ((wd'.cps.toList.filter fun c => !digB c).map sgD)) = true := (shd_lst (k := 0) fun d hd => by
          obtain ⟨c, hc, rfl⟩ := List.mem_map.mp hd
          exact sg_shd (lay_iff.mpr wl.2) (List.mem_filter.mp hc).1).ok
        have cond : EvT (wd M H) Φ1 (tOr (tTest (tOp rGtI (tCB (rLenU K) (tCons (tVar 3) tNil)) (tC (.int 3)))) (tOr (tTest (tOp (rEqD K) (tVar 3) (tC (.str "")))) (tTest (tOp (rNeD K) (tLc (iSeqU K (tVar 3)) (gName 4) (tTest (tOp (rNotInU K) (tVar 4) (tC (.str "0123456789")))) (tVar 4) [4]) (tLst tNil))))) (G5 x o (.dat (.str wd')) s4) (decide ((3 : Int) < (wd'.length : Int)) || (PyData.eqv (.str wd') (.str "") || !wd'.cps.toList.all digB)) :=
          et_or (et_test (ev_op (ev_cb (ea_cons (ev_var rfl) ea_nil) (cb_lenS (by omega))) (ev_int 3) od_gt)) fun _ => et_or (et_test (ev_op (ev_var rfl) (ev_str "") (od_eq shw.ok (by decide +kernel)))) fun _ => et_eq (et_test (ev_op lc (ev_lst ea_nil (by simp)) (od_neNilL shc))) (by
            rw [show ((wd'.cps.toList.filter fun c => !digB c).map sgD).isEmpty = (wd'.cps.toList.filter fun c => !digB c).isEmpty by simp, flt_all])
        cases hbb : decide ((3 : Int) < (wd'.length : Int)) || (PyData.eqv (.str wd') (.str "") || !wd'.cps.toList.all digB) with
        | true =>
          have hn : numOf wd' = none := by
            unfold numOf
            rw [if_neg]
            intro z
            rcases Bool.or_eq_true _ _ |>.mp hbb with y | y
            · have := of_decide_eq_true y
              omega
            · rcases Bool.or_eq_true _ _ |>.mp y with y | y
              · have : wd' = "" := by simpa [PyData.eqv] using y
                rw [this] at z
                exact absurd z.1.1 (by decide +kernel)
              · rw [z.2.1] at y
                cases y
          exact fw_seq (N1 := fun _ _ => False) (fw_if (b := true) (et_eq cond hbb) (fun _ => none_ hn) nofun) fun _ _ z => z.elim
        | false =>
          simp only [Bool.or_eq_false_iff, decide_eq_false_iff_not, Bool.not_eq_false'] at hbb
          obtain ⟨b1, b2, b3⟩ := hbb
          have hne : wd' ≠ "" := fun z => by
            rw [z] at b2
            revert b2
            decide +kernel
          have h1 : 1 ≤ wd'.length := by
            rcases Nat.eq_zero_or_pos wd'.length with z | z
            · exfalso
              apply hne
              refine str_list ?_
              rw [List.length_eq_zero_iff.mp (hz3.trans z)]
              decide +kernel
            · exact z
          obtain ⟨n, n1, n2, n3, n4⟩ := word_dig h1 (by omega) b3
          apply fw_cps
          refine fw_if (b := false) (et_eq cond (by rw [decide_eq_false b1, b2, b3]; rfl)) nofun fun _ => fw_next ?_
          have shn : SeqAt.shaped (.str (numT n)) = true := by
            have := okW_all n.toNat (by omega)
            simp only [okW, Bool.and_eq_true, decide_eq_true_eq, List.all_eq_true] at this
            rw [Int.toNat_of_nonneg n2] at this
            refine (lay_shd fun c hc => ?_).ok
            have := this.2.2.2 c hc
            simp only [digB, Bool.and_eq_true, decide_eq_true_eq] at this
            omega
          refine fw_if (b := !decide (numT n = wd')) (et_eq (et_test (ev_op (ev_cb (ea_cons (ev_cb (ea_cons (ev_var rfl) ea_nil) (cb_intS n1 (by omega))) ea_nil) (cb_strU (.inl ⟨_, rfl, Nat.lt_of_le_of_lt (Nat.log2_le_self _) (by omega), rfl⟩))) (ev_var rfl) (od_ne shn shw.ok))) (by
            rw [Bool.eq_iff_iff]
            simp [PyData.eqv])) (fun hb2 => ?_) fun hb2 => fw_next ?_
          · rw [if_neg (by simpa using hb2)] at n4
            refine fw_mono (none_ n4) fun _ _ z => z.elim
          · rw [if_pos (by simpa using hb2)] at n4
            refine ⟨rfl, fun v hv => ?_, _, _, rfl⟩
            rw [List.take_add_one, List.getElem?_eq_getElem hkl] at hv
            rcases List.mem_append.mp hv with hv | hv
            · exact hb v hv
            · have hv : v = wd' := by
                rw [hwd]
                simpa using hv
              subst hv
              rw [n4, n1]
              exact ⟨rfl, rfl⟩
      · obtain ⟨rfl, hb, s3, s4, rfl⟩ := hI
        refine ⟨rfl, ?_, s3, s4, rfl⟩
        rwa [List.length_map, List.take_length] at hb
      · obtain ⟨rfl, hall, s3, s4, rfl⟩ := hI
        have hst := step_some hfit fun w hw => (hall w hw).1
        refine fw_ret (d := stepD x) (ev_eq (ev_op (f := .tuple ([.str (headW x)] ++ (tailW x).map fun w => .int ((numOf w).getD 0))) (ev_tup (ea_cons (w0 rfl) ea_nil) (by simp)) (ev_cb (ea_cons (ev_lcm (xs := tailW x) (enc := .str) (fun w => .int ((numOf w).getD 0)) (hwords rfl) (by omega) fun w hw => ⟨_, tgw_name, ?_⟩) ea_nil) cb_tupL) (od_addT (by simp; omega))) (by unfold stepD; rw [hst]; rfl)) ⟨_, rfl, rfl⟩
        obtain ⟨a1, a2⟩ := hall w hw
        cases hn : numOf w with
        | none =>
          rw [hn] at a1
          cases a1
        | some n =>
          rw [hn] at a2
          refine ev_cb (ea_cons (ev_var rfl) ea_nil) (cb_intS a2 ?_)
          have : w.length ≤ 3 := by
            unfold numOf at hn
            split at hn
            · rename_i z
              exact z.1.2
            · cases hn
          omega
    · rw [f_law_read_not hx] at hr
      exact hr.elim
end
end Sp

set_option Elab.async false
set_option linter.all false
set_option maxRecDepth 100000
set_option maxHeartbeats 4000000
/-! A text told otherwise in one place. -/
namespace Sp
open PySem L2 SM SR SD SE
section
variable {P : Program} {w : World} {K : PySem.W.Frag} {a : Ad} {X : Wd} {Φ : Iv} {Γ : Gm} {i : Nat} {te : TE} {rs : List Str} {n : Nat}
theorem map_strL (ps qs : List Str) : ps.map PyData.str ++ qs.map PyData.str = (ps ++ qs).map PyData.str := (List.map_append).symm
theorem ev_to (h : Γ[i]? = some (.dat (.list (rs.map .str)))) (hn : Ev X Φ te Γ (dInt n)) : Ev X Φ (tSl (rSlU K) (tVar i) tNoPart (tPart te)) Γ (.list ((rs.take n).map .str)) := ev_eq (ev_slL (ev_var h) eo_none (eo_some hn)) (by rw [cut_to2, List.map_take])
theorem ev_from (h : Γ[i]? = some (.dat (.list (rs.map .str)))) (hn : Ev X Φ te Γ (dInt n)) : Ev X Φ (tSl (rSlU K) (tVar i) (tPart te) tNoPart) Γ (.list ((rs.drop n).map .str)) := ev_eq (ev_slL (ev_var h) (eo_some hn) eo_none) (by rw [cut_from2, List.map_drop])
theorem ev_app2 {ta tb : TE} {ps qs : List Str} (h1 : Ev X Φ ta Γ (.list (ps.map .str))) (h2 : Ev X Φ tb Γ (.list (qs.map .str))) (hl : ps.length + qs.length ≤ 100000) : Ev X Φ (tOp (rAddU K) ta tb) Γ (.list ((ps ++ qs).map .str)) := ev_eq (ev_op h1 h2 (od_addL (by simpa using hl))) (by rw [map_strL])
theorem ev_succ (h : Ev X Φ te Γ (dInt n)) : Ev X Φ (tOp (rAddU K) te (tC (.int 1))) Γ (dInt (n + 1)) := ev_eq (ev_op h (ev_int 1) od_addI) rfl
abbrev signs : Str := "0123456789 \nabcdefghijklmnopqrstuvwxyz!#$&'()*+,-./:;<=>?@ABCDEFGHIJKLMNOPQRSTUVWXYZ[]^_{|}~"
theorem signs_len : 12 ≤ signs.length ∧ signs.length ≤ 1000 := by decide +kernel
theorem signs_lay : ∀ c ∈ signs.cps.toList, c < 0x110000 := by decide +kernel
theorem sg_lay {c : Nat} (h : c < 0x110000) : lay (⟨#[c]⟩ : Str) := fun x hx => by
  have : x = c := by simpa using hx
  omega
theorem atI_ex {α : Type} {xs : List α} {k : Int} (h1 : 0 ≤ k) (h2 : k < xs.length) : ∃ x, L2.atI xs k = some x ∧ x ∈ xs := by
  have hk : k.toNat < xs.length := by omega
  refine ⟨xs[k.toNat], ?_, List.getElem_mem hk⟩
  unfold L2.atI ixN
  rw [if_pos h1, if_pos h2]
  show xs[k.toNat]? = _
  simp [hk]
def listsOk (b : Nat) (d : D) : Prop := ∃ qs : List Str, d = .list (qs.map .str) ∧ tot qs ≤ b ∧ ∀ q ∈ qs, lay q
theorem tot_take (ps : List Str) (k : Nat) : tot (ps.take k) ≤ tot ps := by
  have := tot_take_drop ps k
  omega
theorem tot_drop (ps : List Str) (k : Nat) : tot (ps.drop k) ≤ tot ps := by
  have := tot_take_drop ps k
  omega
theorem tot_mid {ps : List Str} {k : Nat} (h : k < ps.length) : tot (ps.take k) + (ps[k].length + 1) + tot (ps.drop (k + 1)) = tot ps := by
  have h1 := tot_take_drop ps k
  rw [List.drop_eq_getElem_cons h, tot_cons] at h1
  omega
abbrev odd10 : List Str := ["", "-", "0", "00", "1000", "999", "find", "mark", "x", "1 2"]
theorem odd10_ok : ∀ x ∈ odd10, x.length ≤ 4 ∧ ∀ c ∈ x.cps.toList, c < 0x110000 := by decide +kernel
abbrev G7 (r : Addr) (t : Str) (s2 s3 s4 s5 s6 s7 s8 s9 s10 : Sl) : Gm := [Sl.val (.ref r), .dat (.str t), s2, s3, s4, s5, s6, s7, s8, s9, s10]
theorem pure_law_spoilt (vs : List V) (H : Hp) (Q : VK) (E : XK) (h : sp_law_spoilt P w K a vs H Q E) : t_law_spoilt P w K a E { nx := fun _ H' => Q .non H', rt := Q } (L2.start n_law_spoilt vs) H := by
  obtain ⟨M, r, scr, us, ds, rfl, lv, mr, ra, rv, hx, q⟩ := id h
  refine fw_finRow (ds := ds) h fun M r scr us ds e rd hx h0 ro => ?_
  obtain ⟨d0, t, rfl, ht1, ht2, _⟩ := hx
  cases e
  refine ⟨_, env_startO h0 rd (by simp), ?_⟩
  show FW ⟨[r], M, H⟩ _ [Sl.val (.ref r), .dat (.str t), .no, .no, .no, .no, .no, .no, .no, .no, .no] _ _ _
  have fin : ∀ {te : TE} {Γ : Gm} {N : Gm → Iv → Prop} (t' : Str), Ev ⟨[r], M, H⟩ (ivRow K r scr) te Γ (.str t') → t'.length ≤ 2 * t.length + 20 → lay t' → FW ⟨[r], M, H⟩ (tRet te) Γ (ivRow K r scr) N (fun ro Φ' => Φ' = ivRow K r scr ∧ ∃ d, ro = .dat d ∧ f_spoiltL [.str t] d) := fun t' h h1 h2 => fw_ret h ⟨rfl, _, rfl, t, rfl, ht1, ht2, t', h1, h2, rfl⟩
  apply fw_cps
  refine fg_asg (eg_taken (n := 9) ro (evv_var rfl) (ev_int 9) (by decide) (by decide) fun way w1 w2 => ?_)
  (dsimp only [List.set_cons_zero, List.set_cons_succ])
  apply fw_cps
  refine fg_asg (eg_taken (n := (t.length : Int) + 1) ro (evv_var rfl) (ev_op (ev_cb (ea_cons (ev_var rfl) ea_nil) (cb_lenS (by omega))) (ev_int 1) od_addI) (by omega) (by omega) fun at_ a1 a2 => ?_)
  (dsimp only [List.set_cons_zero, List.set_cons_succ])
  apply fw_cps
  refine fw_asg (ev_str signs) ?_
  (dsimp only [List.set_cons_zero, List.set_cons_succ])
  obtain ⟨sl1, sl2⟩ := signs_len
  have sz : signs.cps.toList.length = signs.length := Array.length_toList
  refine fw_seq (N1 := fun Γ Φ => Φ = ivRow K r scr ∧ ∃ c : Nat, c < 0x110000 ∧ Γ = G7 r t (.dat (.int way)) (.dat (.int at_)) (.dat (.str signs)) (.dat (sgD c)) .no .no .no .no .no) (fg_asg (eg_op (eg_of (ev_var rfl) (eg_takenE ro (evv_var rfl) (eg_op (eg_lst (ega_cons (eg_of (ev_int 12) (ega_cons (eg_of (ev_cb (ea_cons (ev_var rfl) ea_nil) (cb_lenS (by omega))) (ega_nil ⟨by simp, eg_taken ro (evv_var rfl) (ev_int 2) (by decide) (by decide) fun z z1 z2 => ?_⟩)))))))))))  fun Γ1 Φ1 hI => ?_
  · obtain ⟨f, hoi, n, rfl, n1, n2⟩ := ix_all (P := P) (w := w) (K := K) (k := z) (ds := [.int 12, .int (signs.length : Int)]) (S := fun d => ∃ n : Int, d = .int n ∧ 1 ≤ n ∧ n ≤ signs.length) (fun d hd => by
      simp only [List.mem_cons, List.not_mem_nil, or_false] at hd
      rcases hd with rfl | rfl
      · exact ⟨_, rfl, by decide, by omega⟩
      · exact ⟨_, rfl, by omega, by omega⟩) z1 (by simpa using z2)
    refine ⟨_, hoi, rfl, n, rfl, n1, by omega, fun k k1 k2 => ?_⟩
    obtain ⟨c, hc, hm⟩ := atI_ex (xs := signs.cps.toList) k1 (by omega)
    exact ⟨_, od_ixS (by omega) hc, rfl, c, signs_lay c hm, rfl⟩
  obtain ⟨rfl, c, hc, rfl⟩ := hI
  -- a sign
  have lc := sg_lay hc
  have l1 : (⟨#[c]⟩ : Str).length = 1 := rfl
  apply fw_cps
  refine fw_if (b := decide (way < 3)) (et_test (ev_op (ev_var rfl) (ev_int 3) od_lt)) (fun hb => ?_) fun hb => fw_next ?_
  · have hb : way < 3 := of_decide_eq_true hb
    obtain ⟨f, hoi, m, rfl, m1, m2⟩ := ix_all (P := P) (w := w) (K := K) (k := way) (ds := [sgD c, .str "", sgD c]) (S := fun d => ∃ m : Str, d = .str m ∧ m.length ≤ 1 ∧ lay m) (fun d hd => by
      simp only [List.mem_cons, List.not_mem_nil, or_false] at hd
      rcases hd with rfl | rfl | rfl
      · exact ⟨_, rfl, by omega, lc⟩
      · exact ⟨_, rfl, by decide +kernel, fun c hc => by
          have : ∀ c ∈ ("" : Str).cps.toList, c < 0x110000 := by decide +kernel
          exact this c hc⟩
      · exact ⟨_, rfl, by omega, lc⟩) w1 (by simpa using hb)
    have c1 := cutS_length t none (some at_)
    have c2 := cutS_length t (some (at_ + if decide ((0 : Int) < way) then 1 else 0)) none
    refine fin (cutS t none (some at_) ++ m ++ cutS t (some (at_ + if decide ((0 : Int) < way) then 1 else 0)) none) (ev_op (ev_op (ev_slS (ev_var rfl) eo_none (eo_some (ev_var rfl)) (by omega)) (ev_op (ev_lst (ea_cons (ev_var rfl) (ea_cons (ev_str "") (ea_cons (ev_var rfl) ea_nil))) (by simp)) (ev_var rfl) hoi) (od_addS (by omega))) (ev_slS (ev_var rfl) (eo_some (ev_op (ev_var rfl) (ev_cb (ea_cons (ev_op (ev_var rfl) (ev_int 0) od_gt) ea_nil) cb_intB) od_addI)) eo_none (by omega)) (od_addS (by rw [len_app]; omega))) ?_ (lay_app (lay_app (lay_cut ht2 _ _) m2) (lay_cut ht2 _ _))
    rw [len_app, len_app]
    omega
  have hb3 : ¬ way < 3 := of_decide_eq_false hb
  -- rows
  obtain ⟨rs, hrs⟩ : ∃ rs, rs = Txt.split t "\n" := ⟨_, rfl⟩
  obtain ⟨hne, htot, _⟩ := split_nl t
  have hlay := lay_nl ht2
  rw [← hrs] at hne htot hlay
  have hrl := tot_len rs
  have hrp : 0 < rs.length := List.length_pos_iff.mpr hne
  apply fw_cps
  refine fw_asg (d := .list (rs.map .str)) (ev_eq (ev_split (ev_var rfl) (ev_str "\n") (by decide +kernel) (Nat.le_trans (Nat.add_le_add_right ht1 2) (by decide))) (by rw [hrs])) ?_
  (dsimp only [List.set_cons_zero, List.set_cons_succ])
  have lenR : ∀ {Γ : Gm}, Γ[6]? = some (.dat (.list (rs.map .str))) → Ev ⟨[r], M, H⟩ (ivRow K r scr) (tCB (rLenU K) (tCons (tVar 6) tNil)) Γ (.int (rs.length : Int)) := fun h => ev_eq (ev_cb (ea_cons (ev_var h) ea_nil) cb_lenL) (by simp)
  refine fw_seq (N1 := fun Γ Φ => Φ = ivRow K r scr ∧ ∃ k : Nat, k < rs.length ∧ Γ = G7 r t (.dat (.int way)) (.dat (.int at_)) (.dat (.str signs)) (.dat (sgD c)) (.dat (.list (rs.map .str))) (.dat (dInt k)) .no .no .no) (fg_asg (eg_op (eg_lst (ega_cons (eg_taken (n := (rs.length : Int)) ro (evv_var rfl) (lenR rfl) (by omega) (by omega) fun y y1 y2 => ega_cons (eg_of (ev_op (lenR rfl) (ev_int 1) od_subI) (ega_nil ⟨by simp, eg_op (eg_taken ro (evv_var rfl) (ev_int 4) (by decide) (by decide) fun z z1 z2 => eg_of (ev_int 3) ⟨_, od_divI ⟨by decide, by decide⟩, ?_⟩)⟩))))))) fun Γ1 Φ1 hI => ?_
  · obtain ⟨f, hoi, k, rfl, hk⟩ := ix_all (P := P) (w := w) (K := K) (k := z / 3) (ds := [.int y, .int ((rs.length : Int) - 1)]) (S := fun d => ∃ k : Nat, d = dInt k ∧ k < rs.length) (fun d hd => by
      simp only [List.mem_cons, List.not_mem_nil, or_false] at hd
      rcases hd with rfl | rfl
      · exact ⟨y.toNat, by show PyData.int y = PyData.int (y.toNat : Int); rw [Int.toNat_of_nonneg y1], by omega⟩
      · exact ⟨rs.length - 1, by show PyData.int _ = PyData.int _; congr 1; omega, by omega⟩) (by omega) (by simp; omega)
    exact ⟨_, hoi, rfl, k, hk, rfl⟩
  obtain ⟨rfl, k, hk, rfl⟩ := hI
  have t1 := tot_take rs k
  have t2 := tot_drop rs (k + 1)
  have t3 := tot_take rs (k + 1)
  have t4 := tot_drop rs k
  have t5 := tot_take_drop rs k
  have t6 := tot_mid hk
  have layt : ∀ (n : Nat), ∀ q ∈ rs.take n, lay q := fun n q hq => hlay q (List.mem_of_mem_take hq)
  have layd : ∀ (n : Nat), ∀ q ∈ rs.drop n, lay q := fun n q hq => hlay q (List.mem_of_mem_drop hq)
  have lay2 : ∀ {ps qs : List Str}, (∀ q ∈ ps, lay q) → (∀ q ∈ qs, lay q) → ∀ q ∈ ps ++ qs, lay q := fun h1 h2 q hq => (List.mem_append.mp hq).elim (h1 q) (h2 q)
  have ll : ∀ n, (rs.take n).length ≤ 5001 ∧ (rs.drop n).length ≤ 5001 := fun n => by
    rw [List.length_take, List.length_drop]
    omega
  apply fw_cps
  refine fw_if (b := decide (way < 6)) (et_test (ev_op (ev_var rfl) (ev_int 6) od_lt)) (fun hb => ?_) fun hb => fw_next ?_
  · have hb : way < 6 := of_decide_eq_true hb
    obtain ⟨f, hoi, qs, rfl, q1, q2⟩ := ix_all (P := P) (w := w) (K := K) (k := way - 3) (ds := [.list ((rs.take k ++ rs.drop (k + 1)).map .str), .list ((rs.take (k + 1) ++ rs.drop k).map .str), .list ((rs.drop k ++ rs.take k).map .str)]) (S := listsOk (2 * (t.length + 1))) (fun d hd => by
      simp only [List.mem_cons, List.not_mem_nil, or_false] at hd
      rcases hd with rfl | rfl | rfl
      · exact ⟨_, rfl, by rw [tot_app]; omega, lay2 (layt _) (layd _)⟩
      · exact ⟨_, rfl, by rw [tot_app]; omega, lay2 (layt _) (layd _)⟩
      · exact ⟨_, rfl, by rw [tot_app]; omega, lay2 (layd _) (layt _)⟩) (by omega) (by simp; omega)
    have l1 := ll k
    have l2 := ll (k + 1)
    refine fin (Txt.join "\n" qs) (ev_join1 (ev_str "\n") (ev_op (ev_lst (ea_cons (ev_app2 (ev_to rfl (ev_var rfl)) (ev_from rfl (ev_succ (ev_var rfl))) (by omega)) (ea_cons (ev_app2 (ev_to rfl (ev_succ (ev_var rfl))) (ev_from rfl (ev_var rfl)) (by omega)) (ea_cons (ev_app2 (ev_from rfl (ev_var rfl)) (ev_to rfl (ev_var rfl)) (by omega)) ea_nil))) (by simp)) (ev_op (ev_var rfl) (ev_int 3) od_subI) hoi) one_nl (by omega)) ?_ (lay_join lay_nlc q2)
    have := join_tot "\n" one_nl qs
    omega
  have hb6 : ¬ way < 6 := of_decide_eq_false hb
  -- words
  obtain ⟨rk, hrk⟩ : ∃ rk, rk = rs[k] := ⟨_, rfl⟩
  have hrm : rk ∈ rs := hrk ▸ List.getElem_mem hk
  have hrkl : rk.length ≤ t.length := by
    have := tot_mem hrm
    omega
  rw [← hrk] at t6
  have ixR : ∀ {Γ : Gm}, Γ[6]? = some (.dat (.list (rs.map .str))) → Γ[7]? = some (.dat (dInt k)) → Ev ⟨[r], M, H⟩ (ivRow K r scr) (tOp (rIxU P w K) (tVar 6) (tVar 7)) Γ (.str rk) := fun h1 h2 => ev_op (ev_var h1) (ev_var h2) (od_ixL (by
    rw [atI_nat (l := rs.map PyData.str) (n := k) (i := (k : Int)) rfl (by simpa using hk)]
    rw [List.getElem?_map, List.getElem?_eq_getElem hk, hrk]
    rfl))
  obtain ⟨ws, hws⟩ : ∃ ws, ws = Txt.split rk " " := ⟨_, rfl⟩
  obtain ⟨hwne, hwtot, _⟩ := split_bl rk
  have hwlay := lay_bl (hlay rk hrm)
  rw [← hws] at hwne hwtot hwlay
  have hwl := tot_len ws
  have hwp : 0 < ws.length := List.length_pos_iff.mpr hwne
  apply fw_cps
  refine fw_asg (d := .list (ws.map .str)) (ev_eq (ev_split (ixR rfl rfl) (ev_str " ") (by decide +kernel) (Nat.le_trans (Nat.add_le_add_right (Nat.le_trans hrkl ht1) 2) (by decide))) (by rw [hws])) ?_
  (dsimp only [List.set_cons_zero, List.set_cons_succ])
  apply fw_cps
  refine fg_asg (eg_taken (n := (ws.length : Int)) ro (evv_var rfl) (ev_eq (ev_cb (ea_cons (ev_var rfl) ea_nil) cb_lenL) (by simp)) (by omega) (by omega) fun j0 j1 j2 => ?_)
  obtain ⟨j, rfl⟩ : ∃ j : Nat, j0 = (j : Int) := ⟨j0.toNat, by omega⟩
  have hj : j < ws.length := by omega
  (dsimp only [List.set_cons_zero, List.set_cons_succ])
  apply fw_cps
  refine fw_asg (d := .list (odd10.map .str)) (ev_lst (ea_cons (ev_str _) (ea_cons (ev_str _) (ea_cons (ev_str _) (ea_cons (ev_str _) (ea_cons (ev_str _) (ea_cons (ev_str _) (ea_cons (ev_str _) (ea_cons (ev_str _) (ea_cons (ev_str _) (ea_cons (ev_str _) ea_nil)))))))))) (by simp)) ?_
  (dsimp only [List.set_cons_zero, List.set_cons_succ])
  have u1 := tot_mid hj
  have wlt : ∀ (n : Nat), (ws.take n).length ≤ 5001 ∧ (ws.drop n).length ≤ 5001 := fun n => by
    rw [List.length_take, List.length_drop]
    omega
  have ixW : ∀ {Γ : Gm}, Γ[8]? = some (.dat (.list (ws.map .str))) → Γ[9]? = some (.dat (.int (j : Nat))) → Ev ⟨[r], M, H⟩ (ivRow K r scr) (tOp (rIxU P w K) (tVar 8) (tVar 9)) Γ (.str ws[j]) := fun h1 h2 => ev_op (ev_var h1) (ev_var h2) (od_ixL (by
    rw [atI_nat (l := ws.map PyData.str) (n := j) (i := (j : Int)) rfl (by simpa using hj)]
    rw [List.getElem?_map, List.getElem?_eq_getElem hj]
    rfl))
  refine fw_seq (N1 := fun Γ Φ => Φ = ivRow K r scr ∧ ∃ vs : List Str, tot vs ≤ 2 * (rk.length + 1) + 5 ∧ (∀ q ∈ vs, lay q) ∧ Γ = G7 r t (.dat (.int way)) (.dat (.int at_)) (.dat (.str signs)) (.dat (sgD c)) (.dat (.list (rs.map .str))) (.dat (dInt k)) (.dat (.list (vs.map .str))) (.dat (.int (j : Nat))) (.dat (.list (odd10.map .str)))) (fg_asg (eg_op (eg_op (eg_of (ev_to (n := j) rfl (ev_var rfl)) (eg_op (eg_lst (ega_cons (eg_of (ev_lst ea_nil (by simp)) (ega_cons (eg_of (ev_op (ev_lst (ea_cons (ixW rfl rfl) ea_nil) (by simp)) (ev_int 2) (od_repL (by simp) (by decide) (by decide))) (ega_cons (eg_lst (ega_cons (eg_op (eg_of (ev_var rfl) (eg_taken ro (evv_var rfl) (ev_int 10) (by decide) (by decide) fun y y1 y2 => ?_)))))))))))))))) fun Γ1 Φ1 hI => ?_
  · obtain ⟨f, hoi, x, rfl, x1, x2⟩ := ix_all (P := P) (w := w) (K := K) (k := y) (ds := odd10.map .str) (S := fun d => ∃ x : Str, d = .str x ∧ x.length ≤ 4 ∧ lay x) (fun d hd => by
      obtain ⟨x, hx, rfl⟩ := List.mem_map.mp hd
      exact ⟨x, rfl, odd10_ok x hx⟩) y1 (by simpa using y2)
    refine ⟨_, hoi, ega_nil ⟨by simp, ega_nil ⟨by simp, eg_of (ev_op (ev_var rfl) (ev_int 6) od_subI) ?_⟩⟩⟩
    have lw := hwlay _ (List.getElem_mem hj)
    obtain ⟨f2, hoi2, qs, rfl, q1, q2⟩ := ix_all (P := P) (w := w) (K := K) (k := way - 6) (ds := [.list [], .list (List.replicate (2 : Int).toNat [PyData.str ws[j]]).flatten, .list [.str x]]) (S := listsOk (2 * (ws[j].length + 1) + 5)) (fun d hd => by
      simp only [List.mem_cons, List.not_mem_nil, or_false] at hd
      rcases hd with rfl | rfl | rfl
      · exact ⟨[], rfl, Nat.zero_le _, nofun⟩
      · refine ⟨[ws[j], ws[j]], rfl, by simp only [tot_cons, tot_nil]; omega, fun q hq => ?_⟩
        simp only [List.mem_cons, List.not_mem_nil, or_false] at hq
        rcases hq with rfl | rfl <;> exact lw
      · refine ⟨[x], rfl, by simp only [tot_cons, tot_nil]; omega, fun q hq => ?_⟩
        rw [List.mem_singleton.mp hq]
        exact x2) (by omega) (by simp; omega)
    have l1 := wlt j
    have l2 := wlt (j + 1)
    have l3 := tot_len qs
    refine ⟨_, hoi2, _, od_addL (by simp only [List.length_map]; omega), eg_of (ev_from (n := j + 1) rfl (ev_succ (ev_var rfl))) ⟨_, od_addL (by simp only [List.length_map, List.length_append]; omega), rfl, (ws.take j ++ qs) ++ ws.drop (j + 1), ?_, ?_, by simp⟩⟩
    · rw [tot_app, tot_app]
      omega
    · intro q hq
      rcases List.mem_append.mp hq with hq | hq
      · rcases List.mem_append.mp hq with hq | hq
        · exact hwlay q (List.mem_of_mem_take hq)
        · exact q2 q hq
      · exact hwlay q (List.mem_of_mem_drop hq)
  obtain ⟨rfl, vs2, v1, v2, rfl⟩ := hI
  have jl := join_tot " " one_bl vs2
  have l1 := ll k
  have l2 := ll (k + 1)
  refine fin (Txt.join "\n" ((rs.take k ++ [Txt.join " " vs2]) ++ rs.drop (k + 1))) (ev_join1 (ev_str "\n") (ev_app2 (ev_app2 (ev_to rfl (ev_var rfl)) (ev_lst (ea_cons (ev_join1 (ev_str " ") (ev_var rfl) one_bl (by omega)) ea_nil) (by simp)) (by simp; omega)) (ev_from rfl (ev_succ (ev_var rfl))) (by simp; omega)) one_nl ?_) ?_ (lay_join lay_nlc (lay2 (lay2 (layt _) fun q hq => ?_) (layd _)))
  · simp only [tot_app, tot_cons, tot_nil]
    omega
  · have := join_tot "\n" one_nl ((rs.take k ++ [Txt.join " " vs2]) ++ rs.drop (k + 1))
    simp only [tot_app, tot_cons, tot_nil] at this
    omega
  · rw [List.mem_singleton.mp hq]
    exact lay_join lay_blc v2
end
end Sp

set_option Elab.async false
set_option linter.all false
set_option maxRecDepth 100000
set_option maxHeartbeats 4000000
/-! Comprehensions over what is drawn; a step of a file that is made for it. -/
namespace SE
open PySem L2 SM SR SD Sp
section
variable {X : Wd} {Φ Φ2 : Iv} {H H1 H2 H3 : Hp} {L L' : Lo} {σ : L2.St} {Γ Γ' : Gm} {v : V} {d e : D} {i j : Nat} {ta tb te : TE} {tt tu : TT} {S : D → Iv → Prop}
/-- [e for x in xs], over what is drawn; what is held stays -/
theorem eg_lcg {α : Type} {wi : TI} {gt : TG} {vs : List Nat} {enc : α → D} (A : α → D → Prop) (hi : EgI X Φ wi Γ fun ds Φ2 => Φ2 = Φ ∧ ∃ xs : List α, ds = xs.map enc ∧ xs.length < 100000 ∧
    (∀ x ∈ xs, ∃ Γ2, TgW X Φ gt vs (enc x) (wipeG Γ vs) Γ2 ∧ Eg X Φ te Γ2 fun d Φ2 => A x d ∧ Φ2 = Φ) ∧ ∀ ds, All2 A xs ds → S (.list ds) Φ) : Eg X Φ (tLc wi gt tYes te vs) Γ S := fun L H σ c gg Q q =>
  hi L H σ c gg _ fun J Ha ds0 Φa ca sa ka wk hx => by
    obtain ⟨e0, xs, rfl, hz, hs, hq⟩ := hx
    have e0 := e0.symm
    subst e0
    intro D hD
    have c1 := ca
    have g1 := gg.kp sa ka
    have sD := new_same (o := .lst []) hD
    have nD : D ∉ hdn X Φ L := c1.lv.out hD
    obtain ⟨c0, s0, _⟩ := own_new (i := 0) (vs := []) (ds := []) c1 g1 hD .nil
    have gD : ∀ H1, SameS (hd X Φ L Ha) (hd X Φ ((0, D) :: L) H1) → Kp L Ha H1 → EnvD X Φ ((0, D) :: L) H1 σ Γ := fun H1 s1 k1 => ⟨g1.len, fun j t hj => by
      have z := g1.ok j t hj
      cases t with
      | no => trivial
      | dat d =>
        obtain ⟨v, h1, h2⟩ := z
        exact ⟨v, h1, h2.mono s1⟩
      | val v => exact z
      | own ds =>
        obtain ⟨l', vs2, a1, a2, a3, a4⟩ := z
        exact ⟨l', vs2, a1, List.mem_cons_of_mem _ a2, (k1 _ a2).trans a3, a4.mono s1⟩
      | tre d =>
        obtain ⟨v, A1, a1, a2, a4, a3⟩ := z
        exact ⟨v, A1, a1, fun l hl => List.mem_cons_of_mem _ (a2 l hl), fun l hl => (a4 l hl).imp fun _ e => (k1 _ (a2 l hl)).trans e, a3.mono (tgv_mono (fun l hl o e => (k1 _ (a2 l hl)).trans e) s1)⟩⟩
    refine ⟨fun i m H1 => m = xs.length - i ∧ i ≤ xs.length ∧ Cur X Φ ((0, D) :: L) H1 ∧ SameS (hd X Φ L Ha) (hd X Φ ((0, D) :: L) H1) ∧ Kp L Ha H1 ∧ ∃ us ds, H1 D = some (.lst us) ∧ Dts (hd X Φ ((0, D) :: L) H1) us ds ∧ All2 A (xs.take i) ds, ⟨xs.length, by simp, Nat.zero_le _, c0, s0, Kp.same c1 sD, [], [], upd_same, .nil, by simpa using All2.nil⟩, ?_⟩
    rintro i m H1 ⟨rfl, hle, cD, s1, k1, us, ds, hus, rus, hA⟩
    obtain ⟨go, stop⟩ := wk _ H1 s1 cD.lv
    rw [List.length_map] at stop
    by_cases hlt : i < xs.length
    · obtain ⟨y1, y2⟩ := go i (enc xs[i]) (by simp [hlt])
      obtain ⟨Γ2, ht, ht3⟩ := hs xs[i] (List.getElem_mem hlt)
      have tk : xs.take (i + 1) = xs.take i ++ [xs[i]] := by rw [List.take_add_one]; simp [hlt]
      refine .inr ⟨y1, fun H' => Cur X Φ ((0, D) :: L) H' ∧ SameS (hd X Φ L Ha) (hd X Φ ((0, D) :: L) H') ∧ Kp L Ha H' ∧ ∃ us ds, H' D = some (.lst us) ∧ Dts (hd X Φ ((0, D) :: L) H') us ds ∧ All2 A (xs.take (i + 1)) ds, fun H' z => ⟨_, by omega, rfl, hlt, z⟩, fun x H' y => ?_⟩
      obtain ⟨e2, rx⟩ := y2 x H' y
      refine ht ((0, D) :: L) H' (L2.wipe σ vs) x (((gD H1 s1 k1).up e2).wipe vs) rx _ fun σ2 g2 w2 => ⟨?_, ?_⟩
      · rw [w2]
        exact SE.ev_lc0.wipe_wipe (xs := xs) σ vs
      show te σ2 H' _
      refine ht3 _ H' σ2 (cD.up e2) g2 _ fun v H4 d Φ4 c4 s4 k4 z r4 => ?_
      obtain ⟨z, rfl⟩ := z
      have hus4 : H4 D = some (.lst us) := (k4 (0, D) List.mem_cons_self).trans (e2 _ _ hus)
      have rus4 := (rus.mono (Same.s (Same.hid e2))).mono s4
      have zl : us.length < sizeLine := by
        have h2 := hA.len
        have h1 := Dts.len rus
        rw [List.length_take] at h2
        exact Nat.lt_of_lt_of_le (by omega) (by decide : 100000 ≤ sizeLine)
      have g4 := g2.kp s4 k4
      have hput : Cur X Φ4 ((0, D) :: L) (upd H4 D (.lst (us ++ [v]))) ∧ SameS (hd X Φ4 ((0, D) :: L) H4) (hd X Φ4 ((0, D) :: L) (upd H4 D (.lst (us ++ [v])))) := SE.eg_lcm.put0 c4 hus4
      refine ⟨us, hus4, zl, hput.1, (((s1.trans (Same.s (Same.hid e2))).trans s4).trans hput.2), fun p hp => ?_, us ++ [v], ds ++ [d], upd_same, ((rus4.app (.cons r4 .nil)).mono hput.2), ?_⟩
      · have hne : p.2 ≠ D := fun z => nD (by rw [← z]; exact Or.inl (List.mem_map.mpr ⟨p, hp, rfl⟩))
        rw [upd_ne hne, k4 p (List.mem_cons_of_mem _ hp), Kp.same cD e2 p (List.mem_cons_of_mem _ hp), k1 p hp]
      · rw [tk]
        exact hA.snoc z
    · have e : i = xs.length := by omega
      subst e
      rw [List.take_length] at hA
      have sub : Same (hd X Φ ((0, D) :: L) H1) (hd X Φ L H1) := hid_sub fun a ha => mem_cons_hdn.mpr (.inr ha)
      refine .inl ⟨stop, q _ H1 _ Φ ⟨cD.but, fun a m => cD.lv a (mem_cons_hdn.mpr (.inr m)), fun p hp => cD.new p (List.mem_cons_of_mem _ hp), fun p hp => cD.om p (List.mem_cons_of_mem _ hp), ?_, fun p hp => cD.dj p (List.mem_cons_of_mem _ hp), Iv.same (Same.refl _) (Same.s sub) cD.at_, fun p hp => cD.ls p (List.mem_cons_of_mem _ hp)⟩ (sa.trans (s1.trans (Same.s sub))) (ka.trans k1) (hq ds hA) (.lst ?_ (rus.mono (Same.s sub)))⟩
      · have := cD.nd
        rw [List.map_cons, List.nodup_cons] at this
        exact this.2
      · exact (hid_out nD).trans hus
end
end SE
namespace Sp
open PySem L2 SM SR SD SE
section
variable {P : Program} {w : World} {K : PySem.W.Frag} {a : Ad} {X : Wd} {Φ : Iv} {r scr : Addr} {Γ : Gm} {E E2 : XK} {ta : TA} {S0 : D → Iv → Prop} {i : Nat}
/-- a step that is drawn for a new file -/
theorem eg_stepMade {b : Bool} {room fill spare : Nat} {rs : List Row} (ro : RowOf K X Φ r scr) (hi : Γ[i]? = some (.val (.ref r))) (ha : EvA X Φ ta Γ [shapeD room fill spare, dList rs]) (h1 : 1 ≤ fill) (h2 : fill ≤ 1000) (h3 : spare ≤ 1000) (h4 : rs.length ≤ 1000) (wf : WF (mkFS room fill spare rs)) (s : ∀ st, StpGot (mkFS room fill spare rs) b st → S0 (dStp st) Φ) :
    Eg X Φ (tCall (sp_law_step P w K a) [] E (tCons (tVar i) (tCons (tCall (sp_law_made P w K a) [] E2 ta) (tCons (tC (.bl b)) tNil)))) Γ S0 := fun L H σ c g Q q => by
  refine ⟨_, g.ok i _ hi, ha L H σ c g _ fun vs H1 e1 rv => ?_⟩
  have c1 := c.up e1
  rw [List.append_nil]
  refine ⟨hdn X Φ L, room, fill, spare, rs, c1.lv, rv, h1, h2, h3, h4, fun G H' e2 fr md => ?_⟩
  obtain ⟨c2, s2⟩ := Cur.add (Ψ := ivM G (mkFS room fill spare rs)) c1 e2 fr md.live (md.hide fun b hb => mem_and.mp hb)
  have nr : r ∉ G.foot := fun z => c1.lv r (Or.inr (Or.inr ro.ir)) (fr r z)
  have hI : MHas (Φ.and (ivM G (mkFS room fill spare rs))) G (mkFS room fill spare rs) := (mhas_iv wf).andr
  have ro2 : RowOf K X (Φ.and (ivM G (mkFS room fill spare rs))) r scr := ro.and nr
  refine ⟨hdn X (Φ.and (ivM G (mkFS room fill spare rs))) L, r, scr, G, mkFS room fill spare rs, [.bl b], [.bool b], rfl, c2.lv, Or.inr (Or.inr ro2.ir), nr, fun x hx => Or.inr (Or.inr (hI.sub x hx)), ro2.at_ _ _ c2.at_, hI.at_ _ _ c2.at_, hI.wf, .cons (.bl b) .nil, ⟨dStp (.put 0 0), b, rfl, .put 0 0, (by show RowOk (0, 0); decide), rfl⟩, fun v d H3 fd bt ra rd => ?_⟩
  obtain ⟨b', e, st, hst, rfl⟩ := fd
  cases e
  obtain ⟨c3, s3, k3⟩ := Cur.row ro2 c2 bt ra
  obtain ⟨c4, s4⟩ := Cur.and1 c3
  exact q v H3 _ Φ c4 ((((Same.s (Same.hid e1)).trans s2).trans s3).trans s4) (((Kp.same c e1).trans (Kp.same c1 e2)).trans k3) (s st hst) (rd.mono s4)
end
end Sp

set_option Elab.async false
set_option linter.all false
set_option maxRecDepth 100000
set_option maxHeartbeats 4000000
/-! Steps as data, for k21. -/
namespace Sp
open PySem L2 SM SR SD SE
theorem no_badD {ds : List D} (h : ∀ d ∈ ds, isStep d = true) (hl : ds.length ≤ 300) : badStep ds = none := by
  unfold badStep
  rw [List.find?_eq_none]
  intro i hi
  have hi : i < ds.length := by simpa using hi
  have : isStep (ds.getD i .none) = true := by
    rw [List.getD_eq_getElem?_getD, List.getElem?_eq_getElem hi]
    exact h _ (List.getElem_mem hi)
  simp only [badStepAt, this]
  simp
  omega
theorem rep_one {α : Type} (d : α) : ∀ c : Nat, (List.replicate c [d]).flatten = List.replicate c d
  | 0 => rfl
  | c + 1 => by
    rw [List.replicate_succ, List.flatten_cons, rep_one d c, List.replicate_succ]
    rfl
theorem wordsL : ∀ x ∈ (["find", "look", "put", "take", "mark", "next", "relay", "stop", "mend"] : List Str), ∀ c ∈ x.cps.toList, c < 0x110000 := by decide +kernel
theorem rowT_lay {d : D} (h : isStep d = true) : lay (rowT d) := by
  obtain ⟨x, ns, q1, q2, q3, q4, rfl⟩ := step_parts h
  refine lay_join lay_blc fun p hp => ?_
  obtain ⟨d, hd, rfl⟩ := List.mem_map.mp hp
  rcases List.mem_cons.mp hd with rfl | hd
  · exact wordsL x q1
  · obtain ⟨n, hn, rfl⟩ := List.mem_map.mp hd
    intro c hc
    have := okW_all n (q4 n hn)
    simp only [okW, Bool.and_eq_true, decide_eq_true_eq, List.all_eq_true] at this
    have := this.2.2.2 c hc
    simp only [digB, Bool.and_eq_true, decide_eq_true_eq] at this
    omega
theorem text_lay {ds : List D} (h : ∀ d ∈ ds, isStep d = true) : lay (textT ds) := lay_join lay_nlc fun p hp => by
  obtain ⟨d, hd, rfl⟩ := List.mem_map.mp hp
  exact rowT_lay (h d hd)
theorem text_len8 {ds : List D} (h : ∀ d ∈ ds, isStep d = true) (hl : ds.length ≤ 8) : (textT ds).length ≤ 200 := by
  have h1 := join_len ("\n" : Str) (ds.map rowT)
  have h3 := sum_le (f := fun d => (rowT d).length) (c := 18) fun d hd => (row_len (h d hd)).2
  have e : ((ds.map rowT).map (·.length)).sum = (ds.map fun d => (rowT d).length).sum := by rw [List.map_map]; rfl
  rw [e, List.length_map, one_nl] at h1
  show (Txt.join "\n" (ds.map rowT)).length ≤ _
  omega
end Sp

set_option Elab.async false
set_option linter.all false
set_option maxRecDepth 100000
set_option maxHeartbeats 4000000
/-! Law k21. -/
namespace Sp
open PySem L2 SM SR SD SE LamX
section
variable {P : Program} {w : World} {K : PySem.W.Frag} {a : Ad}
abbrev some1 : List Str := ["", "\n", " ", "find", "find 3", "find 03", "find 1000", "put 3", "put 3 4", "mark", "mark 0", "mend\n"]
abbrev some2 : List Str := ["stop 99\n\nmend", " mark", "mark ", "look  3", "Look 3", "next -1", "relay 0"]
abbrev some3 : List Str := ["take 9 9", "find 999"]
def some4 : List Str := [Txt.join "\n" (List.replicate 300 "mark"), Txt.join "\n" (List.replicate 301 "mark"), Txt.join "\n" (List.replicate 300 ("mend" : Str) ++ [("x" : Str)])]
def okT (x : Str) : Prop := x.length ≤ 1900 ∧ lay x
theorem some123 : ∀ x ∈ (some1 ++ some2) ++ some3, x.length ≤ 1900 ∧ ∀ c ∈ x.cps.toList, c < 0x110000 := by decide +kernel
theorem rep_tot (x : Str) : ∀ n, tot (List.replicate n x) = n * (x.length + 1)
  | 0 => by simp [tot]
  | n + 1 => by
    rw [List.replicate_succ, tot_cons, rep_tot x n, Nat.add_mul]
    omega
theorem word_lay : lay "mark" ∧ lay "mend" ∧ lay "x" := by
  have : (∀ c ∈ ("mark" : Str).cps.toList, c < 0x110000) ∧ (∀ c ∈ ("mend" : Str).cps.toList, c < 0x110000) ∧ ∀ c ∈ ("x" : Str).cps.toList, c < 0x110000 := by decide +kernel
  exact this
theorem some4_ok : ∀ x ∈ some4, okT x := fun x hx => by
  have m4 : ("mark" : Str).length = 4 := by decide +kernel
  have n4 : ("mend" : Str).length = 4 := by decide +kernel
  have x1 : ("x" : Str).length = 1 := by decide +kernel
  simp only [some4, List.mem_cons, List.not_mem_nil, or_false] at hx
  rcases hx with rfl | rfl | rfl
  · refine ⟨Nat.le_trans (join_tot _ one_nl _) (by rw [rep_tot, m4]; decide), lay_join lay_nlc fun p hp => ?_⟩
    rw [List.eq_of_mem_replicate hp]
    exact word_lay.1
  · refine ⟨Nat.le_trans (join_tot _ one_nl _) (by rw [rep_tot, m4]; decide), lay_join lay_nlc fun p hp => ?_⟩
    rw [List.eq_of_mem_replicate hp]
    exact word_lay.1
  · refine ⟨Nat.le_trans (join_tot _ one_nl _) (by rw [tot_app, rep_tot, n4, tot_cons, tot_nil, x1]; decide), lay_join lay_nlc fun p hp => ?_⟩
    rcases List.mem_append.mp hp with hp | hp
    · rw [List.eq_of_mem_replicate hp]
      exact word_lay.2.1
    · rw [List.mem_singleton.mp hp]
      exact word_lay.2.2
abbrev someX : List Str := ((some1 ++ some2) ++ some3) ++ some4
theorem some_ok : ∀ x ∈ someX, okT x := fun x hx => (List.mem_append.mp hx).elim (some123 x) (some4_ok x)
theorem some_len : someX.length = 24 := rfl
theorem stepD_plain {x : Str} (h1 : x.length ≤ 9000) (h2 : lay x) : plainD 15 (stepD x) = true := by
  unfold stepD rowStep
  split
  · rename_i h
    rw [Bool.and_eq_true] at h
    obtain ⟨f1, _⟩ := fits_len h.1
    simp only [Option.getD_some, plainD, Bool.and_eq_true, List.all_eq_true, decide_eq_true_eq]
    refine ⟨by simp; omega, fun p hp => ?_⟩
    rcases List.mem_cons.mp hp with rfl | hp
    · simp only [plainD, Bool.and_eq_true, decide_eq_true_eq]
      refine ⟨?_, lay_iff.mpr (lay_bl h2 _ (head_mem x))⟩
      have := tot_mem (head_mem x)
      have := (split_bl x).2.1
      omega
    · obtain ⟨w, _, rfl⟩ := List.mem_map.mp hp
      rfl
  · rfl
theorem isNone_step (x : Str) : isNone (stepD x) = (rowStep x).isNone := by
  cases h : rowStep x with
  | none =>
    rw [stepD_none.mpr h]
    rfl
  | some d =>
    have : stepD x ≠ .none := fun z => by
      rw [stepD_none.mp z] at h
      cases h
    revert this
    cases stepD x <;> simp [isNone]
abbrev H4 (r : Addr) (s3 s4 s5 s6 s7 s8 s9 s10 s11 s12 s13 s14 s15 : Sl) : Gm := [.no, .val (.ref r), .dat (.list (someX.map .str)), s3, s4, s5, s6, s7, s8, s9, s10, s11, s12, s13, s14, s15]
theorem pure_law (vs : List V) (H : Hp) (Q : VK) (E : XK) (h : spLawT K a.T vs H Q E) : t_law P w K a E { nx := fun _ H' => Q .non H', rt := Q } (L2.start n_law vs) H := by
  refine law_lw (by decide) h fun X Φ0 r scr lw => ?_
  clear h
  show FW X _ [.no, .val (.ref r), .no, .no, .no, .no, .no, .no, .no, .no, .no, .no, .no, .no, .no, .no] _ _ _
  have ro := lw.ro
  apply fw_cps
  refine fw_asg (d := .list (some1.map .str)) (ev_lst (ea_cons (ev_str _) (ea_cons (ev_str _) (ea_cons (ev_str _) (ea_cons (ev_str _) (ea_cons (ev_str _) (ea_cons (ev_str _) (ea_cons (ev_str _) (ea_cons (ev_str _) (ea_cons (ev_str _) (ea_cons (ev_str _) (ea_cons (ev_str _) (ea_cons (ev_str _) ea_nil)))))))))))) (by simp)) ?_
  (dsimp only [List.set_cons_zero, List.set_cons_succ])
  apply fw_cps
  refine fw_asg (d := .list ((some1 ++ some2).map .str)) (ev_app2 (ev_var rfl) (ev_lst (ea_cons (ev_str _) (ea_cons (ev_str _) (ea_cons (ev_str _) (ea_cons (ev_str _) (ea_cons (ev_str _) (ea_cons (ev_str _) (ea_cons (ev_str _) ea_nil))))))) (by simp)) (by simp)) ?_
  (dsimp only [List.set_cons_zero, List.set_cons_succ])
  apply fw_cps
  refine fw_asg (d := .list (((some1 ++ some2) ++ some3).map .str)) (ev_app2 (ev_var rfl) (ev_lst (ea_cons (ev_str _) (ea_cons (ev_str _) ea_nil)) (by simp)) (by simp)) ?_
  (dsimp only [List.set_cons_zero, List.set_cons_succ])
  apply fw_cps
  have rep : ∀ {Γ : Gm} (x : Str) (n : Nat), n ≤ 301 → Ev X Φ0 (tOp (rMulU K) (tLst (tCons (tC (.str x)) tNil)) (tC (.int (n : Nat)))) Γ (.list ((List.replicate n x).map .str)) := fun {Γ} x n hn => ev_eq (ev_op (ev_lst (ea_cons (ev_str _) ea_nil) (by simp)) (ev_int _) (od_repL (by simp; omega) (by omega) (by omega))) (by
    rw [Int.toNat_natCast, List.map_replicate]
    congr 1
    exact rep_one _ n)
  have t4 : ∀ x n, n ≤ 301 → x.length ≤ 4 → tot (List.replicate n x) ≤ 100000 := fun x n h1 h2 => by
    rw [rep_tot]
    have := Nat.mul_le_mul h1 (Nat.succ_le_succ h2)
    exact Nat.le_trans this (by decide)
  refine fw_asg (d := .list (someX.map .str)) (ev_app2 (qs := some4) (ev_var rfl) (ev_lst (ea_cons (ev_join1 (ev_str _) (rep "mark" 300 (by decide)) one_nl (Nat.le_trans (t4 _ _ (by decide) (by decide +kernel)) (by decide))) (ea_cons (ev_join1 (ev_str _) (rep "mark" 301 (by decide)) one_nl (Nat.le_trans (t4 _ _ (by decide) (by decide +kernel)) (by decide))) (ea_cons (ev_join1 (ev_str _) (ev_app2 (qs := ["x"]) (rep "mend" 300 (by decide)) (ev_lst (ea_cons (ev_str _) ea_nil) (by simp)) (by simp)) one_nl (by
    rw [tot_app]
    have h1 := t4 "mend" 300 (by decide) (by decide +kernel)
    have h2 : tot ["x"] ≤ 10 := by decide +kernel
    omega)) ea_nil))) (by simp [some4])) (by decide +kernel)) ?_
  (dsimp only [List.set_cons_zero, List.set_cons_succ])
  refine fw_seq (N1 := fun Γ Φ => Φ = Φ0 ∧ ∃ s3 s4 s5 s6 s7 s8 s9 s10 s11 s12 s13 s14 s15, Γ = H4 r s3 s4 s5 s6 s7 s8 s9 s10 s11 s12 s13 s14 s15) (fw_for (ei_range1 (ea_cons (ev_int 5) ea_nil) (by decide) (by decide)) (fun k Γ Φ => Φ = Φ0 ∧ ∃ s3 s4 s5 s6 s7 s8 s9 s10 s11 s12 s13 s14 s15, Γ = H4 r s3 s4 s5 s6 s7 s8 s9 s10 s11 s12 s13 s14 s15) ⟨rfl, _, _, _, _, _, _, _, _, _, _, _, _, _, rfl⟩ (fun k d Γ1 Φ1 hk hI => ?_) fun Γ1 Φ1 hI => hI) fun Γ1 Φ1 hI => ?_
  rotate_left
  · obtain ⟨rfl, _, _, _, _, _, _, _, _, _, _, _, _, _, rfl⟩ := hI
    exact fw_ret (ev_bl true) rfl
  obtain ⟨rfl, s3, s4, s5, s6, s7, s8, s9, s10, s11, s12, s13, s14, s15, rfl⟩ := hI
  refine ⟨_, tg_name, ?_⟩
  (dsimp only [List.set_cons_zero, List.set_cons_succ])
  apply fw_cps
  refine fg_asg (eg_taken (n := 24) ro (evv_var rfl) (ev_eq (ev_cb (ea_cons (ev_var rfl) ea_nil) cb_lenL) (by rw [List.length_map, some_len]; rfl)) (by decide) (by decide) fun ch c1 c2 => ?_)
  (dsimp only [List.set_cons_zero, List.set_cons_succ])
  -- steps
  have wf0 : WF (mkFS 2 1 3 []) := (mk_good (room := 2) (fill := 1) (spare := 3) (rs := []) (by decide) (by decide) (by decide) (by decide) ⟨.nil, nofun⟩ (by decide)).1
  refine fw_seq (N1 := fun Γ Φ => Φ = Φ1 ∧ ∃ ds : List D, (∀ x ∈ ds, isStep x = true) ∧ ds.length ≤ 8 ∧ Γ = H4 r (.dat d) (.dat (.int ch)) (.dat (.list ds)) s6 s7 s8 s9 s10 s11 s12 s13 s14 s15) (fg_asg (eg_lcg (α := Nat) (enc := dInt) (fun _ x => isStep x = true) (egi_range1 (ega_cons (eg_taken ro (evv_var rfl) (ev_int 9) (by decide) (by decide) fun q q1 q2 => ega_nil ⟨q, rfl, by omega, by omega, rfl, List.range q.toNat, ?_, by simp; omega, fun x hx => ⟨_, tgw_name, ?_⟩, fun ds hds => ⟨rfl, ds, fun x hx => ?_, ?_, rfl⟩⟩)))) ) fun Γ2 Φ2 hI => ?_
  · simp [rgD]
  · refine eg_stepMade (room := 2) (fill := 1) (spare := 3) (rs := []) ro rfl (ea_cons (ev_tup (ea_cons (ev_int 2) (ea_cons (ev_int 1) (ea_cons (ev_int 3) ea_nil))) (by simp)) (ea_cons (ev_lst ea_nil (by simp)) ea_nil)) (by decide) (by decide) (by decide) (by decide) wf0 fun st hst => ⟨?_, rfl⟩
    have z := good_stp hst (by decide) (by decide)
    unfold GoodQ at z
    rwa [dQ] at z
  · obtain ⟨_, _, z⟩ := All2.mem hds x hx
    exact z
  · have := hds.len
    rw [this]
    simp
    omega
  obtain ⟨rfl, ds, hds, hdl, rfl⟩ := hI
  -- the text
  have hbad := no_badD hds (by omega)
  have htx := text_len8 hds hdl
  have hly := text_lay hds
  apply fw_cps
  refine fw_asg (d := .str (textT ds)) ?_ ?_
  · refine ev_join (ys := ds.map rowT) (ev_str _) (ev_eq (ev_lcm (xs := ds) (enc := id) (fun d => .str (rowT d)) (by rw [List.map_id]; exact ei_seqL (ev_var rfl)) (by omega) fun d hd => ⟨_, tgw_name, ?_⟩) (by rw [List.map_map]; rfl)) ?_
    · obtain ⟨x, ns, q1, q2, q3, q4, rfl⟩ := step_parts (hds d hd)
      obtain ⟨p1, p2⟩ := row_len (hds _ hd)
      refine ev_join (ys := (partsD (.tuple (.str x :: ns.map dInt))).map partT) (ev_str _) (ev_eq (ev_lcm (xs := .str x :: ns.map dInt) (enc := id) (fun p => .str (partT p)) (by rw [List.map_id]; exact ei_seqT (ev_var rfl)) (by simp; omega) fun p hp => ⟨_, tgw_name, ev_cb (ea_cons (ev_var rfl) ea_nil) (cb_strU ?_)⟩) (by rw [List.map_map]; rfl)) ?_
      · rcases List.mem_cons.mp hp with rfl | hp
        · exact .inr rfl
        · obtain ⟨n, hn, rfl⟩ := List.mem_map.mp hp
          have := q4 n hn
          exact .inl ⟨_, rfl, Nat.lt_of_le_of_lt (Nat.log2_le_self _) (by show (n : Int).natAbs < 1920; omega), rfl⟩
      · rw [List.map_map, List.length_map, one_bl]
        exact Nat.le_trans p1 (by decide)
    · rw [List.map_map, List.length_map, one_nl]
      have := sum_le (f := fun d => (rowT d).length) (c := 18) fun d hd => (row_len (hds d hd)).2
      have e : (ds.map ((fun x : Str => x.length) ∘ rowT)).sum = (ds.map fun d => (rowT d).length).sum := rfl
      rw [e]
      omega
  (dsimp only [List.set_cons_zero, List.set_cons_succ])
  generalize textT ds = t0 at *
  refine fw_seq (N1 := fun Γ Φ => Φ = Φ2 ∧ ∃ (t : Str) (s7 : Sl), okT t ∧ Γ = H4 r (.dat d) (.dat (.int ch)) (.dat (.list ds)) (.dat (.str t)) s7 s8 s9 s10 s11 s12 s13 s14 s15)
    (fg_for (fun es k Γ Φ => es.length ≤ 3 ∧ Φ = Φ2 ∧ ∃ (t : Str) (s7 : Sl), t.length + 20 ≤ 220 * 2 ^ k ∧ lay t ∧ Γ = H4 r (.dat d) (.dat (.int ch)) (.dat (.list ds)) (.dat (.str t)) s7 s8 s9 s10 s11 s12 s13 s14 s15)
      (egi_range1 (ega_cons (eg_taken ro (evv_var rfl) (ev_int 4) (by decide) (by decide) fun q q1 q2 => ega_nil ⟨q, rfl, by omega, by omega, by simp [rgD]; omega, rfl, t0, _, by simp; omega, hly, rfl⟩))) (fun es k2 d2 Γ3 Φ3 hk2 hI => ?_) fun es Γ3 Φ3 hI => ?_) fun Γ3 Φ3 hI => ?_
  · obtain ⟨hel, rfl, t, s7, ht1, ht2, rfl⟩ := hI
    have hkl : k2 < es.length := (List.getElem?_eq_some_iff.mp hk2).1
    refine ⟨_, tg_name, ?_⟩
    (dsimp only [List.set_cons_zero, List.set_cons_succ])
    have hp : 2 ^ k2 ≤ 4 := Nat.le_trans (Nat.pow_le_pow_right (by decide) (by omega : k2 ≤ 2)) (by decide)
    refine fg_asg (eg_row (f := f_spoiltL) ro (evv_var rfl) (ea_cons (ev_var rfl) ea_nil) ⟨.str t, t, rfl, by omega, ht2, t, by omega, ht2, rfl⟩ fun d3 h3 => ?_)
    obtain ⟨t1, e1, _, _, t', ht3, ht4, rfl⟩ := h3
    cases e1
    exact ⟨hel, rfl, t', _, by rw [Nat.pow_succ]; omega, ht4, rfl⟩
  · obtain ⟨hel, rfl, t, s7, ht1, ht2, rfl⟩ := hI
    have hp : 2 ^ es.length ≤ 8 := Nat.le_trans (Nat.pow_le_pow_right (by decide) hel) (by decide)
    exact ⟨rfl, t, s7, ⟨by omega, ht2⟩, rfl⟩
  obtain ⟨rfl, t, s7, ht, rfl⟩ := hI
  -- both texts
  obtain ⟨f0, hoi, x0, rfl, hx0⟩ := ix_all (P := P) (w := w) (K := K) (k := ch) (ds := someX.map .str) (S := fun d => ∃ x : Str, d = .str x ∧ okT x) (fun d hd => by
    obtain ⟨x, hx, rfl⟩ := List.mem_map.mp hd
    exact ⟨x, rfl, some_ok x hx⟩) c1 (by rw [List.length_map, some_len]; exact c2)
  refine fw_for (ei_seqL (ev_lst (ds := [.str t, .str x0]) (ea_cons (ev_var rfl) (ea_cons (ev_op (ev_var rfl) (ev_var rfl) hoi) ea_nil)) (by simp))) (fun k Γ Φ => Φ = Φ3 ∧ ∃ s8 s9 s10 s11, Γ = H4 r (.dat d) (.dat (.int ch)) (.dat (.list ds)) (.dat (.str t)) s7 s8 s9 s10 s11 s12 s13 s14 s15) ⟨rfl, _, _, _, _, rfl⟩ (fun k2 d2 Γ4 Φ4 hk2 hI => ?_) fun Γ4 Φ4 hI => ?_
  rotate_left
  · obtain ⟨rfl, s8, s9, s10, s11, rfl⟩ := hI
    exact ⟨rfl, _, _, _, _, _, _, _, _, _, _, _, _, _, rfl⟩
  obtain ⟨rfl, s8, s9, s10, s11, rfl⟩ := hI
  have hone : ∃ u : Str, d2 = .str u ∧ okT u := by
    rcases List.mem_cons.mp (List.mem_of_getElem? hk2) with rfl | h
    · exact ⟨t, rfl, ht⟩
    · rw [List.mem_singleton.mp h]
      exact ⟨x0, rfl, hx0⟩
  obtain ⟨u, rfl, hu1, hu2⟩ := hone
  have done : ∀ {s8 s9 s10 s11 : Sl}, (fun (Γ : Gm) (Φ : Iv) => Φ = Φ4 ∧ ∃ s8 s9 s10 s11, Γ = H4 r (.dat d) (.dat (.int ch)) (.dat (.list ds)) (.dat (.str t)) s7 s8 s9 s10 s11 s12 s13 s14 s15) (H4 r (.dat d) (.dat (.int ch)) (.dat (.list ds)) (.dat (.str t)) s7 s8 s9 s10 s11 s12 s13 s14 s15) Φ4 := ⟨rfl, _, _, _, _, rfl⟩
  refine ⟨_, tg_name, ?_⟩
  (dsimp only [List.set_cons_zero, List.set_cons_succ])
  obtain ⟨rs, hrs⟩ : ∃ rs, rs = rowsX u := ⟨_, rfl⟩
  have rl := rows_tot u
  have rlay := rows_lay hu2
  rw [← hrs] at rl rlay
  have rl2 := tot_len rs
  have rm : ∀ x ∈ rs, x.length ≤ 9000 ∧ lay x := fun x hx => ⟨by have := tot_mem hx; omega, rlay x hx⟩
  apply fw_cps
  refine fw_asg (d := .list (rs.map .str)) (ev_if (b := !decide (u = "")) (et_eq (et_test (ev_op (ev_var rfl) (ev_str "") (od_ne (lay_shd hu2).ok (by decide +kernel)))) ?_) (fun hn => ?_) (fun hn => ?_)) ?_
  · rw [Bool.eq_iff_iff]
    simp [PyData.eqv]
  · have hne : u ≠ "" := by simpa using hn
    rw [hrs, rows_of hne]
    exact ev_split (ev_var rfl) (ev_str "\n") (by decide +kernel) (Nat.le_trans (Nat.add_le_add_right hu1 2) (by decide))
  · have hne : u = "" := by simpa using hn
    rw [hrs, rows_nil hne]
    exact ev_lst ea_nil (by simp)
  (dsimp only [List.set_cons_zero, List.set_cons_succ])
  apply fw_cps
  refine fw_asg (d := .list (rs.map stepD)) (ev_lcm (xs := rs) (enc := .str) stepD (ei_seqL (ev_var rfl)) (by omega) fun x hx => ⟨_, tgw_name, ev_callP (f := f_law_read) (ea_cons (ev_var rfl) ea_nil) (f_law_read_of ⟨by have := (rm x hx).1; omega, (rm x hx).2⟩)⟩) ?_
  (dsimp only [List.set_cons_zero, List.set_cons_succ])
  apply fw_cps
  refine fw_asg (d := .list (((List.range rs.length).filter (badTxtAt rs)).map dInt)) (ev_lc (xs := List.range rs.length) (enc := dInt) (badTxtAt rs) dInt (ei_eq (ei_range1 (ea_cons (ev_cb (ea_cons (ev_var rfl) ea_nil) cb_lenL) ea_nil) (by omega) (by simp; omega)) (by simp [rgD])) (by simp; omega) fun i hi => ⟨_, tgw_name, ?_, fun _ => ev_var rfl⟩) ?_
  · have hil : i < rs.length := List.mem_range.mp hi
    refine et_eq (et_or (et_test (ev_op (ev_op (ev_var rfl) (ev_var rfl) (od_ixL (d := stepD rs[i]) ?_)) ev_non od_isN)) fun _ => et_test (ev_op (ev_var rfl) (ev_int 299) od_gt)) ?_
    · rw [atI_nat (l := rs.map stepD) (n := i) (i := (i : Int)) rfl (by simpa using hil), List.getElem?_map, List.getElem?_eq_getElem hil]
      rfl
    · unfold badTxtAt
      rw [isNone_step, List.getD_eq_getElem?_getD, List.getElem?_eq_getElem hil, Bool.or_comm]
      congr 1
      rw [Bool.eq_iff_iff]
      simp only [decide_eq_true_eq]
      omega
  (dsimp only [List.set_cons_zero, List.set_cons_succ])
  have hfi : ((List.range rs.length).filter (badTxtAt rs)).head? = badTxt rs := List.head?_filter
  have hf := f_readT_of (a := a) (t := u) ⟨by omega, hu2⟩
  rw [← hrs] at hf
  have shb : SeqAt.shaped (.list (((List.range rs.length).filter (badTxtAt rs)).map dInt)) = true := (shd_lst (k := 0) fun d hd => by
    obtain ⟨n, _, rfl⟩ := List.mem_map.mp hd
    exact shd_int).ok
  cases hb : (List.range rs.length).filter (badTxtAt rs) with
  | nil =>
    rw [hb] at hfi shb
    have hbt : badTxt rs = none := hfi.symm
    rw [hbt] at hf
    refine fw_if (b := false) (et_eq (et_test (ev_op (ev_var rfl) (ev_lst ea_nil (by simp)) (od_neNilL shb))) (by rfl)) nofun fun _ => ?_
    have pl : plainD 16 (.list (rs.map stepD)) = true := pl_lst (by rw [List.length_map]; omega) fun d hd => by
      obtain ⟨x, hx, rfl⟩ := List.mem_map.mp hd
      exact stepD_plain (rm x hx).1 (rm x hx).2
    exact fw_if (b := false) (et_eq (et_not (et_B (ev_callP (f := f_alike 16) (ds := [.list (rs.map stepD), .list (rs.map stepD)]) (ea_cons (ev_callP (f := f_readT a) (ea_cons (ev_var rfl) ea_nil) hf) (ea_cons (ev_var rfl) ea_nil)) (f_alike_of pl)))) rfl) nofun fun _ => fw_next done
  | cons i rest =>
    rw [hb] at hfi shb
    have hbt : badTxt rs = some i := hfi.symm
    rw [hbt] at hf
    refine fw_if (b := true) (et_eq (et_test (ev_op (ev_var rfl) (ev_lst ea_nil (by simp)) (od_neNilL shb))) (by rfl)) (fun _ => ?_) nofun
    have shw : Shd 1 (.tuple [.str "text", .int (i : Nat)]) := shd_tup fun d hd => by
      simp only [List.mem_cons, List.not_mem_nil, or_false] at hd
      rcases hd with rfl | rfl
      · exact ⟨show PyData.canLay0 (.str "text") = true by decide +kernel, by simp [PyData.depth]⟩
      · exact shd_int
    apply fg_if
    exact egt_neWord lw.lw lw.ok lw.ti (r := .ef a.BadText "row" (i : Nat)) (d := .tuple [.str "text", .int (i : Nat)]) (fun E => er_callP (f := f_readT a) (ea_cons (ev_var rfl) ea_nil) hf) ⟨3, _, rfl, rfl, rfl, rfl⟩ (ev_tup (ea_cons (ev_str _) (ea_cons (ev_op (ev_var rfl) (ev_int 0) (od_ixL atI_hd)) ea_nil)) (by simp)) shw.ok (eqv_refl shw.1) ⟨nofun, fun _ => fw_next done⟩
end
end Sp

set_option Elab.async false
set_option linter.all false
set_option maxRecDepth 100000
set_option maxHeartbeats 4000000
/-! How many arguments each def takes. -/
namespace Sp
open PySem PySem.Spec PyProof.Rows L2 SM SR SD SE
theorem len_F {f : List D → Option D} {n : Nat} (h : ∀ ds r, f ds = some r → ds.length = n) : ∀ vs H Q E, SpF f vs H Q E → vs.length = n := fun vs H Q E ⟨M, ds, lv, r, d, e, _⟩ => by
  rw [Dts.len r, h ds d e]
theorem len_Row {K : PySem.W.Frag} {f : List D → D → Prop} {n : Nat} (h : ∀ ds r, f ds r → ds.length = n) : ∀ vs H Q E, SpRow K f vs H Q E → vs.length = n + 1 := fun vs H Q E ⟨M, r, scr, us, ds, ev, lv, _, _, rd, ⟨d, e⟩, _⟩ => by
  rw [ev, List.length_cons, Dts.len rd, h ds d e]
section
variable {P : Program} {w : World} {K : PySem.W.Frag} {a : Ad}
theorem len_law_taken : ∀ vs H Q E, sp_law_taken P w K a vs H Q E → vs.length = 2 := fun vs H Q E h => by
  repeat first | (obtain ⟨rfl, _⟩ := h; rfl) | obtain ⟨_, h⟩ := h
theorem len_alikeN {n : Nat} : ∀ vs H Q E, sp_alikeN n vs H Q E → vs.length = 2 := len_P fun ds r h => by rcases ds with _ | ⟨_, _ | ⟨_, _ | ⟨_, _⟩⟩⟩ <;> first | rfl | simp [f_alike] at h
theorem len_law_laid : ∀ vs H Q E, sp_law_laid P w K a vs H Q E → vs.length = 2 := len_F fun ds r h => by rcases ds with _ | ⟨_, _ | ⟨_, _ | ⟨_, _⟩⟩⟩ <;> first | rfl | simp [f_laid] at h
theorem len_law_made : ∀ vs H Q E, sp_law_made P w K a vs H Q E → vs.length = 2 := fun vs H Q E ⟨M, room, fill, spare, rs, lv, rd, _⟩ => by
  rw [Dts.len rd]
  rfl
end
end Sp

set_option Elab.async false
set_option linter.all false
set_option maxRecDepth 100000
set_option maxHeartbeats 4000000
/-! How many arguments each def of the laws' own going takes. -/
namespace Sp
open PySem PySem.Spec PyProof.Rows L2 SM SR SD SE
theorem len_RowW {K : PySem.W.Frag} {f : FS → List D → D → Prop} {n : Nat} (h : ∀ s ds d, f s ds d → ds.length = n) : ∀ vs H Q E, SpRowW K f vs H Q E → vs.length = n + 2 := fun vs H Q E ⟨M, r, scr, G, S, us, ds, ev, lv, _, _, _, _, _, _, rd, ⟨d, e⟩, _⟩ => by
  rw [ev, List.length_cons, List.length_cons, Dts.len rd, h S ds d e]
section
variable {P : Program} {w : World} {K : PySem.W.Frag} {a : Ad}
theorem len_law_chain : ∀ vs H Q E, sp_law_chain P w K a vs H Q E → vs.length = 2 := len_O (n := 1) fun s ds r h => by rcases ds with _ | ⟨_, _ | ⟨_, _⟩⟩ <;> first | rfl | simp [f_chainL] at h
theorem len_law_all : ∀ vs H Q E, sp_law_all P w K a vs H Q E → vs.length = 1 := len_O (n := 0) fun s ds r h => by rcases ds with _ | ⟨_, _⟩ <;> first | rfl | simp [f_allL] at h
theorem len_law_step : ∀ vs H Q E, sp_law_step P w K a vs H Q E → vs.length = 3 := len_RowW (n := 1) fun s ds d h => by
  obtain ⟨b, e, _⟩ := h
  rw [e]
  rfl
theorem len_law_key : ∀ vs H Q E, sp_law_key P w K a vs H Q E → vs.length = 2 := len_Row (n := 1) fun ds d h => by
  obtain ⟨far, _, _, e, _⟩ := h
  rw [e]
  rfl
end
end Sp

set_option Elab.async false
set_option linter.all false
set_option maxRecDepth 100000
set_option maxHeartbeats 4000000
/-! Readings, printed by gen.py. -/
namespace Sp
open PySem L2 SM SR SD SE
end Sp

set_option Elab.async false
set_option linter.all false
set_option maxRecDepth 100000
set_option maxHeartbeats 4000000
/-! need_worth, need_count. -/
namespace Sp
open PySem L2 SM SR SD SE
section
variable {P : Program} {w : World} {K : PySem.W.Frag} {a : Ad}
end
end Sp

set_option Elab.async false
set_option linter.all false
set_option maxRecDepth 100000
set_option maxHeartbeats 4000000
/-! How many arguments; several tables. -/
namespace Sp
open PySem PySem.Spec PyProof.Rows L2 SM SR SD SE LamX
section
variable {P : Program} {w : World} {K : PySem.W.Frag} {a : Ad}
end
theorem nd_inj {α β : Type} {f : α → β} : ∀ {xs : List α}, (xs.map f).Nodup → ∀ {x y : α}, x ∈ xs → y ∈ xs → f x = f y → x = y
  | [], _, _, _, h, _, _ => by cases h
  | z :: xs, hn, x, y, hx, hy, e => by
    obtain ⟨n1, n2⟩ := List.nodup_cons.mp hn
    rcases List.mem_cons.mp hx with rfl | hx2
    · rcases List.mem_cons.mp hy with rfl | hy2
      · rfl
      · exact absurd (List.mem_map.mpr ⟨y, hy2, e.symm⟩) n1
    · rcases List.mem_cons.mp hy with rfl | hy2
      · exact absurd (List.mem_map.mpr ⟨x, hx2, e⟩) n1
      · exact nd_inj n2 hx2 hy2 e
theorem lamB_ofs {K : PySem.W.Frag} {mg : Str → Option Value} {base : Heap} {a : Ad} {x qual q : Str} {params : Arguments} {body : List Stmt} {scope : Scope} {dvs : List V} {kws : List (Str × V)} {p : He.Defn} {fd : FuncData} {tf : List (He.Defn × Str)} (F : FunD K x qual params body scope dvs kws (He.fAd K p) fd) (TB : ∀ z ∈ tf, TabB base mg (He.cT K z.1).1 (He.cT K z.1).2) (hT : a.T = tf.map fun z => ((He.cT K z.1).2, z.2)) (hn : (tf.map fun z => (He.cT K z.1).2).Nodup) (hp : (p, q) ∈ tf) :
    ∀ cdv, fd.code = cdv → LamB base mg a cdv q := fun cdv hc => by
  obtain ⟨oc, od, dV, kV, doc, pm, an, cd, ct, osl, rfl, lk, hcd, h1, h2⟩ := F.ex
  obtain ⟨c, rfl⟩ := He.codeIn_ref hcd
  have e : He.codeOf K p = c := He.codeOf_eq lk rfl
  refine ⟨c, (He.cT K p).2, hc.symm, ?_, by rw [hT]; exact List.mem_map.mpr ⟨(p, q), hp, rfl⟩, fun z hz ez => ?_⟩
  · have := TB _ hp
    unfold He.cT at this ⊢
    rw [e] at this ⊢
    exact this
  · rw [hT] at hz
    obtain ⟨y, hy, rfl⟩ := List.mem_map.mp hz
    have : y = (p, q) := by
      exact nd_inj hn hy hp ez
    rw [this]
end Sp

set_option Elab.async false
set_option linter.all false
set_option maxRecDepth 100000
set_option maxHeartbeats 4000000
/-! File.between, File.at_most. -/
namespace SE
open PySem L2 SM SR SD
section
variable {X : Wd} {Φ : Iv} {H : Hp} {Γ : Gm} {ta : TA}
end
end SE
namespace Sp
open PySem L2 SM SR SD SE
section
variable {P : Program} {w : World} {K : PySem.W.Frag} {a : Ad} {M : Ads} {H0 : Hp} {Φ : Iv} {Γ : Gm} {E : XK} {F : FA} {S : FS} {t : TS} {N : Gm → Prop} {R : D → Prop} {ta : TA} {ds : List D} {c : Addr} {b : Bool} {te : TE}
end
end Sp

set_option Elab.async false
set_option linter.all false
set_option maxRecDepth 100000
set_option maxHeartbeats 4000000
/-! Promises of _law_between, _law_back; both against a file's own. -/
namespace Sp
open PySem L2 SM SR SD SE
section
variable {a : Ad} {S : FS}
end
end Sp

set_option Elab.async false
set_option linter.all false
set_option maxRecDepth 100000
set_option maxHeartbeats 4000000
/-! How many arguments. -/
namespace Sp
open PySem PySem.Spec PyProof.Rows L2 SM SR SD SE LamX
section
variable {P : Program} {w : World} {K : PySem.W.Frag} {a : Ad}
end
end Sp

set_option Elab.async false
set_option linter.all false
set_option maxRecDepth 100000
set_option maxHeartbeats 4000000
/-! How many arguments; the end with tables of the module. -/
namespace Sp
open PySem PySem.Spec PyProof.Rows L2 SM SR SD SE LamX
section
variable {P : Program} {w : World} {K : PySem.W.Frag} {a : Ad}
end
/-- the end of a law with tables -/
theorem lawAt_ofsT {l : PySem.W.OpenLaw} {w : World} {K : PySem.W.Frag} {k n : Nat} {mg : Str → Option Value} {fa : Addr} {h : Heap} {tf : List (He.Defn × Str)} {fs : List He.Fa} {fn : List He.DefD} {ts : List He.Tab} {ex : PySem.W.Frag → Bool} (KX : K.In h) (c : He.SaysX fs fn ts (tf.map (·.1)) ex w h K)
    (F : ∃ fd : FuncData, (∀ (s : Shared) (v : Value), BindsTo s fd ⟨[v], []⟩ [("_law_script", v)]) ∧ ∀ base : Heap, K.In base → base.Ns mainGlobals mg → (∀ z ∈ tf, TabB base mg (He.cT K z.1).1 (He.cT K z.1).2) → FnOk l.prog w K mg base (L2.CX l.prog w) k fa fd ["_law_script"] (spLawT K (tf.map fun z => ((He.cT K z.1).2, z.2)))) :
    LawAtS l w K (L2.CX l.prog w) k n "_law_script" mg fa h := by
  obtain ⟨fd, hb, hF⟩ := F
  have mem : ∀ {z : He.Defn × Str}, z ∈ tf → z.1 ∈ tf.map (·.1) := fun hz => List.mem_map.mpr ⟨_, hz, rfl⟩
  refine ⟨fd, tf.map fun z => He.cT K z.1, _, fun z hz => ?_, fun z hz => ?_, fun z hz => ?_, hb, fun H a ns _ _ ht hs => spLawT_of (T := tf.map fun z => ((He.cT K z.1).2, z.2)) (fun z hz => ?_) hs, fun base kb nb tb => thaw (hF base kb nb fun z hz => tb _ (List.mem_map.mpr ⟨z, hz, rfl⟩))⟩
  · obtain ⟨y, hy, rfl⟩ := List.mem_map.mp hz
    exact c.empty _ (mem hy)
  · obtain ⟨y, hy, rfl⟩ := List.mem_map.mp hz
    exact c.out _ (mem hy)
  · obtain ⟨y, hy, rfl⟩ := List.mem_map.mp hz
    exact PySem.W.codeHd_of_K KX (c.hd _ (mem hy))
  · obtain ⟨y, hy, rfl⟩ := List.mem_map.mp hz
    exact ht _ (List.mem_map.mpr ⟨y, hy, rfl⟩)
end Sp

set_option Elab.async false
set_option linter.all false
set_option maxRecDepth 100000
set_option maxHeartbeats 4000000
/-! How many arguments: the defs of k21. -/
namespace Sp
open PySem PySem.Spec PyProof.Rows L2 SM SR SD SE LamX
section
variable {P : Program} {w : World} {K : PySem.W.Frag} {a : Ad}
theorem len_number_of : ∀ vs H Q E, sp_number_of P w K a vs H Q E → vs.length = 2 := len_P fun ds r h => by rcases ds with _ | ⟨x, _ | ⟨y, _ | ⟨_, _⟩⟩⟩ <;> first | rfl | simp [f_number_of] at h
theorem len_read : ∀ vs H Q E, sp_read P w K a vs H Q E → vs.length = 1 := len_P fun ds r h => by rcases ds with _ | ⟨x, _ | ⟨_, _⟩⟩ <;> first | rfl | simp [f_readT] at h
theorem len_law_read : ∀ vs H Q E, sp_law_read P w K a vs H Q E → vs.length = 1 := len_P fun ds r h => by rcases ds with _ | ⟨x, _ | ⟨_, _⟩⟩ <;> first | rfl | simp [f_law_read] at h
theorem len_law_spoilt : ∀ vs H Q E, sp_law_spoilt P w K a vs H Q E → vs.length = 2 := fun vs H Q E h => by
  obtain ⟨M, r, scr, us, ds, rfl, _, _, _, rd, ⟨d, t, rfl, _⟩, _⟩ := h
  have := rd.len
  simp only [List.length_cons, List.length_nil] at this ⊢
  omega
end
end Sp

set_option Elab.async false
set_option linter.all false
set_option maxRecDepth 100000
set_option maxHeartbeats 8000000
/-! Derivations, head, end: printed by mkend.py. -/
namespace Sp
open PySem PySem.Spec PyProof.Rows L2 SM SR SD SE LamX
structure Tx (P : Program) (w : World) (K : PySem.W.Frag) (mg : Str → Option Value) (base : Heap) (a : Ad) : Prop where
  nb : Nb mg
  d_SIZES : DctI K w a.tP sizesP
  g_BadCount : mg "BadCount" = some (.ref a.BadCount)
  g_BadDeeds : mg "BadDeeds" = some (.ref a.BadDeeds)
  g_BadFile : mg "BadFile" = some (.ref a.BadFile)
  g_BadKey : mg "BadKey" = some (.ref a.BadKey)
  g_BadPicture : mg "BadPicture" = some (.ref a.BadPicture)
  g_BadRows : mg "BadRows" = some (.ref a.BadRows)
  g_BadStep : mg "BadStep" = some (.ref a.BadStep)
  g_BadText : mg "BadText" = some (.ref a.BadText)
  g_BadWorth : mg "BadWorth" = some (.ref a.BadWorth)
  g_FIGURES : ∃ t, mg "FIGURES" = some (.str "0123456789" t)
  g_Full : mg "Full" = some (.ref a.Full)
  g_MOST_STEPS : ∃ t, mg "MOST_STEPS" = some (.int 300 t)
  g_NoMark : mg "NoMark" = some (.ref a.NoMark)
  g_NoRow : mg "NoRow" = some (.ref a.NoRow)
  g_SIZES : mg "SIZES" = some (.ref a.tP)
  g_SpillError : mg "SpillError" = some (.ref a.SpillError)
  g_Stopped : mg "Stopped" = some (.ref a.Stopped)
  x_BadText : Xf P w K mg base 1 "BadText" a.BadText "row"
theorem sc_BadText___init : FnScope ["self", "row"] ["self", "row"] (defScope s_BadText___init) := ⟨rfl, rfl, rfl, by decide +kernel, rfl, by decide +kernel, by decide +kernel⟩
theorem ok_BadText___init {P : Program} {w : World} {K : PySem.W.Frag} {mg : Str → Option Value} {base : Heap} {C0 C f : Addr} {fd : FuncData} (S : Xs K mg "SpillError" C0) (F : FunD K "__init__" "BadText.__init__" (defArgs s_BadText___init) (defBody s_BadText___init) (defScope s_BadText___init) [] [] f fd) : FnOk P w K mg base (L2.CX P w) 1 f fd ["self", "row"] (spXi "row" K C) := by
  refine F.ok sc_BadText___init (fun vs H Q E h => ?_) fun cdv A outer s H vs Q E hr h => ⟨tXi "row " "row" K, ?_, pure_xi (by decide) vs H Q E h⟩
  · obtain ⟨b, n, rfl, _⟩ := h
    rfl
  · exact pss_cons (ps_expr (pe_sinit S (pa_cons (pv 0) (pa_cons (pe_joined (.cons pe_str (.cons (pe_fmt (pv 1)) .nil))) pa_nil)))) (pss_one (ps_ost (pv 0) (pv 1)))
theorem sc_number_of : FnScope ["word", "row", "sign"] ["word", "row"] (defScope s_number_of) := ⟨rfl, rfl, rfl, by decide +kernel, rfl, by decide +kernel, by decide +kernel⟩
theorem der_number_of {P : Program} {w : World} {K : PySem.W.Frag} {mg : Str → Option Value} {base : Heap} {a : Ad} (T : Tx P w K mg base a) 
    {f : Addr} {cdv : Value} {A : Around} {outer : List Env} {s : Shared} {H : Hp} {E : XK} (hr : Room 2 (A.deeper (envOfC "number_of" (defScope s_number_of) s.heap.objs.size f cdv))) :
    PSs (cxOf (L2.CX P w) P w K mg base ["word", "row", "sign"] "number_of" (defScope s_number_of) f cdv A outer s H E) (defBody s_number_of) (t_number_of P w K a E) := by
  have nd := sc_number_of.nd
  have tk : Takes (cxOf (L2.CX P w) P w K mg base ["word", "row", "sign"] "number_of" (defScope s_number_of) f cdv A outer s H E) (fun cls d _ H => E cls d H) := takes_of rfl rfl rfl rfl
  have px : Passes (L2.CX P w) (cxOf (L2.CX P w) P w K mg base ["word", "row", "sign"] "number_of" (defScope s_number_of) f cdv A outer s H E) E := px_of tk fun _ _ _ _ z => z
  have po : PassesOwn (model P w) (A.deeper (envOfC "number_of" (defScope s_number_of) s.heap.objs.size f cdv)) (envOfC "number_of" (defScope s_number_of) s.heap.objs.size f cdv) (cxOf (L2.CX P w) P w K mg base ["word", "row", "sign"] "number_of" (defScope s_number_of) f cdv A outer s H E).xe := passes_of (X := cxOf (L2.CX P w) P w K mg base ["word", "row", "sign"] "number_of" (defScope s_number_of) f cdv A outer s H E) rfl
  have hu := hu_of hr
  have hu64 := hr.units
  have hu65 := hu65 hr
  exact (pss_cons (ps_if (PW.pt (pw_or (pt_not (pt_chain op_le op_le pe_int (pe_callB call_lenU (by rfl) T.nb.len (by decide +kernel) (pa_cons (pv 0) pa_nil)) pe_int)) (pw_or1 (pt_cmpR (op_neD hu64) (pe_lc (own := [("sign", 2)]) rfl nd (pi_seqU (pv 0)) (by first | exact blkOk_by (by decide +kernel) | exact blkOk_by (by rfl)) (fun _ _ _ _ _ => (pg_name (i := 2) nd rfl (by first | exact Or.inl rfl | exact Or.inr rfl))) (fun _ _ _ _ _ => (pts_one (pt_cmpR (op_notInU hu65) (pv 2) (pe_gstr T.g_FIGURES) (by rfl)))) (fun _ _ _ _ _ => (pv 2))) (pe_lst pa_nil) (nomark _))))) (pss_one (ps_raiseF T.x_BadText (hr.mono (by decide)) rfl tk (pa_cons (pv 1) pa_nil) (by intro σ H Q R m h; first | exact m _ _ h | (obtain ⟨v, e, q⟩ := h; exact ⟨v, e, m _ _ q⟩)))) pss_nil) (pss_cons (ps_if (PW.pt (pw_and (pt_cmpR (op_eqD hu64) (pe_ix (ix_u hu) (pv 0) pe_int (fun _ _ => rfl)) pe_str (nomark _)) (pw_and1 (pt_cmpR (op_neD hu64) (pv 0) pe_str (nomark _))))) (pss_one (ps_raiseF T.x_BadText (hr.mono (by decide)) rfl tk (pa_cons (pv 1) pa_nil) (by intro σ H Q R m h; first | exact m _ _ h | (obtain ⟨v, e, q⟩ := h; exact ⟨v, e, m _ _ q⟩)))) pss_nil) (pss_one (ps_ret (pe_callTy call_int_str (by rfl) T.nb.int (by decide +kernel) (pa_cons (pv 0) pa_nil))))))
theorem ok_number_of {P : Program} {w : World} {K : PySem.W.Frag} {mg : Str → Option Value} {base : Heap} {a : Ad} (T : Tx P w K mg base a)  {f : Addr} {fd : FuncData} (F : FunD K "number_of" "number_of" (defArgs s_number_of) (defBody s_number_of) (defScope s_number_of) [] [] f fd) : FnOk P w K mg base (L2.CX P w) 3 f fd ["word", "row"] (sp_number_of P w K a) :=
  F.ok sc_number_of len_number_of fun cdv A outer s H vs Q E hr h => ⟨_, der_number_of T  hr, pure_number_of vs H Q E h⟩
theorem sc_read : FnScope ["text", "found", "row", "line", "words", "word"] ["text"] (defScope s_read) := ⟨rfl, rfl, rfl, by decide +kernel, rfl, by decide +kernel, by decide +kernel⟩
theorem der_read {P : Program} {w : World} {K : PySem.W.Frag} {mg : Str → Option Value} {base : Heap} {a : Ad} (T : Tx P w K mg base a) (G_number_of : Gf P w K mg base 3 "number_of" ["word", "row"] (sp_number_of P w K a))
    {f : Addr} {cdv : Value} {A : Around} {outer : List Env} {s : Shared} {H : Hp} {E : XK} (hr : Room 3 (A.deeper (envOfC "read" (defScope s_read) s.heap.objs.size f cdv))) :
    PSs (cxOf (L2.CX P w) P w K mg base ["text", "found", "row", "line", "words", "word"] "read" (defScope s_read) f cdv A outer s H E) (defBody s_read) (t_read P w K a E) := by
  have nd := sc_read.nd
  have tk : Takes (cxOf (L2.CX P w) P w K mg base ["text", "found", "row", "line", "words", "word"] "read" (defScope s_read) f cdv A outer s H E) (fun cls d _ H => E cls d H) := takes_of rfl rfl rfl rfl
  have px : Passes (L2.CX P w) (cxOf (L2.CX P w) P w K mg base ["text", "found", "row", "line", "words", "word"] "read" (defScope s_read) f cdv A outer s H E) E := px_of tk fun _ _ _ _ z => z
  have po : PassesOwn (model P w) (A.deeper (envOfC "read" (defScope s_read) s.heap.objs.size f cdv)) (envOfC "read" (defScope s_read) s.heap.objs.size f cdv) (cxOf (L2.CX P w) P w K mg base ["text", "found", "row", "line", "words", "word"] "read" (defScope s_read) f cdv A outer s H E).xe := passes_of (X := cxOf (L2.CX P w) P w K mg base ["text", "found", "row", "line", "words", "word"] "read" (defScope s_read) f cdv A outer s H E) rfl
  have hu := hu_of hr
  have hu64 := hr.units
  have hu65 := hu65 hr
  exact (pss_cons (ps_set (i := 1) nd rfl (by first | exact Or.inl rfl | exact Or.inr rfl) (pe_lst pa_nil)) (pss_cons (ps_for po rfl (pi_enum (by rfl) T.nb.enumerate (pa_cons (pe_ifExp (pt_cmpR (op_neD hu64) (pv 0) pe_str (nomark _)) (pe_split1 (pv 0) pe_str) (pe_lst pa_nil)) pa_nil)) (pg_tup rfl (pgs_cons (pg_name (i := 2) nd rfl (by first | exact Or.inl rfl | exact Or.inr rfl)) (pgs_cons (pg_name (i := 3) nd rfl (by first | exact Or.inl rfl | exact Or.inr rfl)) pgs_nil))) (pss_cons (ps_set (i := 4) nd rfl (by first | exact Or.inl rfl | exact Or.inr rfl) (pe_split1 (pv 3) pe_str)) (pss_cons (ps_if (PW.pt (pw_or (pt_cmpR op_ge (pv 2) (pe_gint T.g_MOST_STEPS) (nomark _)) (pw_or1 (pt_cmpR (op_neD hu64) (pe_kget2 T.d_SIZES (pe_gref T.g_SIZES) (pe_ix (ix_u hu) (pv 4) pe_int (fun _ _ => rfl)) (pe_un un_neg pe_int) (by exact ⟨rfl, rfl, rfl, rfl⟩)) (pe_op op_sub (pe_callB call_lenU (by rfl) T.nb.len (by decide +kernel) (pa_cons (pv 4) pa_nil)) pe_int) (nomark _))))) (pss_one (ps_raiseF T.x_BadText (hr.mono (by decide)) rfl tk (pa_cons (pv 2) pa_nil) (by intro σ H Q R m h; first | exact m _ _ h | (obtain ⟨v, e, q⟩ := h; exact ⟨v, e, m _ _ q⟩)))) pss_nil) (pss_one (ps_expr (pe_bm PySem.F.plainAttrs_list PySem.F.slot_list_append PySem.F.type_list_append mt_append (pv 1) (pa_cons (pe_op op_addU (pe_tupB (pa_cons (pe_ix (ix_u hu) (pv 4) pe_int (fun _ _ => rfl)) pa_nil)) (pe_callTy call_tupU (by rfl) T.nb.tuple (by decide +kernel) (pa_cons (SL.pe_lcX (own := [("word", 5)]) rfl nd tk rfl rfl (pi_seqU (pe_slice sl_u (pv 4) (po_some pe_int) po_none)) (by first | exact blkOk_by (by decide +kernel) | exact blkOk_by (by rfl)) (fun _ _ _ _ _ => (pg_name (i := 5) nd rfl (by first | exact Or.inl rfl | exact Or.inr rfl))) (fun _ _ _ _ _ => (pe_gf G_number_of (hr.mono (by decide)) SL.pass_blk (pa_cons (pv 5) (pa_cons (pv 2) pa_nil))))) pa_nil))) pa_nil))))))) (pss_one (ps_ret (pv 1)))))
theorem ok_read {P : Program} {w : World} {K : PySem.W.Frag} {mg : Str → Option Value} {base : Heap} {a : Ad} (T : Tx P w K mg base a) (G_number_of : Gf P w K mg base 3 "number_of" ["word", "row"] (sp_number_of P w K a)) {f : Addr} {fd : FuncData} (F : FunD K "read" "read" (defArgs s_read) (defBody s_read) (defScope s_read) [] [] f fd) : FnOk P w K mg base (L2.CX P w) 4 f fd ["text"] (sp_read P w K a) :=
  F.ok sc_read len_read fun cdv A outer s H vs Q E hr h => ⟨_, der_read T G_number_of hr, pure_read vs H Q E h⟩
theorem sc_law_taken : FnScope ["_law_row", "_law_many", "_law_found", "_law_cell"] ["_law_row", "_law_many"] (defScope s_law_taken) := ⟨rfl, rfl, rfl, by decide +kernel, rfl, by decide +kernel, by decide +kernel⟩
theorem der_law_taken {P : Program} {w : World} {K : PySem.W.Frag} {mg : Str → Option Value} {base : Heap} {a : Ad} (T : Tx P w K mg base a) 
    {f : Addr} {cdv : Value} {A : Around} {outer : List Env} {s : Shared} {H : Hp} {E : XK} (hr : Room 0 (A.deeper (envOfC "_law_taken" (defScope s_law_taken) s.heap.objs.size f cdv))) :
    PSs (cxOf (L2.CX P w) P w K mg base ["_law_row", "_law_many", "_law_found", "_law_cell"] "_law_taken" (defScope s_law_taken) f cdv A outer s H E) (defBody s_law_taken) (t_law_taken P w K a E) := by
  have nd := sc_law_taken.nd
  have tk : Takes (cxOf (L2.CX P w) P w K mg base ["_law_row", "_law_many", "_law_found", "_law_cell"] "_law_taken" (defScope s_law_taken) f cdv A outer s H E) (fun cls d _ H => E cls d H) := takes_of rfl rfl rfl rfl
  have px : Passes (L2.CX P w) (cxOf (L2.CX P w) P w K mg base ["_law_row", "_law_many", "_law_found", "_law_cell"] "_law_taken" (defScope s_law_taken) f cdv A outer s H E) E := px_of tk fun _ _ _ _ z => z
  have po : PassesOwn (model P w) (A.deeper (envOfC "_law_taken" (defScope s_law_taken) s.heap.objs.size f cdv)) (envOfC "_law_taken" (defScope s_law_taken) s.heap.objs.size f cdv) (cxOf (L2.CX P w) P w K mg base ["_law_row", "_law_many", "_law_found", "_law_cell"] "_law_taken" (defScope s_law_taken) f cdv A outer s H E).xe := passes_of (X := cxOf (L2.CX P w) P w K mg base ["_law_row", "_law_many", "_law_found", "_law_cell"] "_law_taken" (defScope s_law_taken) f cdv A outer s H E) rfl
  have hu := hu_of hr
  have hu64 := hr.units
  have hu65 := hu65 hr
  exact (pss_cons (ps_if (pt_cmpR op_gt (pe_ix (ix_u hu) (pv 0) pe_int (fun _ _ => rfl)) pe_int (nomark _)) (pss_cons (ps_set (i := 2) nd rfl (by first | exact Or.inl rfl | exact Or.inr rfl) (pe_op op_mod (pe_ix (ix_u hu) (pv 0) pe_int (fun _ _ => rfl)) (pv 1))) (pss_cons (ps_asg (pe_op op_fdiv (pe_ix (ix_u hu) (pv 0) pe_int (fun _ _ => rfl)) (pv 1)) (pg_sub (pv 0) pe_int (set_u hu))) (pss_one (ps_ret (pv 2))))) pss_nil) (pss_cons (ps_asg (pe_op op_addU (pe_ix (ix_u hu) (pv 0) pe_int (fun _ _ => rfl)) pe_int) (pg_sub (pv 0) pe_int (set_u hu))) (pss_cons (ps_if (pt_cmpR op_gt (pe_ix (ix_u hu) (pv 0) pe_int (fun _ _ => rfl)) (pe_callB call_lenU (by rfl) T.nb.len (by decide +kernel) (pa_cons (pe_ix (ix_u hu) (pv 0) pe_int (fun _ _ => rfl)) pa_nil)) (nomark _)) (pss_cons (ps_asg (pe_op op_mod (pe_op op_addU (pe_op op_mulU (pe_ix (ix_u hu) (pv 0) pe_int (fun _ _ => rfl)) pe_int) pe_int) pe_int) (pg_sub (pv 0) pe_int (set_u hu))) (pss_one (ps_ret (pe_op op_mod (pe_op op_fdiv (pe_ix (ix_u hu) (pv 0) pe_int (fun _ _ => rfl)) pe_int) (pv 1))))) pss_nil) (pss_cons (ps_set (i := 3) nd rfl (by first | exact Or.inl rfl | exact Or.inr rfl) (pe_ix (ix_u hu) (pe_ix (ix_u hu) (pv 0) pe_int (fun _ _ => rfl)) (pe_op op_sub (pe_ix (ix_u hu) (pv 0) pe_int (fun _ _ => rfl)) pe_int) (fun _ _ => rfl))) (pss_cons (ps_asg (pe_op op_mod (pe_op op_addU (pe_op op_addU (pe_op op_mulU (pe_ix (ix_u hu) (pv 0) pe_int (fun _ _ => rfl)) pe_int) (pv 3)) pe_int) pe_int) (pg_sub (pv 0) pe_int (set_u hu))) (pss_cons (ps_if (pt_cmpR op_ge (pv 3) (pe_op op_pow pe_int pe_int) (nomark _)) (pss_one (ps_asg (pe_op op_fdiv (pv 3) (pv 1)) (pg_sub (pv 0) pe_int (set_u hu)))) pss_nil) (pss_one (ps_ret (pe_op op_mod (pv 3) (pv 1))))))))))
theorem ok_law_taken {P : Program} {w : World} {K : PySem.W.Frag} {mg : Str → Option Value} {base : Heap} {a : Ad} (T : Tx P w K mg base a)  {f : Addr} {fd : FuncData} (F : FunD K "_law_taken" "_law_taken" (defArgs s_law_taken) (defBody s_law_taken) (defScope s_law_taken) [] [] f fd) : FnOk P w K mg base (L2.CX P w) 1 f fd ["_law_row", "_law_many"] (sp_law_taken P w K a) :=
  F.ok sc_law_taken len_law_taken fun cdv A outer s H vs Q E hr h => ⟨_, der_law_taken T  hr, pure_law_taken vs H Q E h⟩
theorem sc_law_alike : FnScope ["_law_found", "_law_due", "_law_k"] ["_law_found", "_law_due"] (defScope s_law_alike) := ⟨rfl, rfl, rfl, by decide +kernel, rfl, by decide +kernel, by decide +kernel⟩
theorem der_law_alike {P : Program} {w : World} {K : PySem.W.Frag} {mg : Str → Option Value} {base : Heap} {a : Ad} (T : Tx P w K mg base a) {n k : Nat} (G_law_alike : Gf P w K mg base k "_law_alike" ["_law_found", "_law_due"] (sp_alikeN n)) 
    {f : Addr} {cdv : Value} {A : Around} {outer : List Env} {s : Shared} {H : Hp} {E : XK} (hr : Room k (A.deeper (envOfC "_law_alike" (defScope s_law_alike) s.heap.objs.size f cdv))) :
    PSs (cxOf (L2.CX P w) P w K mg base ["_law_found", "_law_due", "_law_k"] "_law_alike" (defScope s_law_alike) f cdv A outer s H E) (defBody s_law_alike) (t_law_alike P w K a (sp_alikeN n) E) := by
  have nd := sc_law_alike.nd
  have tk : Takes (cxOf (L2.CX P w) P w K mg base ["_law_found", "_law_due", "_law_k"] "_law_alike" (defScope s_law_alike) f cdv A outer s H E) (fun cls d _ H => E cls d H) := takes_of rfl rfl rfl rfl
  have px : Passes (L2.CX P w) (cxOf (L2.CX P w) P w K mg base ["_law_found", "_law_due", "_law_k"] "_law_alike" (defScope s_law_alike) f cdv A outer s H E) E := px_of tk fun _ _ _ _ z => z
  have po : PassesOwn (model P w) (A.deeper (envOfC "_law_alike" (defScope s_law_alike) s.heap.objs.size f cdv)) (envOfC "_law_alike" (defScope s_law_alike) s.heap.objs.size f cdv) (cxOf (L2.CX P w) P w K mg base ["_law_found", "_law_due", "_law_k"] "_law_alike" (defScope s_law_alike) f cdv A outer s H E).xe := passes_of (X := cxOf (L2.CX P w) P w K mg base ["_law_found", "_law_due", "_law_k"] "_law_alike" (defScope s_law_alike) f cdv A outer s H E) rfl
  have hu := hu_of hr
  have hu64 := hr.units
  have hu65 := hu65 hr
  exact (pss_cons (ps_if (PW.pt (pw_or (pt_val (pe_callB call_isU (by rfl) T.nb.isinstance (by decide +kernel) (pa_cons (pv 1) (pa_cons (pe_bltn (v := .ty "tuple") (by rfl) T.nb.tuple (by decide +kernel) rfl) pa_nil)))) (pw_or1 (pt_val (pe_callB call_isU (by rfl) T.nb.isinstance (by decide +kernel) (pa_cons (pv 1) (pa_cons (pe_bltn (v := .ty "list") (by rfl) T.nb.list (by decide +kernel) rfl) pa_nil))))))) (pss_cons (ps_if (PW.pt (pw_or (pt_cmpR (op_neD hu64) (pe_callB call_isU (by rfl) T.nb.isinstance (by decide +kernel) (pa_cons (pv 0) (pa_cons (pe_bltn (v := .ty "tuple") (by rfl) T.nb.tuple (by decide +kernel) rfl) pa_nil))) (pe_callB call_isU (by rfl) T.nb.isinstance (by decide +kernel) (pa_cons (pv 1) (pa_cons (pe_bltn (v := .ty "tuple") (by rfl) T.nb.tuple (by decide +kernel) rfl) pa_nil))) (nomark _)) (pw_or1 (pt_not (pt_val (pe_callB call_isU (by rfl) T.nb.isinstance (by decide +kernel) (pa_cons (pv 0) (pa_cons (pe_tupB (pa_cons (pe_bltn (v := .ty "tuple") (by rfl) T.nb.tuple (by decide +kernel) rfl) (pa_cons (pe_bltn (v := .ty "list") (by rfl) T.nb.list (by decide +kernel) rfl) pa_nil))) pa_nil)))))))) (pss_one (ps_ret pe_bl)) pss_nil) (pss_cons (ps_if (pt_cmpR (op_neD hu64) (pe_callB call_lenU (by rfl) T.nb.len (by decide +kernel) (pa_cons (pv 0) pa_nil)) (pe_callB call_lenU (by rfl) T.nb.len (by decide +kernel) (pa_cons (pv 1) pa_nil)) (nomark _)) (pss_one (ps_ret pe_bl)) pss_nil) (pss_one (ps_ret (pe_cmpR (op_eqD hu64) (pe_lc (own := [("_law_k", 2)]) rfl nd (pi_range1 (by rfl) T.nb.range (pa_cons (pe_callB call_lenU (by rfl) T.nb.len (by decide +kernel) (pa_cons (pv 1) pa_nil)) pa_nil)) (by first | exact blkOk_by (by decide +kernel) | exact blkOk_by (by rfl)) (fun _ _ _ _ _ => (pg_name (i := 2) nd rfl (by first | exact Or.inl rfl | exact Or.inr rfl))) (fun _ _ _ _ _ => (pts_one (pt_not (pt_val (pe_gf G_law_alike hr passL (pa_cons (pe_ix (ix_u hu) (pv 0) (pv 2) (fun _ _ => rfl)) (pa_cons (pe_ix (ix_u hu) (pv 1) (pv 2) (fun _ _ => rfl)) pa_nil))))))) (fun _ _ _ _ _ => (pv 2))) (pe_lst pa_nil) (nomark _)))))) pss_nil) (pss_cons (ps_if (PW.pt (pw_or (pt_cmpR op_isN (pv 1) pe_non (nomark _)) (pw_or1 (pt_cmpR op_isN (pv 0) pe_non (nomark _))))) (pss_one (ps_ret (pe_and (pe_cmpR op_isN (pv 1) pe_non (nomark _)) (pe_one (pe_cmpR op_isN (pv 0) pe_non (nomark _)))))) pss_nil) (pss_cons (ps_if (PW.pt (pw_or (pt_val (pe_callB call_isU (by rfl) T.nb.isinstance (by decide +kernel) (pa_cons (pv 1) (pa_cons (pe_bltn (v := .ty "bool") (by rfl) T.nb.bool (by decide +kernel) rfl) pa_nil)))) (pw_or1 (pt_val (pe_callB call_isU (by rfl) T.nb.isinstance (by decide +kernel) (pa_cons (pv 0) (pa_cons (pe_bltn (v := .ty "bool") (by rfl) T.nb.bool (by decide +kernel) rfl) pa_nil))))))) (pss_one (ps_ret (pe_and (pe_callB call_isU (by rfl) T.nb.isinstance (by decide +kernel) (pa_cons (pv 1) (pa_cons (pe_bltn (v := .ty "bool") (by rfl) T.nb.bool (by decide +kernel) rfl) pa_nil))) (pe_and (pe_callB call_isU (by rfl) T.nb.isinstance (by decide +kernel) (pa_cons (pv 0) (pa_cons (pe_bltn (v := .ty "bool") (by rfl) T.nb.bool (by decide +kernel) rfl) pa_nil))) (pe_one (pe_cmpR (op_eqD hu64) (pv 0) (pv 1) (nomark _))))))) pss_nil) (pss_cons (ps_if (pt_val (pe_callB call_isU (by rfl) T.nb.isinstance (by decide +kernel) (pa_cons (pv 1) (pa_cons (pe_bltn (v := .ty "str") (by rfl) T.nb.str (by decide +kernel) rfl) pa_nil)))) (pss_one (ps_ret (pe_and (pe_callB call_isU (by rfl) T.nb.isinstance (by decide +kernel) (pa_cons (pv 0) (pa_cons (pe_bltn (v := .ty "str") (by rfl) T.nb.str (by decide +kernel) rfl) pa_nil))) (pe_one (pe_cmpR (op_eqD hu64) (pv 0) (pv 1) (nomark _)))))) pss_nil) (pss_one (ps_ret (pe_and (pe_callB call_isU (by rfl) T.nb.isinstance (by decide +kernel) (pa_cons (pv 0) (pa_cons (pe_bltn (v := .ty "int") (by rfl) T.nb.int (by decide +kernel) rfl) pa_nil))) (pe_one (pe_cmpR (op_eqD hu64) (pv 0) (pv 1) (nomark _))))))))))
theorem ok_law_alike {P : Program} {w : World} {K : PySem.W.Frag} {mg : Str → Option Value} {base : Heap} {a : Ad} (T : Tx P w K mg base a) {f : Addr} {fd : FuncData} (hg : mg "_law_alike" = some (.ref f)) (hb : Binds K fd ["_law_found", "_law_due"] []) (F : FunD K "_law_alike" "_law_alike" (defArgs s_law_alike) (defBody s_law_alike) (defScope s_law_alike) [] [] f fd) : ∀ n, FnOk P w K mg base (L2.CX P w) (n + 1) f fd ["_law_found", "_law_due"] (sp_alikeN n)
  | 0 => F.ok sc_law_alike len_alikeN fun cdv A outer s H vs Q E hr h => by
    obtain ⟨M, ds, _, _, t⟩ := h
    rcases ds with _ | ⟨x, _ | ⟨y, _ | ⟨_, _⟩⟩⟩ <;> simp [f_alike, plainD, RsTo] at t
  | n + 1 => F.ok sc_law_alike len_alikeN fun cdv A outer s H vs Q E hr h => ⟨_, der_law_alike T ⟨_, _, hg, F.kp, hb, ok_law_alike T hg hb F n⟩ hr, pure_law_alike vs H Q E h⟩
theorem sc_law_key : FnScope ["_law_row", "_law_far"] ["_law_row", "_law_far"] (defScope s_law_key) := ⟨rfl, rfl, rfl, by decide +kernel, rfl, by decide +kernel, by decide +kernel⟩
theorem der_law_key {P : Program} {w : World} {K : PySem.W.Frag} {mg : Str → Option Value} {base : Heap} {a : Ad} (T : Tx P w K mg base a) (G_law_taken : Gf P w K mg base 1 "_law_taken" ["_law_row", "_law_many"] (sp_law_taken P w K a))
    {f : Addr} {cdv : Value} {A : Around} {outer : List Env} {s : Shared} {H : Hp} {E : XK} (hr : Room 1 (A.deeper (envOfC "_law_key" (defScope s_law_key) s.heap.objs.size f cdv))) :
    PSs (cxOf (L2.CX P w) P w K mg base ["_law_row", "_law_far"] "_law_key" (defScope s_law_key) f cdv A outer s H E) (defBody s_law_key) (t_law_key P w K a E) := by
  have nd := sc_law_key.nd
  have tk : Takes (cxOf (L2.CX P w) P w K mg base ["_law_row", "_law_far"] "_law_key" (defScope s_law_key) f cdv A outer s H E) (fun cls d _ H => E cls d H) := takes_of rfl rfl rfl rfl
  have px : Passes (L2.CX P w) (cxOf (L2.CX P w) P w K mg base ["_law_row", "_law_far"] "_law_key" (defScope s_law_key) f cdv A outer s H E) E := px_of tk fun _ _ _ _ z => z
  have po : PassesOwn (model P w) (A.deeper (envOfC "_law_key" (defScope s_law_key) s.heap.objs.size f cdv)) (envOfC "_law_key" (defScope s_law_key) s.heap.objs.size f cdv) (cxOf (L2.CX P w) P w K mg base ["_law_row", "_law_far"] "_law_key" (defScope s_law_key) f cdv A outer s H E).xe := passes_of (X := cxOf (L2.CX P w) P w K mg base ["_law_row", "_law_far"] "_law_key" (defScope s_law_key) f cdv A outer s H E) rfl
  have hu := hu_of hr
  have hu64 := hr.units
  have hu65 := hu65 hr
  exact (pss_one (ps_ret (pe_gf G_law_taken (hr.mono (by decide)) px (pa_cons (pv 0) (pa_cons (pe_ix (ix_u hu) (pe_lst (pa_cons pe_int (pa_cons pe_int (pa_cons (pv 1) pa_nil)))) (pe_gf G_law_taken (hr.mono (by decide)) px (pa_cons (pv 0) (pa_cons pe_int pa_nil))) (fun _ _ => rfl)) pa_nil)))))
theorem ok_law_key {P : Program} {w : World} {K : PySem.W.Frag} {mg : Str → Option Value} {base : Heap} {a : Ad} (T : Tx P w K mg base a) (G_law_taken : Gf P w K mg base 1 "_law_taken" ["_law_row", "_law_many"] (sp_law_taken P w K a)) {f : Addr} {fd : FuncData} (F : FunD K "_law_key" "_law_key" (defArgs s_law_key) (defBody s_law_key) (defScope s_law_key) [] [] f fd) : FnOk P w K mg base (L2.CX P w) 2 f fd ["_law_row", "_law_far"] (sp_law_key P w K a) :=
  F.ok sc_law_key len_law_key fun cdv A outer s H vs Q E hr h => ⟨_, der_law_key T G_law_taken hr, pure_law_key vs H Q E h⟩
theorem sc_law_laid : FnScope ["_law_rows", "_law_fill", "_law_parts", "_law_k", "_law_part"] ["_law_rows", "_law_fill"] (defScope s_law_laid) := ⟨rfl, rfl, rfl, by decide +kernel, rfl, by decide +kernel, by decide +kernel⟩
theorem der_law_laid {P : Program} {w : World} {K : PySem.W.Frag} {mg : Str → Option Value} {base : Heap} {a : Ad} (T : Tx P w K mg base a) 
    {f : Addr} {cdv : Value} {A : Around} {outer : List Env} {s : Shared} {H : Hp} {E : XK} (hr : Room 0 (A.deeper (envOfC "_law_laid" (defScope s_law_laid) s.heap.objs.size f cdv))) :
    PSs (cxOf (L2.CX P w) P w K mg base ["_law_rows", "_law_fill", "_law_parts", "_law_k", "_law_part"] "_law_laid" (defScope s_law_laid) f cdv A outer s H E) (defBody s_law_laid) (t_law_laid P w K a E) := by
  have nd := sc_law_laid.nd
  have tk : Takes (cxOf (L2.CX P w) P w K mg base ["_law_rows", "_law_fill", "_law_parts", "_law_k", "_law_part"] "_law_laid" (defScope s_law_laid) f cdv A outer s H E) (fun cls d _ H => E cls d H) := takes_of rfl rfl rfl rfl
  have px : Passes (L2.CX P w) (cxOf (L2.CX P w) P w K mg base ["_law_rows", "_law_fill", "_law_parts", "_law_k", "_law_part"] "_law_laid" (defScope s_law_laid) f cdv A outer s H E) E := px_of tk fun _ _ _ _ z => z
  have po : PassesOwn (model P w) (A.deeper (envOfC "_law_laid" (defScope s_law_laid) s.heap.objs.size f cdv)) (envOfC "_law_laid" (defScope s_law_laid) s.heap.objs.size f cdv) (cxOf (L2.CX P w) P w K mg base ["_law_rows", "_law_fill", "_law_parts", "_law_k", "_law_part"] "_law_laid" (defScope s_law_laid) f cdv A outer s H E).xe := passes_of (X := cxOf (L2.CX P w) P w K mg base ["_law_rows", "_law_fill", "_law_parts", "_law_k", "_law_part"] "_law_laid" (defScope s_law_laid) f cdv A outer s H E) rfl
  have hu := hu_of hr
  have hu64 := hr.units
  have hu65 := hu65 hr
  exact (pss_cons (ps_setLc (i := 2) (own := [("_law_k", 3)]) rfl nd rfl rfl (sw_true rfl rfl rfl (by decide +kernel)) (pi_range3 (by rfl) T.nb.range (pa_cons pe_int (pa_cons (pe_callB call_lenU (by rfl) T.nb.len (by decide +kernel) (pa_cons (pv 0) pa_nil)) (pa_cons (pv 1) pa_nil)))) (by first | exact blkOk_by (by decide +kernel) | exact blkOk_by (by rfl)) (fun _ _ _ _ _ => (pg_name (i := 3) nd rfl (by first | exact Or.inl rfl | exact Or.inr rfl))) (fun _ _ _ _ _ => pts_nil) (fun _ _ _ _ _ => (pe_callTy call_tupU (by rfl) T.nb.tuple (by decide +kernel) (pa_cons (pe_slice sl_u (pv 0) (po_some (pv 3)) (po_some (pe_op op_addU (pv 3) (pv 1)))) pa_nil)))) (pss_cons (ps_set (i := 2) nd rfl (by first | exact Or.inl rfl | exact Or.inr rfl) (pe_ifExp (pt_cmpR (op_neD hu64) (pv 2) (pe_lst pa_nil) (nomark _)) (pv 2) (pe_lst (pa_cons (pe_tupB pa_nil) pa_nil)))) (pss_one (ps_ret (pe_tupB (pa_cons (pe_lc (own := [("_law_part", 4)]) rfl nd (pi_seqU (pe_slice sl_u (pv 2) po_none (po_some (pe_un un_neg pe_int)))) (by first | exact blkOk_by (by decide +kernel) | exact blkOk_by (by rfl)) (fun _ _ _ _ _ => (pg_name (i := 4) nd rfl (by first | exact Or.inl rfl | exact Or.inr rfl))) (fun _ _ _ _ _ => pts_nil) (fun _ _ _ _ _ => (pe_ix (ix_u hu) (pe_ix (ix_u hu) (pv 4) (pe_un un_neg pe_int) (fun _ _ => rfl)) pe_int (fun _ _ => rfl)))) (pa_cons (pe_lc (own := [("_law_part", 4)]) rfl nd (pi_seqU (pv 2)) (by first | exact blkOk_by (by decide +kernel) | exact blkOk_by (by rfl)) (fun _ _ _ _ _ => (pg_name (i := 4) nd rfl (by first | exact Or.inl rfl | exact Or.inr rfl))) (fun _ _ _ _ _ => pts_nil) (fun _ _ _ _ _ => (pe_tupB (pa_cons (pv 4) (pa_cons pe_non pa_nil))))) pa_nil)))))))
theorem ok_law_laid {P : Program} {w : World} {K : PySem.W.Frag} {mg : Str → Option Value} {base : Heap} {a : Ad} (T : Tx P w K mg base a)  {f : Addr} {fd : FuncData} (F : FunD K "_law_laid" "_law_laid" (defArgs s_law_laid) (defBody s_law_laid) (defScope s_law_laid) [] [] f fd) : FnOk P w K mg base (L2.CX P w) 1 f fd ["_law_rows", "_law_fill"] (sp_law_laid P w K a) :=
  F.ok sc_law_laid len_law_laid fun cdv A outer s H vs Q E hr h => ⟨_, der_law_laid T  hr, pure_law_laid vs H Q E h⟩
theorem sc_law_made : FnScope ["_law_shape", "_law_rows", "_law_fences", "_law_pages", "_law_m"] ["_law_shape", "_law_rows"] (defScope s_law_made) := ⟨rfl, rfl, rfl, by decide +kernel, rfl, by decide +kernel, by decide +kernel⟩
theorem der_law_made {P : Program} {w : World} {K : PySem.W.Frag} {mg : Str → Option Value} {base : Heap} {a : Ad} (T : Tx P w K mg base a) (G_law_laid : Gf P w K mg base 1 "_law_laid" ["_law_rows", "_law_fill"] (sp_law_laid P w K a))
    {f : Addr} {cdv : Value} {A : Around} {outer : List Env} {s : Shared} {H : Hp} {E : XK} (hr : Room 1 (A.deeper (envOfC "_law_made" (defScope s_law_made) s.heap.objs.size f cdv))) :
    PSs (cxOf (L2.CX P w) P w K mg base ["_law_shape", "_law_rows", "_law_fences", "_law_pages", "_law_m"] "_law_made" (defScope s_law_made) f cdv A outer s H E) (defBody s_law_made) (t_law_made P w K a E) := by
  have nd := sc_law_made.nd
  have tk : Takes (cxOf (L2.CX P w) P w K mg base ["_law_shape", "_law_rows", "_law_fences", "_law_pages", "_law_m"] "_law_made" (defScope s_law_made) f cdv A outer s H E) (fun cls d _ H => E cls d H) := takes_of rfl rfl rfl rfl
  have px : Passes (L2.CX P w) (cxOf (L2.CX P w) P w K mg base ["_law_shape", "_law_rows", "_law_fences", "_law_pages", "_law_m"] "_law_made" (defScope s_law_made) f cdv A outer s H E) E := px_of tk fun _ _ _ _ z => z
  have po : PassesOwn (model P w) (A.deeper (envOfC "_law_made" (defScope s_law_made) s.heap.objs.size f cdv)) (envOfC "_law_made" (defScope s_law_made) s.heap.objs.size f cdv) (cxOf (L2.CX P w) P w K mg base ["_law_shape", "_law_rows", "_law_fences", "_law_pages", "_law_m"] "_law_made" (defScope s_law_made) f cdv A outer s H E).xe := passes_of (X := cxOf (L2.CX P w) P w K mg base ["_law_shape", "_law_rows", "_law_fences", "_law_pages", "_law_m"] "_law_made" (defScope s_law_made) f cdv A outer s H E) rfl
  have hu := hu_of hr
  have hu64 := hr.units
  have hu65 := hu65 hr
  exact (pss_cons (ps_asg (pe_gf G_law_laid (hr.mono (by decide)) px (pa_cons (pv 1) (pa_cons (pe_ix (ix_u hu) (pv 0) pe_int (fun _ _ => rfl)) pa_nil))) (pg_tup rfl (pgs_cons (pg_name (i := 2) nd rfl (by first | exact Or.inl rfl | exact Or.inr rfl)) (pgs_cons (pg_name (i := 3) nd rfl (by first | exact Or.inl rfl | exact Or.inr rfl)) pgs_nil)))) (pss_cons (ps_set (i := 4) nd rfl (by first | exact Or.inl rfl | exact Or.inr rfl) (pe_disp (pps_cons pe_str (pe_ix (ix_u hu) (pv 0) pe_int (fun _ _ => rfl)) (pps_cons pe_str (pv 2) (pps_cons pe_str (pv 3) (pps_cons pe_str (pe_op op_mulU (pe_lst (pa_cons pe_non pa_nil)) (pe_ix (ix_u hu) (pv 0) pe_int (fun _ _ => rfl))) pps_nil)))) (by rfl) (by rfl) (fun z => by cases z) (by decide))) (pss_cons (ps_expr (pe_dupd (pv 4) (pe_disp (pps_cons pe_str pe_int (pps_cons pe_str pe_non (pps_cons pe_str pe_bl (pps_cons pe_str (pe_lst pa_nil) pps_nil)))) (by rfl) (by rfl) (fun z => by cases z) (by decide)) (by exact ⟨rfl, rfl, rfl, rfl⟩))) (pss_one (ps_ret (pv 4))))))
theorem ok_law_made {P : Program} {w : World} {K : PySem.W.Frag} {mg : Str → Option Value} {base : Heap} {a : Ad} (T : Tx P w K mg base a) (G_law_laid : Gf P w K mg base 1 "_law_laid" ["_law_rows", "_law_fill"] (sp_law_laid P w K a)) {f : Addr} {fd : FuncData} (F : FunD K "_law_made" "_law_made" (defArgs s_law_made) (defBody s_law_made) (defScope s_law_made) [] [] f fd) : FnOk P w K mg base (L2.CX P w) 2 f fd ["_law_shape", "_law_rows"] (sp_law_made P w K a) :=
  F.ok sc_law_made len_law_made fun cdv A outer s H vs Q E hr h => ⟨_, der_law_made T G_law_laid hr, pure_law_made vs H Q E h⟩
theorem sc_law_chain : FnScope ["_law_m", "_law_page", "_law_found", "_law_cell"] ["_law_m", "_law_page"] (defScope s_law_chain) := ⟨rfl, rfl, rfl, by decide +kernel, rfl, by decide +kernel, by decide +kernel⟩
theorem der_law_chain {P : Program} {w : World} {K : PySem.W.Frag} {mg : Str → Option Value} {base : Heap} {a : Ad} (T : Tx P w K mg base a) 
    {f : Addr} {cdv : Value} {A : Around} {outer : List Env} {s : Shared} {H : Hp} {E : XK} (hr : Room 0 (A.deeper (envOfC "_law_chain" (defScope s_law_chain) s.heap.objs.size f cdv))) :
    PSs (cxOf (L2.CX P w) P w K mg base ["_law_m", "_law_page", "_law_found", "_law_cell"] "_law_chain" (defScope s_law_chain) f cdv A outer s H E) (defBody s_law_chain) (t_law_chain P w K a E) := by
  have nd := sc_law_chain.nd
  have tk : Takes (cxOf (L2.CX P w) P w K mg base ["_law_m", "_law_page", "_law_found", "_law_cell"] "_law_chain" (defScope s_law_chain) f cdv A outer s H E) (fun cls d _ H => E cls d H) := takes_of rfl rfl rfl rfl
  have px : Passes (L2.CX P w) (cxOf (L2.CX P w) P w K mg base ["_law_m", "_law_page", "_law_found", "_law_cell"] "_law_chain" (defScope s_law_chain) f cdv A outer s H E) E := px_of tk fun _ _ _ _ z => z
  have po : PassesOwn (model P w) (A.deeper (envOfC "_law_chain" (defScope s_law_chain) s.heap.objs.size f cdv)) (envOfC "_law_chain" (defScope s_law_chain) s.heap.objs.size f cdv) (cxOf (L2.CX P w) P w K mg base ["_law_m", "_law_page", "_law_found", "_law_cell"] "_law_chain" (defScope s_law_chain) f cdv A outer s H E).xe := passes_of (X := cxOf (L2.CX P w) P w K mg base ["_law_m", "_law_page", "_law_found", "_law_cell"] "_law_chain" (defScope s_law_chain) f cdv A outer s H E) rfl
  have hu := hu_of hr
  have hu64 := hr.units
  have hu65 := hu65 hr
  exact (pss_cons (ps_par rfl nd rfl rfl (by decide) rfl rfl (pa_cons (pe_lst pa_nil) (pa_cons (pe_ix (ix_u hu) (pe_ix (ix_u hu) (pe_ix (ix_u hu) (pv 0) pe_str (fun _ _ => rfl)) (pv 1) (fun _ _ => rfl)) pe_int (fun _ _ => rfl)) pa_nil)) (by rfl)) (pss_cons (ps_while po (pt_cmpR op_notN (pv 3) pe_non (nomark _)) (pss_cons (ps_expr (pe_bm PySem.F.plainAttrs_list PySem.F.slot_list_append PySem.F.type_list_append mt_append (pv 2) (pa_cons (pv 3) pa_nil))) (pss_one (ps_set (i := 3) nd rfl (by first | exact Or.inl rfl | exact Or.inr rfl) (pe_ix (ix_u hu) (pe_ix (ix_u hu) (pe_ix (ix_u hu) (pv 0) pe_str (fun _ _ => rfl)) (pv 3) (fun _ _ => rfl)) pe_int (fun _ _ => rfl)))))) (pss_one (ps_ret (pv 2)))))
theorem ok_law_chain {P : Program} {w : World} {K : PySem.W.Frag} {mg : Str → Option Value} {base : Heap} {a : Ad} (T : Tx P w K mg base a)  {f : Addr} {fd : FuncData} (F : FunD K "_law_chain" "_law_chain" (defArgs s_law_chain) (defBody s_law_chain) (defScope s_law_chain) [] [] f fd) : FnOk P w K mg base (L2.CX P w) 1 f fd ["_law_m", "_law_page"] (sp_law_chain P w K a) :=
  F.ok sc_law_chain len_law_chain fun cdv A outer s H vs Q E hr h => ⟨_, der_law_chain T  hr, pure_law_chain vs H Q E h⟩
theorem sc_law_all : FnScope ["_law_m", "_law_found", "_law_page", "_law_cell"] ["_law_m"] (defScope s_law_all) := ⟨rfl, rfl, rfl, by decide +kernel, rfl, by decide +kernel, by decide +kernel⟩
theorem der_law_all {P : Program} {w : World} {K : PySem.W.Frag} {mg : Str → Option Value} {base : Heap} {a : Ad} (T : Tx P w K mg base a) (G_law_chain : Gf P w K mg base 1 "_law_chain" ["_law_m", "_law_page"] (sp_law_chain P w K a))
    {f : Addr} {cdv : Value} {A : Around} {outer : List Env} {s : Shared} {H : Hp} {E : XK} (hr : Room 1 (A.deeper (envOfC "_law_all" (defScope s_law_all) s.heap.objs.size f cdv))) :
    PSs (cxOf (L2.CX P w) P w K mg base ["_law_m", "_law_found", "_law_page", "_law_cell"] "_law_all" (defScope s_law_all) f cdv A outer s H E) (defBody s_law_all) (t_law_all P w K a E) := by
  have nd := sc_law_all.nd
  have tk : Takes (cxOf (L2.CX P w) P w K mg base ["_law_m", "_law_found", "_law_page", "_law_cell"] "_law_all" (defScope s_law_all) f cdv A outer s H E) (fun cls d _ H => E cls d H) := takes_of rfl rfl rfl rfl
  have px : Passes (L2.CX P w) (cxOf (L2.CX P w) P w K mg base ["_law_m", "_law_found", "_law_page", "_law_cell"] "_law_all" (defScope s_law_all) f cdv A outer s H E) E := px_of tk fun _ _ _ _ z => z
  have po : PassesOwn (model P w) (A.deeper (envOfC "_law_all" (defScope s_law_all) s.heap.objs.size f cdv)) (envOfC "_law_all" (defScope s_law_all) s.heap.objs.size f cdv) (cxOf (L2.CX P w) P w K mg base ["_law_m", "_law_found", "_law_page", "_law_cell"] "_law_all" (defScope s_law_all) f cdv A outer s H E).xe := passes_of (X := cxOf (L2.CX P w) P w K mg base ["_law_m", "_law_found", "_law_page", "_law_cell"] "_law_all" (defScope s_law_all) f cdv A outer s H E) rfl
  have hu := hu_of hr
  have hu64 := hr.units
  have hu65 := hu65 hr
  exact (pss_cons (ps_set (i := 1) nd rfl (by first | exact Or.inl rfl | exact Or.inr rfl) (pe_lst pa_nil)) (pss_cons (ps_for po rfl (pi_range1 (by rfl) T.nb.range (pa_cons (pe_callB call_lenU (by rfl) T.nb.len (by decide +kernel) (pa_cons (pe_ix (ix_u hu) (pv 0) pe_str (fun _ _ => rfl)) pa_nil)) pa_nil)) (pg_name (i := 2) nd rfl (by first | exact Or.inl rfl | exact Or.inr rfl)) (pss_one (ps_set (i := 1) nd rfl (by first | exact Or.inl rfl | exact Or.inr rfl) (pe_op op_addU (pe_op op_addU (pv 1) (pe_callTy call_listU (by rfl) T.nb.list (by decide +kernel) (pa_cons (pe_ix (ix_u hu) (pe_ix (ix_u hu) (pe_ix (ix_u hu) (pv 0) pe_str (fun _ _ => rfl)) (pv 2) (fun _ _ => rfl)) pe_int (fun _ _ => rfl)) pa_nil))) (pe_lc (own := [("_law_cell", 3)]) rfl nd (pi_seqU (pe_gf G_law_chain (hr.mono (by decide)) px (pa_cons (pv 0) (pa_cons (pv 2) pa_nil)))) (by first | exact blkOk_by (by decide +kernel) | exact blkOk_by (by rfl)) (fun _ _ _ _ _ => (pg_name (i := 3) nd rfl (by first | exact Or.inl rfl | exact Or.inr rfl))) (fun _ _ _ _ _ => pts_nil) (fun _ _ _ _ _ => (pe_ix (ix_u hu) (pe_ix (ix_u hu) (pe_ix (ix_u hu) (pv 0) pe_str (fun _ _ => rfl)) (pv 3) (fun _ _ => rfl)) pe_int (fun _ _ => rfl)))))))) (pss_one (ps_ret (pv 1)))))
theorem ok_law_all {P : Program} {w : World} {K : PySem.W.Frag} {mg : Str → Option Value} {base : Heap} {a : Ad} (T : Tx P w K mg base a) (G_law_chain : Gf P w K mg base 1 "_law_chain" ["_law_m", "_law_page"] (sp_law_chain P w K a)) {f : Addr} {fd : FuncData} (F : FunD K "_law_all" "_law_all" (defArgs s_law_all) (defBody s_law_all) (defScope s_law_all) [] [] f fd) : FnOk P w K mg base (L2.CX P w) 2 f fd ["_law_m"] (sp_law_all P w K a) :=
  F.ok sc_law_all len_law_all fun cdv A outer s H vs Q E hr h => ⟨_, der_law_all T G_law_chain hr, pure_law_all vs H Q E h⟩
theorem sc_law_step : FnScope ["_law_row", "_law_m", "_law_stops", "_law_way", "_law_key_here", "_law_worth", "_law_keys", "_law_marks", "_law_one"] ["_law_row", "_law_m", "_law_stops"] (defScope s_law_step) := ⟨rfl, rfl, rfl, by decide +kernel, rfl, by decide +kernel, by decide +kernel⟩
theorem der_law_step {P : Program} {w : World} {K : PySem.W.Frag} {mg : Str → Option Value} {base : Heap} {a : Ad} (T : Tx P w K mg base a) (G_law_all : Gf P w K mg base 2 "_law_all" ["_law_m"] (sp_law_all P w K a)) (G_law_key : Gf P w K mg base 2 "_law_key" ["_law_row", "_law_far"] (sp_law_key P w K a)) (G_law_taken : Gf P w K mg base 1 "_law_taken" ["_law_row", "_law_many"] (sp_law_taken P w K a))
    {f : Addr} {cdv : Value} {A : Around} {outer : List Env} {s : Shared} {H : Hp} {E : XK} (hr : Room 2 (A.deeper (envOfC "_law_step" (defScope s_law_step) s.heap.objs.size f cdv))) :
    PSs (cxOf (L2.CX P w) P w K mg base ["_law_row", "_law_m", "_law_stops", "_law_way", "_law_key_here", "_law_worth", "_law_keys", "_law_marks", "_law_one"] "_law_step" (defScope s_law_step) f cdv A outer s H E) (defBody s_law_step) (t_law_step P w K a E) := by
  have nd := sc_law_step.nd
  have tk : Takes (cxOf (L2.CX P w) P w K mg base ["_law_row", "_law_m", "_law_stops", "_law_way", "_law_key_here", "_law_worth", "_law_keys", "_law_marks", "_law_one"] "_law_step" (defScope s_law_step) f cdv A outer s H E) (fun cls d _ H => E cls d H) := takes_of rfl rfl rfl rfl
  have px : Passes (L2.CX P w) (cxOf (L2.CX P w) P w K mg base ["_law_row", "_law_m", "_law_stops", "_law_way", "_law_key_here", "_law_worth", "_law_keys", "_law_marks", "_law_one"] "_law_step" (defScope s_law_step) f cdv A outer s H E) E := px_of tk fun _ _ _ _ z => z
  have po : PassesOwn (model P w) (A.deeper (envOfC "_law_step" (defScope s_law_step) s.heap.objs.size f cdv)) (envOfC "_law_step" (defScope s_law_step) s.heap.objs.size f cdv) (cxOf (L2.CX P w) P w K mg base ["_law_row", "_law_m", "_law_stops", "_law_way", "_law_key_here", "_law_worth", "_law_keys", "_law_marks", "_law_one"] "_law_step" (defScope s_law_step) f cdv A outer s H E).xe := passes_of (X := cxOf (L2.CX P w) P w K mg base ["_law_row", "_law_m", "_law_stops", "_law_way", "_law_key_here", "_law_worth", "_law_keys", "_law_marks", "_law_one"] "_law_step" (defScope s_law_step) f cdv A outer s H E) rfl
  have hu := hu_of hr
  have hu64 := hr.units
  have hu65 := hu65 hr
  exact (pss_cons (ps_set (i := 3) nd rfl (by first | exact Or.inl rfl | exact Or.inr rfl) (pe_gf G_law_taken (hr.mono (by decide)) px (pa_cons (pv 0) (pa_cons pe_int pa_nil)))) (pss_cons (ps_par rfl nd rfl rfl (by decide) rfl rfl (pa_cons (pe_gf G_law_key (hr.mono (by decide)) px (pa_cons (pv 0) (pa_cons pe_int pa_nil))) (pa_cons (pe_gf G_law_taken (hr.mono (by decide)) px (pa_cons (pv 0) (pa_cons pe_int pa_nil))) pa_nil)) (by rfl)) (pss_cons (ps_setLc (i := 6) (own := [("_law_one", 8)]) rfl nd rfl rfl (sw_true rfl rfl rfl (by decide +kernel)) (pi_seqU (pe_gf G_law_all (hr.mono (by decide)) px (pa_cons (pv 1) pa_nil))) (by first | exact blkOk_by (by decide +kernel) | exact blkOk_by (by rfl)) (fun _ _ _ _ _ => (pg_name (i := 8) nd rfl (by first | exact Or.inl rfl | exact Or.inr rfl))) (fun _ _ _ _ _ => pts_nil) (fun _ _ _ _ _ => (pe_ix (ix_u hu) (pv 8) pe_int (fun _ _ => rfl)))) (pss_cons (ps_if (pt_cmpR op_lt (pv 3) pe_int (nomark _)) (pss_one (ps_ret (pe_tupB (pa_cons pe_str (pa_cons (pv 4) (pa_cons (pv 5) pa_nil)))))) pss_nil) (pss_cons (ps_if (pt_cmpR op_lt (pv 3) pe_int (nomark _)) (pss_one (ps_ret (pe_tupB (pa_cons pe_str (pa_cons (pe_ifExp (pt_cmpR (op_neD hu64) (pv 6) (pe_lst pa_nil) (nomark _)) (pe_ix (ix_u hu) (pe_lst (pa_cons (pe_ix (ix_u hu) (pv 6) (pe_op op_mod (pv 5) (pe_callB call_lenU (by rfl) T.nb.len (by decide +kernel) (pa_cons (pv 6) pa_nil))) (fun _ _ => rfl)) (pa_cons (pv 4) pa_nil))) (pe_callTy call_intU (by rfl) T.nb.int (by decide +kernel) (pa_cons (pe_cmpR (op_eqD hu64) (pe_op op_mod (pv 5) pe_int) pe_int (nomark _)) pa_nil)) (fun _ _ => rfl)) (pv 4)) pa_nil))))) pss_nil) (pss_cons (ps_if (pt_cmpR op_lt (pv 3) pe_int (nomark _)) (pss_one (ps_ret (pe_ix (ix_u hu) (pe_lst (pa_cons (pe_tupB (pa_cons pe_str (pa_cons (pv 4) pa_nil))) (pa_cons (pe_tupB (pa_cons pe_str (pa_cons (pv 4) pa_nil))) pa_nil))) (pe_op op_sub (pv 3) pe_int) (fun _ _ => rfl)))) pss_nil) (pss_cons (ps_if (pt_cmpR op_lt (pv 3) pe_int (nomark _)) (pss_cons (ps_set (i := 7) nd rfl (by first | exact Or.inl rfl | exact Or.inr rfl) (pe_callB call_lenU (by rfl) T.nb.len (by decide +kernel) (pa_cons (pe_ix (ix_u hu) (pv 1) pe_str (fun _ _ => rfl)) pa_nil))) (pss_one (ps_ret (pe_ifExp (PW.pt (pw_or (PW.pt (pw_and (pt_cmpR op_gt (pv 7) pe_int (nomark _)) (pw_and1 (pt_cmpR (op_eqD hu64) (pv 3) pe_int (nomark _))))) (pw_or1 (pt_cmpR op_gt (pv 7) pe_int (nomark _))))) (pe_tupB (pa_cons pe_str (pa_cons (pe_op op_mod (pv 5) (pv 7)) pa_nil))) (pe_tupB (pa_cons pe_str pa_nil)))))) pss_nil) (pss_cons (ps_if (pt_cmpR (op_eqD hu64) (pv 3) pe_int (nomark _)) (pss_one (ps_ret (pe_tupB (pa_cons pe_str (pa_cons (pe_op op_addU pe_int (pe_op op_mod (pv 5) (pe_ix (ix_u hu) (pv 1) pe_str (fun _ _ => rfl)))) pa_nil))))) pss_nil) (pss_cons (ps_if (PW.pt (pw_and (pt_cmpR (op_eqD hu64) (pv 3) pe_int (nomark _)) (pw_and1 (pt_val (pv 2))))) (pss_one (ps_ret (pe_tupB (pa_cons pe_str (pa_cons (pe_op op_mod (pv 5) pe_int) pa_nil))))) pss_nil) (pss_one (ps_ret (pe_ifExp (PW.pt (pw_and (pt_cmpR op_gt (pv 3) pe_int (nomark _)) (pw_and1 (pt_val (pv 2))))) (pe_tupB (pa_cons pe_str pa_nil)) (pe_tupB (pa_cons pe_str (pa_cons (pv 4) (pa_cons (pv 5) pa_nil))))))))))))))))
theorem ok_law_step {P : Program} {w : World} {K : PySem.W.Frag} {mg : Str → Option Value} {base : Heap} {a : Ad} (T : Tx P w K mg base a) (G_law_all : Gf P w K mg base 2 "_law_all" ["_law_m"] (sp_law_all P w K a)) (G_law_key : Gf P w K mg base 2 "_law_key" ["_law_row", "_law_far"] (sp_law_key P w K a)) (G_law_taken : Gf P w K mg base 1 "_law_taken" ["_law_row", "_law_many"] (sp_law_taken P w K a)) {f : Addr} {fd : FuncData} (F : FunD K "_law_step" "_law_step" (defArgs s_law_step) (defBody s_law_step) (defScope s_law_step) [] [] f fd) : FnOk P w K mg base (L2.CX P w) 3 f fd ["_law_row", "_law_m", "_law_stops"] (sp_law_step P w K a) :=
  F.ok sc_law_step len_law_step fun cdv A outer s H vs Q E hr h => ⟨_, der_law_step T G_law_all G_law_key G_law_taken hr, pure_law_step vs H Q E h⟩
theorem sc_law_read : FnScope ["_law_line", "_law_words", "_law_many", "_law_word_here", "_law_sign"] ["_law_line"] (defScope s_law_read) := ⟨rfl, rfl, rfl, by decide +kernel, rfl, by decide +kernel, by decide +kernel⟩
theorem der_law_read {P : Program} {w : World} {K : PySem.W.Frag} {mg : Str → Option Value} {base : Heap} {a : Ad} (T : Tx P w K mg base a) 
    {f : Addr} {cdv : Value} {A : Around} {outer : List Env} {s : Shared} {H : Hp} {E : XK} (hr : Room 0 (A.deeper (envOfC "_law_read" (defScope s_law_read) s.heap.objs.size f cdv))) :
    PSs (cxOf (L2.CX P w) P w K mg base ["_law_line", "_law_words", "_law_many", "_law_word_here", "_law_sign"] "_law_read" (defScope s_law_read) f cdv A outer s H E) (defBody s_law_read) (t_law_read P w K a E) := by
  have nd := sc_law_read.nd
  have tk : Takes (cxOf (L2.CX P w) P w K mg base ["_law_line", "_law_words", "_law_many", "_law_word_here", "_law_sign"] "_law_read" (defScope s_law_read) f cdv A outer s H E) (fun cls d _ H => E cls d H) := takes_of rfl rfl rfl rfl
  have px : Passes (L2.CX P w) (cxOf (L2.CX P w) P w K mg base ["_law_line", "_law_words", "_law_many", "_law_word_here", "_law_sign"] "_law_read" (defScope s_law_read) f cdv A outer s H E) E := px_of tk fun _ _ _ _ z => z
  have po : PassesOwn (model P w) (A.deeper (envOfC "_law_read" (defScope s_law_read) s.heap.objs.size f cdv)) (envOfC "_law_read" (defScope s_law_read) s.heap.objs.size f cdv) (cxOf (L2.CX P w) P w K mg base ["_law_line", "_law_words", "_law_many", "_law_word_here", "_law_sign"] "_law_read" (defScope s_law_read) f cdv A outer s H E).xe := passes_of (X := cxOf (L2.CX P w) P w K mg base ["_law_line", "_law_words", "_law_many", "_law_word_here", "_law_sign"] "_law_read" (defScope s_law_read) f cdv A outer s H E) rfl
  have hu := hu_of hr
  have hu64 := hr.units
  have hu65 := hu65 hr
  exact (pss_cons (ps_set (i := 1) nd rfl (by first | exact Or.inl rfl | exact Or.inr rfl) (pe_split1 (pv 0) pe_str)) (pss_cons (ps_set (i := 2) nd rfl (by first | exact Or.inl rfl | exact Or.inr rfl) (pe_disp (pps_cons pe_str pe_int (pps_cons pe_str pe_int (pps_cons pe_str pe_int (pps_cons pe_str pe_int (pps_cons pe_str pe_int (pps_cons pe_str pe_int (pps_cons pe_str pe_int (pps_cons pe_str pe_int (pps_cons pe_str pe_int pps_nil))))))))) (by rfl) (by rfl) (fun z => by cases z) (by decide))) (pss_cons (ps_if (pt_cmpR (op_neD hu64) (pe_dget2 hu (pv 2) (pe_ix (ix_u hu) (pv 1) pe_int (fun _ _ => rfl)) (pe_op op_sub pe_int pe_int) (by exact ⟨rfl, rfl, rfl, rfl⟩)) (pe_op op_sub (pe_callB call_lenU (by rfl) T.nb.len (by decide +kernel) (pa_cons (pv 1) pa_nil)) pe_int) (nomark _)) (pss_one (ps_ret pe_non)) pss_nil) (pss_cons (ps_for po rfl (pi_seqU (pe_slice sl_u (pv 1) (po_some pe_int) po_none)) (pg_name (i := 3) nd rfl (by first | exact Or.inl rfl | exact Or.inr rfl)) (pss_cons (ps_if (PW.pt (pw_or (pt_cmpR op_gt (pe_callB call_lenU (by rfl) T.nb.len (by decide +kernel) (pa_cons (pv 3) pa_nil)) pe_int (nomark _)) (pw_or (pt_cmpR (op_eqD hu64) (pv 3) pe_str (nomark _)) (pw_or1 (pt_cmpR (op_neD hu64) (pe_lc (own := [("_law_sign", 4)]) rfl nd (pi_seqU (pv 3)) (by first | exact blkOk_by (by decide +kernel) | exact blkOk_by (by rfl)) (fun _ _ _ _ _ => (pg_name (i := 4) nd rfl (by first | exact Or.inl rfl | exact Or.inr rfl))) (fun _ _ _ _ _ => (pts_one (pt_cmpR (op_notInU hu65) (pv 4) pe_str (by rfl)))) (fun _ _ _ _ _ => (pv 4))) (pe_lst pa_nil) (nomark _)))))) (pss_one (ps_ret pe_non)) pss_nil) (pss_one (ps_if (pt_cmpR (op_neD hu64) (pe_callTy call_strU (by rfl) T.nb.str (by decide +kernel) (pa_cons (pe_callTy call_int_str (by rfl) T.nb.int (by decide +kernel) (pa_cons (pv 3) pa_nil)) pa_nil)) (pv 3) (nomark _)) (pss_one (ps_ret pe_non)) pss_nil)))) (pss_one (ps_ret (pe_op op_addU (pe_tupB (pa_cons (pe_ix (ix_u hu) (pv 1) pe_int (fun _ _ => rfl)) pa_nil)) (pe_callTy call_tupU (by rfl) T.nb.tuple (by decide +kernel) (pa_cons (pe_lc (own := [("_law_word_here", 3)]) rfl nd (pi_seqU (pe_slice sl_u (pv 1) (po_some pe_int) po_none)) (by first | exact blkOk_by (by decide +kernel) | exact blkOk_by (by rfl)) (fun _ _ _ _ _ => (pg_name (i := 3) nd rfl (by first | exact Or.inl rfl | exact Or.inr rfl))) (fun _ _ _ _ _ => pts_nil) (fun _ _ _ _ _ => (pe_callTy call_int_str (by rfl) T.nb.int (by decide +kernel) (pa_cons (pv 3) pa_nil)))) pa_nil)))))))))
theorem ok_law_read {P : Program} {w : World} {K : PySem.W.Frag} {mg : Str → Option Value} {base : Heap} {a : Ad} (T : Tx P w K mg base a)  {f : Addr} {fd : FuncData} (F : FunD K "_law_read" "_law_read" (defArgs s_law_read) (defBody s_law_read) (defScope s_law_read) [] [] f fd) : FnOk P w K mg base (L2.CX P w) 1 f fd ["_law_line"] (sp_law_read P w K a) :=
  F.ok sc_law_read len_law_read fun cdv A outer s H vs Q E hr h => ⟨_, der_law_read T  hr, pure_law_read vs H Q E h⟩
theorem sc_law_spoilt : FnScope ["_law_row", "_law_text", "_law_way", "_law_at", "_law_signs", "_law_sign", "_law_rows", "_law_k", "_law_words", "_law_j", "_law_odd"] ["_law_row", "_law_text"] (defScope s_law_spoilt) := ⟨rfl, rfl, rfl, by decide +kernel, rfl, by decide +kernel, by decide +kernel⟩
theorem der_law_spoilt {P : Program} {w : World} {K : PySem.W.Frag} {mg : Str → Option Value} {base : Heap} {a : Ad} (T : Tx P w K mg base a) (G_law_taken : Gf P w K mg base 1 "_law_taken" ["_law_row", "_law_many"] (sp_law_taken P w K a))
    {f : Addr} {cdv : Value} {A : Around} {outer : List Env} {s : Shared} {H : Hp} {E : XK} (hr : Room 1 (A.deeper (envOfC "_law_spoilt" (defScope s_law_spoilt) s.heap.objs.size f cdv))) :
    PSs (cxOf (L2.CX P w) P w K mg base ["_law_row", "_law_text", "_law_way", "_law_at", "_law_signs", "_law_sign", "_law_rows", "_law_k", "_law_words", "_law_j", "_law_odd"] "_law_spoilt" (defScope s_law_spoilt) f cdv A outer s H E) (defBody s_law_spoilt) (t_law_spoilt P w K a E) := by
  have nd := sc_law_spoilt.nd
  have tk : Takes (cxOf (L2.CX P w) P w K mg base ["_law_row", "_law_text", "_law_way", "_law_at", "_law_signs", "_law_sign", "_law_rows", "_law_k", "_law_words", "_law_j", "_law_odd"] "_law_spoilt" (defScope s_law_spoilt) f cdv A outer s H E) (fun cls d _ H => E cls d H) := takes_of rfl rfl rfl rfl
  have px : Passes (L2.CX P w) (cxOf (L2.CX P w) P w K mg base ["_law_row", "_law_text", "_law_way", "_law_at", "_law_signs", "_law_sign", "_law_rows", "_law_k", "_law_words", "_law_j", "_law_odd"] "_law_spoilt" (defScope s_law_spoilt) f cdv A outer s H E) E := px_of tk fun _ _ _ _ z => z
  have po : PassesOwn (model P w) (A.deeper (envOfC "_law_spoilt" (defScope s_law_spoilt) s.heap.objs.size f cdv)) (envOfC "_law_spoilt" (defScope s_law_spoilt) s.heap.objs.size f cdv) (cxOf (L2.CX P w) P w K mg base ["_law_row", "_law_text", "_law_way", "_law_at", "_law_signs", "_law_sign", "_law_rows", "_law_k", "_law_words", "_law_j", "_law_odd"] "_law_spoilt" (defScope s_law_spoilt) f cdv A outer s H E).xe := passes_of (X := cxOf (L2.CX P w) P w K mg base ["_law_row", "_law_text", "_law_way", "_law_at", "_law_signs", "_law_sign", "_law_rows", "_law_k", "_law_words", "_law_j", "_law_odd"] "_law_spoilt" (defScope s_law_spoilt) f cdv A outer s H E) rfl
  have hu := hu_of hr
  have hu64 := hr.units
  have hu65 := hu65 hr
  exact (pss_cons (ps_set (i := 2) nd rfl (by first | exact Or.inl rfl | exact Or.inr rfl) (pe_gf G_law_taken (hr.mono (by decide)) px (pa_cons (pv 0) (pa_cons pe_int pa_nil)))) (pss_cons (ps_set (i := 3) nd rfl (by first | exact Or.inl rfl | exact Or.inr rfl) (pe_gf G_law_taken (hr.mono (by decide)) px (pa_cons (pv 0) (pa_cons (pe_op op_addU (pe_callB call_lenU (by rfl) T.nb.len (by decide +kernel) (pa_cons (pv 1) pa_nil)) pe_int) pa_nil)))) (pss_cons (ps_set (i := 4) nd rfl (by first | exact Or.inl rfl | exact Or.inr rfl) pe_str) (pss_cons (ps_set (i := 5) nd rfl (by first | exact Or.inl rfl | exact Or.inr rfl) (pe_ix (ix_u hu) (pv 4) (pe_gf G_law_taken (hr.mono (by decide)) px (pa_cons (pv 0) (pa_cons (pe_ix (ix_u hu) (pe_lst (pa_cons pe_int (pa_cons (pe_callB call_lenU (by rfl) T.nb.len (by decide +kernel) (pa_cons (pv 4) pa_nil)) pa_nil))) (pe_gf G_law_taken (hr.mono (by decide)) px (pa_cons (pv 0) (pa_cons pe_int pa_nil))) (fun _ _ => rfl)) pa_nil))) (fun _ _ => rfl))) (pss_cons (ps_if (pt_cmpR op_lt (pv 2) pe_int (nomark _)) (pss_one (ps_ret (pe_op op_addU (pe_op op_addU (pe_slice sl_u (pv 1) po_none (po_some (pv 3))) (pe_ix (ix_u hu) (pe_lst (pa_cons (pv 5) (pa_cons pe_str (pa_cons (pv 5) pa_nil)))) (pv 2) (fun _ _ => rfl))) (pe_slice sl_u (pv 1) (po_some (pe_op op_addU (pv 3) (pe_callTy call_intU (by rfl) T.nb.int (by decide +kernel) (pa_cons (pe_cmpR op_gt (pv 2) pe_int (nomark _)) pa_nil)))) po_none)))) pss_nil) (pss_cons (ps_set (i := 6) nd rfl (by first | exact Or.inl rfl | exact Or.inr rfl) (pe_split1 (pv 1) pe_str)) (pss_cons (ps_set (i := 7) nd rfl (by first | exact Or.inl rfl | exact Or.inr rfl) (pe_ix (ix_u hu) (pe_lst (pa_cons (pe_gf G_law_taken (hr.mono (by decide)) px (pa_cons (pv 0) (pa_cons (pe_callB call_lenU (by rfl) T.nb.len (by decide +kernel) (pa_cons (pv 6) pa_nil)) pa_nil))) (pa_cons (pe_op op_sub (pe_callB call_lenU (by rfl) T.nb.len (by decide +kernel) (pa_cons (pv 6) pa_nil)) pe_int) pa_nil))) (pe_op op_fdiv (pe_gf G_law_taken (hr.mono (by decide)) px (pa_cons (pv 0) (pa_cons pe_int pa_nil))) pe_int) (fun _ _ => rfl))) (pss_cons (ps_if (pt_cmpR op_lt (pv 2) pe_int (nomark _)) (pss_one (ps_ret (pe_join1 pe_str (pe_ix (ix_u hu) (pe_lst (pa_cons (pe_op op_addU (pe_slice sl_u (pv 6) po_none (po_some (pv 7))) (pe_slice sl_u (pv 6) (po_some (pe_op op_addU (pv 7) pe_int)) po_none)) (pa_cons (pe_op op_addU (pe_slice sl_u (pv 6) po_none (po_some (pe_op op_addU (pv 7) pe_int))) (pe_slice sl_u (pv 6) (po_some (pv 7)) po_none)) (pa_cons (pe_op op_addU (pe_slice sl_u (pv 6) (po_some (pv 7)) po_none) (pe_slice sl_u (pv 6) po_none (po_some (pv 7)))) pa_nil)))) (pe_op op_sub (pv 2) pe_int) (fun _ _ => rfl))))) pss_nil) (pss_cons (ps_set (i := 8) nd rfl (by first | exact Or.inl rfl | exact Or.inr rfl) (pe_split1 (pe_ix (ix_u hu) (pv 6) (pv 7) (fun _ _ => rfl)) pe_str)) (pss_cons (ps_set (i := 9) nd rfl (by first | exact Or.inl rfl | exact Or.inr rfl) (pe_gf G_law_taken (hr.mono (by decide)) px (pa_cons (pv 0) (pa_cons (pe_callB call_lenU (by rfl) T.nb.len (by decide +kernel) (pa_cons (pv 8) pa_nil)) pa_nil)))) (pss_cons (ps_set (i := 10) nd rfl (by first | exact Or.inl rfl | exact Or.inr rfl) (pe_lst (pa_cons pe_str (pa_cons pe_str (pa_cons pe_str (pa_cons pe_str (pa_cons pe_str (pa_cons pe_str (pa_cons pe_str (pa_cons pe_str (pa_cons pe_str (pa_cons pe_str pa_nil)))))))))))) (pss_cons (ps_set (i := 8) nd rfl (by first | exact Or.inl rfl | exact Or.inr rfl) (pe_op op_addU (pe_op op_addU (pe_slice sl_u (pv 8) po_none (po_some (pv 9))) (pe_ix (ix_u hu) (pe_lst (pa_cons (pe_lst pa_nil) (pa_cons (pe_op op_mulU (pe_lst (pa_cons (pe_ix (ix_u hu) (pv 8) (pv 9) (fun _ _ => rfl)) pa_nil)) pe_int) (pa_cons (pe_lst (pa_cons (pe_ix (ix_u hu) (pv 10) (pe_gf G_law_taken (hr.mono (by decide)) px (pa_cons (pv 0) (pa_cons pe_int pa_nil))) (fun _ _ => rfl)) pa_nil)) pa_nil)))) (pe_op op_sub (pv 2) pe_int) (fun _ _ => rfl))) (pe_slice sl_u (pv 8) (po_some (pe_op op_addU (pv 9) pe_int)) po_none))) (pss_one (ps_ret (pe_join1 pe_str (pe_op op_addU (pe_op op_addU (pe_slice sl_u (pv 6) po_none (po_some (pv 7))) (pe_lst (pa_cons (pe_join1 pe_str (pv 8)) pa_nil))) (pe_slice sl_u (pv 6) (po_some (pe_op op_addU (pv 7) pe_int)) po_none)))))))))))))))))
theorem ok_law_spoilt {P : Program} {w : World} {K : PySem.W.Frag} {mg : Str → Option Value} {base : Heap} {a : Ad} (T : Tx P w K mg base a) (G_law_taken : Gf P w K mg base 1 "_law_taken" ["_law_row", "_law_many"] (sp_law_taken P w K a)) {f : Addr} {fd : FuncData} (F : FunD K "_law_spoilt" "_law_spoilt" (defArgs s_law_spoilt) (defBody s_law_spoilt) (defScope s_law_spoilt) [] [] f fd) : FnOk P w K mg base (L2.CX P w) 2 f fd ["_law_row", "_law_text"] (sp_law_spoilt P w K a) :=
  F.ok sc_law_spoilt len_law_spoilt fun cdv A outer s H vs Q E hr h => ⟨_, der_law_spoilt T G_law_taken hr, pure_law_spoilt vs H Q E h⟩
theorem sc_law : FnScope ["_law_script", "_law_row", "_law_some", "_law_turn", "_law_choice", "_law_steps", "_law_text", "_law_change", "_law_rows", "_law_found", "_law_bad", "_law_one", "_law_k", "_law_step_here", "_law_line", "_law_part"] ["_law_script"] (defScope s_law) := ⟨rfl, rfl, rfl, by decide +kernel, rfl, by decide +kernel, by decide +kernel⟩
theorem der_law {P : Program} {w : World} {K : PySem.W.Frag} {mg : Str → Option Value} {base : Heap} {a : Ad} (T : Tx P w K mg base a) (W_law_word : Wf P w K mg base a "e") (G_law_alike : Gf P w K mg base 17 "_law_alike" ["_law_found", "_law_due"] (sp_law_alike P w K a)) (G_law_made : Gf P w K mg base 2 "_law_made" ["_law_shape", "_law_rows"] (sp_law_made P w K a)) (G_law_read : Gf P w K mg base 1 "_law_read" ["_law_line"] (sp_law_read P w K a)) (G_law_spoilt : Gf P w K mg base 2 "_law_spoilt" ["_law_row", "_law_text"] (sp_law_spoilt P w K a)) (G_law_step : Gf P w K mg base 3 "_law_step" ["_law_row", "_law_m", "_law_stops"] (sp_law_step P w K a)) (G_law_taken : Gf P w K mg base 1 "_law_taken" ["_law_row", "_law_many"] (sp_law_taken P w K a)) (G_read : Gf P w K mg base 4 "read" ["text"] (sp_read P w K a))
    {f : Addr} {cdv : Value} {A : Around} {outer : List Env} {s : Shared} {H : Hp} {E : XK} (hr : Room 17 (A.deeper (envOfC "law" (defScope s_law) s.heap.objs.size f cdv))) (LB : LamB base mg a cdv ((envOfC "law" (defScope s_law) s.heap.objs.size f cdv).qual ++ "<lambda>")) :
    PSs (cxOf (L2.CX P w) P w K mg base ["_law_script", "_law_row", "_law_some", "_law_turn", "_law_choice", "_law_steps", "_law_text", "_law_change", "_law_rows", "_law_found", "_law_bad", "_law_one", "_law_k", "_law_step_here", "_law_line", "_law_part"] "law" (defScope s_law) f cdv A outer s H E) (defBody s_law) (t_law P w K a E) := by
  have nd := sc_law.nd
  have tk : Takes (cxOf (L2.CX P w) P w K mg base ["_law_script", "_law_row", "_law_some", "_law_turn", "_law_choice", "_law_steps", "_law_text", "_law_change", "_law_rows", "_law_found", "_law_bad", "_law_one", "_law_k", "_law_step_here", "_law_line", "_law_part"] "law" (defScope s_law) f cdv A outer s H E) (fun cls d _ H => E cls d H) := takes_of rfl rfl rfl rfl
  have px : Passes (L2.CX P w) (cxOf (L2.CX P w) P w K mg base ["_law_script", "_law_row", "_law_some", "_law_turn", "_law_choice", "_law_steps", "_law_text", "_law_change", "_law_rows", "_law_found", "_law_bad", "_law_one", "_law_k", "_law_step_here", "_law_line", "_law_part"] "law" (defScope s_law) f cdv A outer s H E) E := px_of tk fun _ _ _ _ z => z
  have po : PassesOwn (model P w) (A.deeper (envOfC "law" (defScope s_law) s.heap.objs.size f cdv)) (envOfC "law" (defScope s_law) s.heap.objs.size f cdv) (cxOf (L2.CX P w) P w K mg base ["_law_script", "_law_row", "_law_some", "_law_turn", "_law_choice", "_law_steps", "_law_text", "_law_change", "_law_rows", "_law_found", "_law_bad", "_law_one", "_law_k", "_law_step_here", "_law_line", "_law_part"] "law" (defScope s_law) f cdv A outer s H E).xe := passes_of (X := cxOf (L2.CX P w) P w K mg base ["_law_script", "_law_row", "_law_some", "_law_turn", "_law_choice", "_law_steps", "_law_text", "_law_change", "_law_rows", "_law_found", "_law_bad", "_law_one", "_law_k", "_law_step_here", "_law_line", "_law_part"] "law" (defScope s_law) f cdv A outer s H E) rfl
  have hu := hu_of hr
  have hu64 := hr.units
  have hu65 := hu65 hr
  exact (pss_cons (ps_set (i := 1) nd rfl (by first | exact Or.inl rfl | exact Or.inr rfl) (pe_lst (pa_cons (pv 0) (pa_cons pe_int (pa_cons pe_int (pa_cons pe_int pa_nil)))))) (pss_cons (ps_set (i := 2) nd rfl (by first | exact Or.inl rfl | exact Or.inr rfl) (pe_lst (pa_cons pe_str (pa_cons pe_str (pa_cons pe_str (pa_cons pe_str (pa_cons pe_str (pa_cons pe_str (pa_cons pe_str (pa_cons pe_str (pa_cons pe_str (pa_cons pe_str (pa_cons pe_str (pa_cons pe_str pa_nil)))))))))))))) (pss_cons (ps_set (i := 2) nd rfl (by first | exact Or.inl rfl | exact Or.inr rfl) (pe_op op_addU (pv 2) (pe_lst (pa_cons pe_str (pa_cons pe_str (pa_cons pe_str (pa_cons pe_str (pa_cons pe_str (pa_cons pe_str (pa_cons pe_str pa_nil)))))))))) (pss_cons (ps_set (i := 2) nd rfl (by first | exact Or.inl rfl | exact Or.inr rfl) (pe_op op_addU (pv 2) (pe_lst (pa_cons pe_str (pa_cons pe_str pa_nil))))) (pss_cons (ps_set (i := 2) nd rfl (by first | exact Or.inl rfl | exact Or.inr rfl) (pe_op op_addU (pv 2) (pe_lst (pa_cons (pe_join1 pe_str (pe_op op_mulU (pe_lst (pa_cons pe_str pa_nil)) pe_int)) (pa_cons (pe_join1 pe_str (pe_op op_mulU (pe_lst (pa_cons pe_str pa_nil)) pe_int)) (pa_cons (pe_join1 pe_str (pe_op op_addU (pe_op op_mulU (pe_lst (pa_cons pe_str pa_nil)) pe_int) (pe_lst (pa_cons pe_str pa_nil)))) pa_nil)))))) (pss_cons (ps_for po rfl (pi_range1 (by rfl) T.nb.range (pa_cons pe_int pa_nil)) (pg_name (i := 3) nd rfl (by first | exact Or.inl rfl | exact Or.inr rfl)) (pss_cons (ps_set (i := 4) nd rfl (by first | exact Or.inl rfl | exact Or.inr rfl) (pe_gf G_law_taken (hr.mono (by decide)) px (pa_cons (pv 1) (pa_cons (pe_callB call_lenU (by rfl) T.nb.len (by decide +kernel) (pa_cons (pv 2) pa_nil)) pa_nil)))) (pss_cons (ps_setLc (i := 5) (own := [("_law_k", 12)]) rfl nd rfl rfl (sw_true rfl rfl rfl (by decide +kernel)) (pi_range1 (by rfl) T.nb.range (pa_cons (pe_gf G_law_taken (hr.mono (by decide)) px (pa_cons (pv 1) (pa_cons pe_int pa_nil))) pa_nil)) (by first | exact blkOk_by (by decide +kernel) | exact blkOk_by (by rfl)) (fun _ _ _ _ _ => (pg_name (i := 12) nd rfl (by first | exact Or.inl rfl | exact Or.inr rfl))) (fun _ _ _ _ _ => pts_nil) (fun _ _ _ _ _ => (pe_gf G_law_step (hr.mono (by decide)) passL (pa_cons (pv 1) (pa_cons (pe_gf G_law_made (hr.mono (by decide)) passL (pa_cons (pe_tupB (pa_cons pe_int (pa_cons pe_int (pa_cons pe_int pa_nil)))) (pa_cons (pe_lst pa_nil) pa_nil))) (pa_cons pe_bl pa_nil)))))) (pss_cons (ps_set (i := 6) nd rfl (by first | exact Or.inl rfl | exact Or.inr rfl) (pe_join1 pe_str (pe_lc (own := [("_law_step_here", 13)]) rfl nd (pi_seqU (pv 5)) (by first | exact blkOk_by (by decide +kernel) | exact blkOk_by (by rfl)) (fun _ _ _ _ _ => (pg_name (i := 13) nd rfl (by first | exact Or.inl rfl | exact Or.inr rfl))) (fun _ _ _ _ _ => pts_nil) (fun _ _ _ _ _ => (pe_join1 pe_str (pe_lc (own := [("_law_part", 15)]) rfl nd (pi_seqU (pv 13)) (by first | exact blkOk_by (by decide +kernel) | exact blkOk_by (by rfl)) (fun _ _ _ _ _ => (pg_name (i := 15) nd rfl (by first | exact Or.inl rfl | exact Or.inr rfl))) (fun _ _ _ _ _ => pts_nil) (fun _ _ _ _ _ => (pe_callTy call_strU (by rfl) T.nb.str (by decide +kernel) (pa_cons (pv 15) pa_nil))))))))) (pss_cons (ps_for po rfl (pi_range1 (by rfl) T.nb.range (pa_cons (pe_gf G_law_taken (hr.mono (by decide)) px (pa_cons (pv 1) (pa_cons pe_int pa_nil))) pa_nil)) (pg_name (i := 7) nd rfl (by first | exact Or.inl rfl | exact Or.inr rfl)) (pss_one (ps_set (i := 6) nd rfl (by first | exact Or.inl rfl | exact Or.inr rfl) (pe_gf G_law_spoilt (hr.mono (by decide)) px (pa_cons (pv 1) (pa_cons (pv 6) pa_nil)))))) (pss_one (ps_for po rfl (pi_seqU (pe_lst (pa_cons (pv 6) (pa_cons (pe_ix (ix_u hu) (pv 2) (pv 4) (fun _ _ => rfl)) pa_nil)))) (pg_name (i := 11) nd rfl (by first | exact Or.inl rfl | exact Or.inr rfl)) (pss_cons (ps_set (i := 8) nd rfl (by first | exact Or.inl rfl | exact Or.inr rfl) (pe_ifExp (pt_cmpR (op_neD hu64) (pv 11) pe_str (nomark _)) (pe_split1 (pv 11) pe_str) (pe_lst pa_nil))) (pss_cons (ps_set (i := 9) nd rfl (by first | exact Or.inl rfl | exact Or.inr rfl) (pe_lc (own := [("_law_line", 14)]) rfl nd (pi_seqU (pv 8)) (by first | exact blkOk_by (by decide +kernel) | exact blkOk_by (by rfl)) (fun _ _ _ _ _ => (pg_name (i := 14) nd rfl (by first | exact Or.inl rfl | exact Or.inr rfl))) (fun _ _ _ _ _ => pts_nil) (fun _ _ _ _ _ => (pe_gf G_law_read (hr.mono (by decide)) passL (pa_cons (pv 14) pa_nil))))) (pss_cons (ps_setLc (i := 10) (own := [("_law_k", 12)]) rfl nd rfl rfl (sw_true rfl rfl rfl (by decide +kernel)) (pi_range1 (by rfl) T.nb.range (pa_cons (pe_callB call_lenU (by rfl) T.nb.len (by decide +kernel) (pa_cons (pv 9) pa_nil)) pa_nil)) (by first | exact blkOk_by (by decide +kernel) | exact blkOk_by (by rfl)) (fun _ _ _ _ _ => (pg_name (i := 12) nd rfl (by first | exact Or.inl rfl | exact Or.inr rfl))) (fun _ _ _ _ _ => (pts_one (PW.pt (pw_or (pt_cmpR op_isN (pe_ix (ix_u hu) (pv 9) (pv 12) (fun _ _ => rfl)) pe_non (nomark _)) (pw_or1 (pt_cmpR op_gt (pv 12) pe_int (nomark _))))))) (fun _ _ _ _ _ => (pv 12))) (pss_one (ps_if (pt_cmpR (op_neD hu64) (pv 10) (pe_lst pa_nil) (nomark _)) (pss_one (ps_if (pt_cmpR (op_neD hu64) (pe_word (k := 4) W_law_word LB (hr.mono (by decide)) (lamS_by (by decide +kernel)) rfl (fun _ _ _ _ _ => rfl) (fun A outer s H E f c hr => by
    have hu := hu_of hr
    have hu64 := hr.units
    have hu65 := SR.hu65 hr
    exact (pe_gf G_read (hr.mono (by decide)) (px_of (E := E) (takes_of rfl rfl rfl rfl) fun _ _ _ _ z => z) (pa_cons (pv 11) pa_nil)))) (pe_tupB (pa_cons pe_str (pa_cons (pe_ix (ix_u hu) (pv 10) pe_int (fun _ _ => rfl)) pa_nil))) (nomark _)) (pss_one (ps_ret pe_bl)) pss_nil)) (pss_one (ps_if (pt_not (pt_val (pe_gf G_law_alike (hr.mono (by decide)) px (pa_cons (pe_gf G_read (hr.mono (by decide)) px (pa_cons (pv 11) pa_nil)) (pa_cons (pv 9) pa_nil))))) (pss_one (ps_ret pe_bl)) pss_nil)))))))))))))) (pss_one (ps_ret pe_bl))))))))
theorem ok_law {P : Program} {w : World} {K : PySem.W.Frag} {mg : Str → Option Value} {base : Heap} {a : Ad} (T : Tx P w K mg base a) (W_law_word : Wf P w K mg base a "e") (G_law_alike : Gf P w K mg base 17 "_law_alike" ["_law_found", "_law_due"] (sp_law_alike P w K a)) (G_law_made : Gf P w K mg base 2 "_law_made" ["_law_shape", "_law_rows"] (sp_law_made P w K a)) (G_law_read : Gf P w K mg base 1 "_law_read" ["_law_line"] (sp_law_read P w K a)) (G_law_spoilt : Gf P w K mg base 2 "_law_spoilt" ["_law_row", "_law_text"] (sp_law_spoilt P w K a)) (G_law_step : Gf P w K mg base 3 "_law_step" ["_law_row", "_law_m", "_law_stops"] (sp_law_step P w K a)) (G_law_taken : Gf P w K mg base 1 "_law_taken" ["_law_row", "_law_many"] (sp_law_taken P w K a)) (G_read : Gf P w K mg base 4 "read" ["text"] (sp_read P w K a)) {f : Addr} {fd : FuncData} (F : FunD K "law" "law" (defArgs s_law) (defBody s_law) (defScope s_law) [] [] f fd) (hB : ∀ cdv, fd.code = cdv → LamB base mg a cdv (("law" : Str) ++ ".<locals>." ++ "<lambda>")) : FnOk P w K mg base (L2.CX P w) 18 f fd ["_law_script"] (spLawT K a.T) :=
  funD_okC F sc_law (fun vs H Q E h => by
    repeat first | (obtain ⟨rfl, _⟩ := h; rfl) | obtain ⟨_, h⟩ := h) fun cdv A outer s H vs Q E hc hr h => ⟨_, der_law T W_law_word G_law_alike G_law_made G_law_read G_law_spoilt G_law_step G_law_taken G_read hr (hB cdv hc), pure_law vs H Q E h⟩
theorem sc_law_word : FnScope (nWord "e") ["_law_work"] (defScope s_law_word) := ⟨rfl, rfl, rfl, by decide +kernel, rfl, by decide +kernel, by decide +kernel⟩
theorem ok_word {P : Program} {w : World} {K : PySem.W.Frag} {mg : Str → Option Value} {base : Heap} {a : Ad} (T : Tx P w K mg base a) (W : WordOk K a) {g : Addr} {fd : FuncData} (hg : mg "_law_word" = some (.ref g)) (hb : Binds K fd ["_law_work"] []) (F : FunD K "_law_word" "_law_word" (defArgs s_law_word) (defBody s_law_word) (defScope s_law_word) [] [] g fd) : Wf P w K mg base a "e" := by
  refine ⟨g, fd, _, _, _, hg, F, hb, sc_law_word, .inl rfl, fun N q sc f cdv A outer s H E cdg hr => ?_⟩
  refine word_gives (en := "e") (X := cxOf (L2.CX P w) P w K mg base N q sc f cdv A outer s H E) (sg := defScope s_law_word) W sc_law_word rfl rfl T.g_SpillError fun s2 H2 b oe cls dd pn hz hf => ?_
  have hr2 := hr.deeper (envOfC "_law_word" (defScope s_law_word) s2.heap.objs.size g cdg)
  have nd := sc_law_word.nd
  have hu := hu_of hr2
  have hu64 := hr2.units
  have hu65 := SR.hu65 hr2
  exact (pss_cons (ps_set (i := 2) nd rfl (by first | exact Or.inl rfl | exact Or.inr rfl) (pe_lst (pa_cons (pe_callB (call_isO hz hf) (by rfl) T.nb.isinstance (by decide +kernel) (pa_cons (pv 1) (pa_cons (pe_gref T.g_BadRows) pa_nil))) (pa_cons (pe_callB (call_isO hz hf) (by rfl) T.nb.isinstance (by decide +kernel) (pa_cons (pv 1) (pa_cons (pe_gref T.g_BadDeeds) pa_nil))) (pa_cons (pe_callB (call_isO hz hf) (by rfl) T.nb.isinstance (by decide +kernel) (pa_cons (pv 1) (pa_cons (pe_gref T.g_BadStep) pa_nil))) (pa_cons (pe_callB (call_isO hz hf) (by rfl) T.nb.isinstance (by decide +kernel) (pa_cons (pv 1) (pa_cons (pe_gref T.g_BadText) pa_nil))) pa_nil)))))) (pss_cons (ps_set (i := 2) nd rfl (by first | exact Or.inl rfl | exact Or.inr rfl) (pe_op op_addU (pv 2) (pe_lst (pa_cons (pe_callB (call_isO hz hf) (by rfl) T.nb.isinstance (by decide +kernel) (pa_cons (pv 1) (pa_cons (pe_gref T.g_BadPicture) pa_nil))) (pa_cons (pe_callB (call_isO hz hf) (by rfl) T.nb.isinstance (by decide +kernel) (pa_cons (pv 1) (pa_cons (pe_gref T.g_BadFile) pa_nil))) (pa_cons (pe_callB (call_isO hz hf) (by rfl) T.nb.isinstance (by decide +kernel) (pa_cons (pv 1) (pa_cons (pe_gref T.g_BadKey) pa_nil))) pa_nil)))))) (pss_cons (ps_set (i := 2) nd rfl (by first | exact Or.inl rfl | exact Or.inr rfl) (pe_op op_addU (pv 2) (pe_lst (pa_cons (pe_callB (call_isO hz hf) (by rfl) T.nb.isinstance (by decide +kernel) (pa_cons (pv 1) (pa_cons (pe_gref T.g_BadWorth) pa_nil))) (pa_cons (pe_callB (call_isO hz hf) (by rfl) T.nb.isinstance (by decide +kernel) (pa_cons (pv 1) (pa_cons (pe_gref T.g_NoRow) pa_nil))) (pa_cons (pe_callB (call_isO hz hf) (by rfl) T.nb.isinstance (by decide +kernel) (pa_cons (pv 1) (pa_cons (pe_gref T.g_Full) pa_nil))) (pa_cons (pe_callB (call_isO hz hf) (by rfl) T.nb.isinstance (by decide +kernel) (pa_cons (pv 1) (pa_cons (pe_gref T.g_NoMark) pa_nil))) pa_nil))))))) (pss_cons (ps_set (i := 2) nd rfl (by first | exact Or.inl rfl | exact Or.inr rfl) (pe_op op_addU (pv 2) (pe_lst (pa_cons (pe_callB (call_isO hz hf) (by rfl) T.nb.isinstance (by decide +kernel) (pa_cons (pv 1) (pa_cons (pe_gref T.g_Stopped) pa_nil))) (pa_cons (pe_callB (call_isO hz hf) (by rfl) T.nb.isinstance (by decide +kernel) (pa_cons (pv 1) (pa_cons (pe_gref T.g_BadCount) pa_nil))) pa_nil))))) (pss_cons (ps_if (PW.pt (pw_or (pt_cmpR (op_neD hu64) (pe_bm PySem.F.plainAttrs_list PySem.F.slot_list_count PySem.F.type_list_count (mt_countD hu65) (pv 2) (pa_cons pe_bl pa_nil)) pe_int (nomark _)) (pw_or1 (pt_not (pt_val (pe_callB (call_isO hz hf) (by rfl) T.nb.isinstance (by decide +kernel) (pa_cons (pv 1) (pa_cons (pe_bltn (v := .ty "ValueError") (by rfl) T.nb.ValueError (by decide +kernel) rfl) pa_nil)))))))) (pss_one (ps_ret pe_str)) pss_nil) (pss_cons (ps_set (i := 3) nd rfl (by first | exact Or.inl rfl | exact Or.inr rfl) (pe_lst (pa_cons pe_str (pa_cons pe_str (pa_cons pe_str (pa_cons pe_str (pa_cons pe_str (pa_cons pe_str (pa_cons pe_str (pa_cons pe_str (pa_cons pe_str (pa_cons pe_str (pa_cons pe_str (pa_cons pe_str pa_nil)))))))))))))) (pss_cons (ps_set (i := 4) nd rfl (by first | exact Or.inl rfl | exact Or.inr rfl) (pe_ix (ix_u hu) (pe_op op_addU (pv 3) (pe_lst (pa_cons pe_str pa_nil))) (pe_bm PySem.F.plainAttrs_list PySem.F.slot_list_index PySem.F.type_list_index (mt_indexD hu65) (pv 2) (pa_cons pe_bl pa_nil)) (fun _ _ => rfl))) (pss_cons (ps_if (pt_cmpR (op_inU hu65) (pv 4) (pe_tupB (pa_cons pe_str (pa_cons pe_str (pa_cons pe_str pa_nil)))) (by rfl)) (pss_one (ps_ret (pe_tupB (pa_cons (pv 4) (pa_cons (pe_xo hz hf (pv 1)) pa_nil))))) pss_nil) (pss_one (ps_ret (pe_ifExp (pt_cmpR (op_eqD hu64) (pv 4) pe_str (nomark _)) (pe_tupB (pa_cons (pv 4) (pa_cons (pe_xo hz hf (pv 1)) pa_nil))) (pe_ifExp (pt_cmpR (op_eqD hu64) (pv 4) pe_str (nomark _)) (pe_tupB (pa_cons (pv 4) (pa_cons (pe_xo hz hf (pv 1)) pa_nil))) (pv 4)))))))))))))
end Sp
namespace Sp
open PySem PySem.Spec PyProof.Rows L2 SM SR SD SE LamX
theorem facts {P : Program} {w : World} {K : PySem.W.Frag} {h : Heap} {mg : Str → Option Value} {f : Addr} (X : K.In h) (G : h.Ns mainGlobals mg) (hfa : mg ("law" : Str) = some (.ref f)) (cT : He.SaysT fa fn tabsL w K) (ce : ex K = true) :
    ∃ fd : FuncData, (∀ (s : Shared) (v : Value), BindsTo s fd ⟨[v], []⟩ [("_law_script", v)]) ∧ ∀ base : Heap, K.In base → base.Ns mainGlobals mg → (∀ z ∈ tfs, TabB base mg (He.cT K z.1).1 (He.cT K z.1).2) → FnOk P w K mg base (L2.CX P w) 18 f fd ["_law_script"] (spLawT K (adOf K).T) := by
  have c : He.SaysD fa fn K := cT.d
  obtain ⟨fd, F⟩ := c.def_ 13 (d := d_law) rfl
  have e := hfa.symm.trans (He.glo_ok X G (c.fact 34 (f := .glo "law") rfl))
  cases e
  have b := FunD.bindsA (ps := ["_law_script"]) F fun _ _ _ _ _ _ us hl => match us, hl with | [_], _ => rfl
  refine ⟨fd, fun s v => b s [v] rfl, fun base _ _ TB => ?_⟩
  obtain ⟨ex_SpillError, ce⟩ := He.ba ce
  obtain ⟨ex_BadText, ce⟩ := He.ba ce
  obtain ⟨ex_word, ce⟩ := He.ba ce
  have ex_sizesP := ce
  have xs : Xs K mg "SpillError" (He.ga K "SpillError") := xsB_ok (He.glo_ok X G (c.fact 15 rfl)) ex_SpillError
  obtain ⟨fd_BadText___init, F_BadText___init⟩ := c.def_ 0 (d := d_BadText___init) rfl
  have xf_BadText : Xf P w K mg base 1 "BadText" (He.ga K "BadText") "row" := xfB_ok (p := "row") (He.glo_ok X G (c.fact 7 rfl)) ex_BadText (F_BadText___init.bindsN fun _ _ _ _ _ _ us hl => match us, hl with | [_, _], _ => rfl) (ok_BadText___init xs F_BadText___init)
  have nb : Nb mg := ⟨He.free_ok X G (c.fact 17 rfl), He.free_ok X G (c.fact 18 rfl), He.free_ok X G (c.fact 19 rfl), He.free_ok X G (c.fact 20 rfl), He.free_ok X G (c.fact 21 rfl), He.free_ok X G (c.fact 22 rfl), He.free_ok X G (c.fact 23 rfl), He.free_ok X G (c.fact 24 rfl), He.free_ok X G (c.fact 25 rfl), He.free_ok X G (c.fact 26 rfl), He.free_ok X G (c.fact 27 rfl), He.free_ok X G (c.fact 28 rfl), He.free_ok X G (c.fact 29 rfl), He.free_ok X G (c.fact 30 rfl), He.free_ok X G (c.fact 31 rfl), He.free_ok X G (c.fact 32 rfl), He.free_ok X G (c.fact 33 rfl)⟩
  have T : Tx P w K mg base (adOf K) := ⟨nb, dct_ok (tab_eq cT 0) ex_sizesP, He.glo_ok X G (c.fact 0 rfl), He.glo_ok X G (c.fact 1 rfl), He.glo_ok X G (c.fact 2 rfl), He.glo_ok X G (c.fact 3 rfl), He.glo_ok X G (c.fact 4 rfl), He.glo_ok X G (c.fact 5 rfl), He.glo_ok X G (c.fact 6 rfl), He.glo_ok X G (c.fact 7 rfl), He.glo_ok X G (c.fact 8 rfl), He.str_ok X G (c.fact 9 rfl), He.glo_ok X G (c.fact 10 rfl), He.int_ok X G (c.fact 11 rfl), He.glo_ok X G (c.fact 12 rfl), He.glo_ok X G (c.fact 13 rfl), He.glo_ok X G (c.fact 14 rfl), He.glo_ok X G (c.fact 15 rfl), He.glo_ok X G (c.fact 16 rfl), xf_BadText⟩
  obtain ⟨fd_law_word, F_law_word⟩ := c.def_ 14 (d := d_law_word) rfl
  have W_law_word : Wf P w K mg base (adOf K) "e" := ok_word T (wordB_ok ex_word) (He.glo_ok X G (c.fact 47 rfl)) (F_law_word.bindsN fun _ _ _ _ _ _ us hl => match us, hl with | [_], _ => rfl) F_law_word
  obtain ⟨fd_law_taken, F_law_taken⟩ := c.def_ 3 (d := d_law_taken) rfl
  have G_law_taken : Gf P w K mg base 1 "_law_taken" ["_law_row", "_law_many"] (sp_law_taken P w K (adOf K)) := ⟨_, _, He.glo_ok X G (c.fact 35 rfl), F_law_taken.kp, (F_law_taken.bindsN fun _ _ _ _ _ _ us hl => match us, hl with | [_, _], _ => rfl), ok_law_taken T  F_law_taken⟩
  obtain ⟨fd_law_laid, F_law_laid⟩ := c.def_ 6 (d := d_law_laid) rfl
  have G_law_laid : Gf P w K mg base 1 "_law_laid" ["_law_rows", "_law_fill"] (sp_law_laid P w K (adOf K)) := ⟨_, _, He.glo_ok X G (c.fact 36 rfl), F_law_laid.kp, (F_law_laid.bindsN fun _ _ _ _ _ _ us hl => match us, hl with | [_, _], _ => rfl), ok_law_laid T  F_law_laid⟩
  obtain ⟨fd_law_chain, F_law_chain⟩ := c.def_ 8 (d := d_law_chain) rfl
  have G_law_chain : Gf P w K mg base 1 "_law_chain" ["_law_m", "_law_page"] (sp_law_chain P w K (adOf K)) := ⟨_, _, He.glo_ok X G (c.fact 37 rfl), F_law_chain.kp, (F_law_chain.bindsN fun _ _ _ _ _ _ us hl => match us, hl with | [_, _], _ => rfl), ok_law_chain T  F_law_chain⟩
  obtain ⟨fd_law_read, F_law_read⟩ := c.def_ 11 (d := d_law_read) rfl
  have G_law_read : Gf P w K mg base 1 "_law_read" ["_law_line"] (sp_law_read P w K (adOf K)) := ⟨_, _, He.glo_ok X G (c.fact 38 rfl), F_law_read.kp, (F_law_read.bindsN fun _ _ _ _ _ _ us hl => match us, hl with | [_], _ => rfl), ok_law_read T  F_law_read⟩
  obtain ⟨fd_law_key, F_law_key⟩ := c.def_ 5 (d := d_law_key) rfl
  have G_law_key : Gf P w K mg base 2 "_law_key" ["_law_row", "_law_far"] (sp_law_key P w K (adOf K)) := ⟨_, _, He.glo_ok X G (c.fact 39 rfl), F_law_key.kp, (F_law_key.bindsN fun _ _ _ _ _ _ us hl => match us, hl with | [_, _], _ => rfl), ok_law_key T G_law_taken F_law_key⟩
  obtain ⟨fd_law_made, F_law_made⟩ := c.def_ 7 (d := d_law_made) rfl
  have G_law_made : Gf P w K mg base 2 "_law_made" ["_law_shape", "_law_rows"] (sp_law_made P w K (adOf K)) := ⟨_, _, He.glo_ok X G (c.fact 40 rfl), F_law_made.kp, (F_law_made.bindsN fun _ _ _ _ _ _ us hl => match us, hl with | [_, _], _ => rfl), ok_law_made T G_law_laid F_law_made⟩
  obtain ⟨fd_law_all, F_law_all⟩ := c.def_ 9 (d := d_law_all) rfl
  have G_law_all : Gf P w K mg base 2 "_law_all" ["_law_m"] (sp_law_all P w K (adOf K)) := ⟨_, _, He.glo_ok X G (c.fact 41 rfl), F_law_all.kp, (F_law_all.bindsN fun _ _ _ _ _ _ us hl => match us, hl with | [_], _ => rfl), ok_law_all T G_law_chain F_law_all⟩
  obtain ⟨fd_law_spoilt, F_law_spoilt⟩ := c.def_ 12 (d := d_law_spoilt) rfl
  have G_law_spoilt : Gf P w K mg base 2 "_law_spoilt" ["_law_row", "_law_text"] (sp_law_spoilt P w K (adOf K)) := ⟨_, _, He.glo_ok X G (c.fact 42 rfl), F_law_spoilt.kp, (F_law_spoilt.bindsN fun _ _ _ _ _ _ us hl => match us, hl with | [_, _], _ => rfl), ok_law_spoilt T G_law_taken F_law_spoilt⟩
  obtain ⟨fd_number_of, F_number_of⟩ := c.def_ 1 (d := d_number_of) rfl
  have G_number_of : Gf P w K mg base 3 "number_of" ["word", "row"] (sp_number_of P w K (adOf K)) := ⟨_, _, He.glo_ok X G (c.fact 43 rfl), F_number_of.kp, (F_number_of.bindsN fun _ _ _ _ _ _ us hl => match us, hl with | [_, _], _ => rfl), ok_number_of T  F_number_of⟩
  obtain ⟨fd_law_step, F_law_step⟩ := c.def_ 10 (d := d_law_step) rfl
  have G_law_step : Gf P w K mg base 3 "_law_step" ["_law_row", "_law_m", "_law_stops"] (sp_law_step P w K (adOf K)) := ⟨_, _, He.glo_ok X G (c.fact 44 rfl), F_law_step.kp, (F_law_step.bindsN fun _ _ _ _ _ _ us hl => match us, hl with | [_, _, _], _ => rfl), ok_law_step T G_law_all G_law_key G_law_taken F_law_step⟩
  obtain ⟨fd_read, F_read⟩ := c.def_ 2 (d := d_read) rfl
  have G_read : Gf P w K mg base 4 "read" ["text"] (sp_read P w K (adOf K)) := ⟨_, _, He.glo_ok X G (c.fact 45 rfl), F_read.kp, (F_read.bindsN fun _ _ _ _ _ _ us hl => match us, hl with | [_], _ => rfl), ok_read T G_number_of F_read⟩
  obtain ⟨fd_law_alike, F_law_alike⟩ := c.def_ 4 (d := d_law_alike) rfl
  have G_law_alike : Gf P w K mg base 17 "_law_alike" ["_law_found", "_law_due"] (sp_law_alike P w K (adOf K)) := ⟨_, _, He.glo_ok X G (c.fact 46 rfl), F_law_alike.kp, (F_law_alike.bindsN fun _ _ _ _ _ _ us hl => match us, hl with | [_, _], _ => rfl), ok_law_alike T (He.glo_ok X G (c.fact 46 rfl)) (F_law_alike.bindsN fun _ _ _ _ _ _ us hl => match us, hl with | [_, _], _ => rfl) F_law_alike 16⟩
  exact ok_law T W_law_word G_law_alike G_law_made G_law_read G_law_spoilt G_law_step G_law_taken G_read F (lamB_ofs (p := ("law", none)) F TB rfl (List.nodup_cons.mpr ⟨by simp, List.nodup_nil⟩) (by simp [tfs]))
end Sp
open PySem PySem.W PySem.Calls PyProof.Rows
theorem PySem.Challenge.cw_spillrows_k21_texts_refused_holds : PySem.Challenge.rw_spillrows_k21_texts_refused.Holds := by
  w_on; o_law
  refine HandSHeadRun.head_any (r := OpenLaw.row PySem.Challenge.rw_spillrows_k21_texts_refused) (q := view (OpenLaw.row PySem.Challenge.rw_spillrows_k21_texts_refused).prog [33]) (H := Sp.hk) (ob := Sp.ob) (M := 20000) (loose := Sp.loose) (d := HandSHeadRun.topDef (OpenLaw.row PySem.Challenge.rw_spillrows_k21_texts_refused).prog 33) (kwd := []) Sp.ob_eq
    (by kernel_rfl) (fun s => by kernel_rfl) Sp.run (by kernel_rfl) (by kernel_rfl) (by kernel_rfl) (by rfl) (by first | assumption | decide +kernel) (by decide +kernel) ⟨rfl, rfl, rfl, rfl, rfl, by decide +kernel⟩ ?hw ?hc
  case hw => w_witness2
  case hc =>
    refine LamX.walk_ofTsE (l := PySem.Challenge.rw_spillrows_k21_texts_refused) (n := 63) (k := 18) (CX := fun w => L2.CX (PySem.Challenge.rw_spillrows_k21_texts_refused).prog w) (x := "_law_script") rfl (by decide) (by kernel_rfl) ⟨rfl, by decide, by decide⟩ ?F fun w H s e s' z => by
      obtain ⟨_, _, _, _, _, _, _, _, _, _, _, _, f⟩ := z
      exact f
    intro w mg fa h Y G hmg0
    obtain ⟨K, KX, c⟩ := Y
    have hmg : mg ("law" : PySem.Str) = some (.ref fa) := by
      have e : (HandSHeadRun.topDef (OpenLaw.row PySem.Challenge.rw_spillrows_k21_texts_refused).prog 33).name = ("law" : PySem.Str) := by kernel_rfl
      rw [← e]
      exact hmg0
    exact ⟨K, KX, Sp.lawAt_ofsT (tf := Sp.tfs) KX c (Sp.facts (P := (PySem.Challenge.rw_spillrows_k21_texts_refused).prog) (w := w) KX G hmg c.t c.more)⟩

