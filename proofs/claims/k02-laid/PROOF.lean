import PyProof.Rows.All
import Wide.All
import OpenK.AllK
import Wide.FinOn
import HandS.ForMost
import HandS.More
import HandS.Exc
import HandS.TryOnly
import HandS.TryMany
import HandS.ExcOwn
import HandS.WordsExc
import HandS.IsInst
import HandS.TupAny
import HandS.TupMul
import HandS.Deep
import HandS.Style
import HandS.Flow
import HandS.CallSlots
import HandS.SortRule
import HandS.RevRange
import HandS.Defaults
import HandS.ExcInit
import HandS.FStr
import HandS.ClsMeth
import HandS.MapSum
import HandS.Words
import HandS.Head0
import HandS.Head1
import HandS.Head2
import HandS.HeadEnd
import HandS.HeadHook1
import HandS.HeadHook2
import HandS.HeadHook3
import HandS.HeadHook4
import PySem.Challenge.RW_spillrows_k02_laid
set_option Elab.async false
set_option linter.all false
set_option maxRecDepth 100000
set_option maxHeartbeats 4000000
/-! A dict whose keys are texts and tuples of texts and whole numbers, beside one another. -/
namespace SM
open PySem PySem.Spec PyProof.Rows L2
/-- a key: a text, or a tuple of texts and ints -/
abbrev MKey := Sum Str (List Key)
section
variable (P : Program) (w : World)
def mIs (h : Heap) : MKey → Value → Prop
  | .inl x, v => ∃ t, v = .str x t
  | .inr ks, v => ∃ b, v = .ref b ∧ (tupleKind (mixKind P w)).is h ks b
def mHash : MKey → Int
  | .inl x => hashStr w x
  | .inr ks => (tupleKind (mixKind P w)).hash ks
def mDraws : MKey → Nat
  | .inl _ => 1
  | .inr ks => (tupleKind (mixKind P w)).draws ks
def mEnt (x : MKey × Value × Value) : DictEntry := ⟨mHash P w x.1, x.2.1, x.2.2⟩
/-- the entries xs stand in the dict at d -/
def MDict (h : Heap) (d : Addr) (xs : List (MKey × Value × Value)) : Prop :=
  ∃ ob es ep, h.get? d = some ob ∧ ob.ExactDict ∧ ob.data = .dict es ep ∧ es.toList = xs.map (mEnt P w) ∧ (∀ x ∈ xs, mIs P w h x.1 x.2.1) ∧ (xs.map (·.1)).Nodup
end
section
variable {P : Program} {w : World}
theorem mIs_inj {h : Heap} {v : Value} : ∀ {x y : MKey}, mIs P w h x v → mIs P w h y v → x = y
  | .inl x, .inl y, ⟨t, e⟩, ⟨u, e'⟩ => by
    subst e
    injection e' with e1 _
    rw [e1]
  | .inl x, .inr ks, ⟨t, e⟩, ⟨b, e', _⟩ => by
    subst e
    cases e'
  | .inr ks, .inl x, ⟨b, e', _⟩, ⟨t, e⟩ => by
    subst e
    cases e'
  | .inr ks, .inr js, ⟨b, e, q⟩, ⟨c, e', q'⟩ => by
    subst e
    cases e'
    rw [(tupleKind (mixKind P w)).inj q q']
theorem mIs_keeps {h h' : Heap} {v : Value} {d : Addr} {ob : Obj} {es ep} (ho : h.get? d = some ob) (hd : ob.data = .dict es ep) (hs : Heap.SameBut d h h') : ∀ {k : MKey}, mIs P w h k v → mIs P w h' k v
  | .inl x, q => q
  | .inr ks, ⟨b, e, q⟩ => ⟨b, e, (tupleKind (mixKind P w)).keeps q ho hd hs⟩
theorem mIs_tup {h : Heap} {ks : List Key} {b : Addr} (q : (tupleKind (mixKind P w)).is h ks b) : ∃ its, h.IsTuple b its := by
  obtain ⟨ob, its, n, h1, h2, h3, _⟩ := q
  exact ⟨its, ob, h1, h2, n, h3⟩
section
variable {A : Around} {E : Value → Shared → Prop} {s : Shared}
theorem m_hash {k : MKey} {v : Value} {Q : Int → Shared → Prop} (hu : A.units < cLine) (q : mIs P w s.heap k v) (h : Q (mHash P w k) { s with toks := s.toks + mDraws P w k }) :
    wpAny (model P w) A (pyHash v) Q E s := by
  cases k with
  | inl x =>
    obtain ⟨t, rfl⟩ := q
    exact wpAny_pyHash_str h
  | inr ks =>
    obtain ⟨b, rfl, q⟩ := q
    exact (tupleKind (mixKind P w)).pyHash hu q h
theorem m_eq {x y : MKey} {u v : Value} {Q : Bool → Shared → Prop} (hu : A.units < cLine) (qx : mIs P w s.heap x u) (qy : mIs P w s.heap y v) (h : Q (decide (x = y)) s) :
    wpAny (model P w) A (eqBool u v) Q E s := by
  cases x with
  | inl x =>
    obtain ⟨t, rfl⟩ := qx
    cases y with
    | inl y =>
      obtain ⟨t', rfl⟩ := qy
      refine wpAny_eqBool_str ?_
      rw [← show decide ((Sum.inl x : MKey) = Sum.inl y) = decide (x = y) by
        by_cases e : x = y
        · subst e
          simp
        · rw [decide_eq_false e, decide_eq_false fun z => e (Sum.inl.inj z)]]
      exact h
    | inr ks =>
      obtain ⟨b, rfl, q⟩ := qy
      obtain ⟨its, ht⟩ := mIs_tup q
      rw [decide_eq_false (fun z => nomatch z)] at h
      exact SeqAt.EqAt.str_tuple x t ht hu _ _ _ _ h
  | inr ks =>
    obtain ⟨b, rfl, q⟩ := qx
    cases y with
    | inl y =>
      obtain ⟨t', rfl⟩ := qy
      obtain ⟨its, ht⟩ := mIs_tup q
      rw [decide_eq_false (fun z => nomatch z)] at h
      exact SeqAt.EqAt.tuple_str y t' ht hu _ _ _ _ h
    | inr js =>
      obtain ⟨c, rfl, q'⟩ := qy
      refine (tupleKind (mixKind P w)).eqBool hu q q' ?_
      rw [← show decide ((Sum.inr ks : MKey) = Sum.inr js) = decide (ks = js) by
        by_cases e : ks = js
        · subst e
          simp
        · rw [decide_eq_false e, decide_eq_false fun z => e (Sum.inr.inj z)]]
      exact h
theorem m_quiet {k : MKey} {v : Value} {Q : Bool → Shared → Prop} (q : mIs P w s.heap k v) (h : Q true s) : wpAny (model P w) A (eqIsQuiet 8 v) Q E s := by
  cases k with
  | inl x =>
    obtain ⟨t, rfl⟩ := q
    exact wpAny_pure h
  | inr ks =>
    obtain ⟨b, rfl, q⟩ := q
    exact (tupleKind (mixKind P w)).quiet q h
theorem m_tells {k : MKey} {v : Value} {stored : List Value} {Q : Bool → Shared → Prop} (q : mIs P w s.heap k v) (hst : ∀ z ∈ stored, ∃ k', mIs P w s.heap k' z) (h : Q false s) :
    wpAny (model P w) A (tableMayTell v stored) Q E s := by
  unfold tableMayTell
  split
  · exact wpAny_pure h
  · refine wpAny_bind (m_quiet q ?_)
    simp only [Bool.not_true, Bool.false_eq_true, if_false]
    refine wpAny_bind ?_
    refine wpAny_forIn_list _ (fun more b s1 => s1 = s ∧ b = (none, ()) ∧ ∀ z ∈ more, ∃ k', mIs P w s.heap k' z) _ ?_ ?_ _ _ ⟨rfl, rfl, hst⟩
    · rintro z more b s1 ⟨rfl, rfl, hm⟩
      obtain ⟨k', hk⟩ := hm z List.mem_cons_self
      refine wpAny_bind (m_quiet hk ?_)
      simp only [Bool.not_true, Bool.false_eq_true, if_false]
      exact wpAny_pure ⟨rfl, rfl, fun y hy => hm y (List.mem_cons_of_mem _ hy)⟩
    · rintro b s1 ⟨rfl, rfl, _⟩
      exact wpAny_pure h
theorem m_at {es : Array DictEntry} {xs : List (MKey × Value × Value)} (he : es.toList = xs.map (mEnt P w)) (j : Nat) : es[j]? = (xs[j]?).map (mEnt P w) := by
  rw [← List.getElem?_map, ← he, Array.getElem?_toList]
theorem m_size {es : Array DictEntry} {xs : List (MKey × Value × Value)} (he : es.toList = xs.map (mEnt P w)) : es.size = xs.length := by
  have := congrArg List.length he
  simpa using this
theorem m_uniq {xs : List (MKey × Value × Value)} (hn : (xs.map (·.1)).Nodup) {i j : Nat} {k : MKey} {p q : Value × Value} (hi : xs[i]? = some (k, p)) (hj : xs[j]? = some (k, q)) : i = j := by
  have a : (xs.map (·.1))[i]? = some k := by simp [hi]
  have b : (xs.map (·.1))[j]? = some k := by simp [hj]
  exact nodup_ix' hn a b
where
  nodup_ix' {N : List MKey} (hN : N.Nodup) {i j : Nat} {x : MKey} (a : N[i]? = some x) (b : N[j]? = some x) : i = j := by
    obtain ⟨h1, e1⟩ := List.getElem?_eq_some_iff.mp a
    obtain ⟨h2, e2⟩ := List.getElem?_eq_some_iff.mp b
    exact (List.getElem_inj hN).mp (e1.trans e2.symm)
/-- the places with a hash, from i on -/
abbrev plc (es : Array DictEntry) (hh : Int) (i : Nat) : List Nat := (List.range' i (es.size - i)).filter fun i => (es[i]?.map (·.hash)) == some hh
/-- what a walk over the places ahead of i has seen: nothing of the key, or its one place -/
def Seen (xs : List (MKey × Value × Value)) (k : MKey) (i : Nat) (hit : Option Nat) : Prop :=
  (hit = none ∧ ∀ j p, j < i → xs[j]? ≠ some (k, p)) ∨ ∃ j p, hit = some j ∧ j < i ∧ xs[j]? = some (k, p)
theorem Seen.skip {es : Array DictEntry} {xs : List (MKey × Value × Value)} {k : MKey} {i n : Nat} {hit : Option Nat} (he : es.toList = xs.map (mEnt P w)) (hin : i ≤ n)
    (hs : ∀ j, i ≤ j → j < n → ((es[j]?.map (·.hash)) == some (mHash P w k)) = false) (S : Seen xs k i hit) : Seen xs k n hit := by
  rcases S with ⟨h0, no⟩ | ⟨j, p, h1, hj, hx⟩
  · refine .inl ⟨h0, fun j p hj hx => ?_⟩
    by_cases hji : j < i
    · exact no j p hji hx
    · have z := hs j (by omega) hj
      rw [m_at he j, hx] at z
      simp [mEnt] at z
  · exact .inr ⟨j, p, h1, by omega, hx⟩
theorem Seen.other {xs : List (MKey × Value × Value)} {k k' : MKey} {i : Nat} {p : Value × Value} {hit : Option Nat} (hx : xs[i]? = some (k', p)) (ne : ¬ k' = k) (S : Seen xs k i hit) : Seen xs k (i + 1) hit := by
  rcases S with ⟨h0, no⟩ | ⟨j, p, h1, hj, hy⟩
  · refine .inl ⟨h0, fun j q hj hy => ?_⟩
    by_cases hji : j < i
    · exact no j q hji hy
    · have e : j = i := by omega
      subst e
      rw [hx] at hy
      injection hy with hy
      injection hy with hy
      exact ne hy
  · exact .inr ⟨j, p, h1, by omega, hy⟩
/-- what is at a place of the walk -/
theorem m_turn {es : Array DictEntry} {xs : List (MKey × Value × Value)} {k : MKey} {i x : Nat} {more : List Nat} {hit : Option Nat} (he : es.toList = xs.map (mEnt P w)) (hr : x :: more = plc es (mHash P w k) i) (hi : i ≤ es.size) (S : Seen xs k i hit) :
    ∃ k' p, xs[x]? = some (k', p) ∧ es[x]? = some (mEnt P w (k', p)) ∧ more = plc es (mHash P w k) (x + 1) ∧ x + 1 ≤ es.size ∧ Seen xs k x hit := by
  obtain ⟨h1, h2, h3, h4, h5⟩ := filter_range'_cons _ _ _ _ _ hr.symm
  have lt : x < es.size := by omega
  have lt' : x < xs.length := by rw [← m_size he]; exact lt
  refine ⟨xs[x].1, xs[x].2, by simp [lt'], by rw [m_at he x]; simp [lt'], ?_, lt, S.skip he h1 h4⟩
  rw [h5]
  congr 2
  omega
theorem m_end {es : Array DictEntry} {xs : List (MKey × Value × Value)} {k : MKey} {i : Nat} {hit : Option Nat} (he : es.toList = xs.map (mEnt P w)) (hr : [] = plc es (mHash P w k) i) (hi : i ≤ es.size) (S : Seen xs k i hit) : Seen xs k xs.length hit := by
  rw [← m_size he]
  refine S.skip he hi fun j h1 h2 => ?_
  have := List.filter_eq_nil_iff.mp hr.symm j (List.mem_range'_1.mpr ⟨h1, by omega⟩)
  simpa using this
theorem m_find {d : Addr} {v : Value} {ob : Obj} {es ep} {xs : List (MKey × Value × Value)} {k : MKey} {Q : Option Nat → Shared → Prop} (hu : A.units < cLine) (hkey : mIs P w s.heap k v)
    (ho : s.heap.get? d = some ob) (hd : ob.data = .dict es ep) (he : es.toList = xs.map (mEnt P w)) (his : ∀ x ∈ xs, mIs P w s.heap x.1 x.2.1) (hn : (xs.map (·.1)).Nodup)
    (hmix : ∀ x, k = .inl x → (es.all fun e => isExactStrKey e.key) = false)
    (hnone : (∀ (j : Nat) (p : Value × Value), xs[j]? ≠ some (k, p)) → Q none s) (hsome : ∀ (j : Nat) (p : Value × Value), xs[j]? = some (k, p) → Q (some j) s) :
    wpAny (model P w) A (dictFind d v (mHash P w k)) Q E s := by
  have hmem : ∀ e ∈ es, ∃ x ∈ xs, e = mEnt P w x := fun e hin => by
    have z : e ∈ xs.map (mEnt P w) := he ▸ Array.mem_toList_iff.mpr hin
    obtain ⟨x, hx, rfl⟩ := List.mem_map.mp z
    exact ⟨x, hx, rfl⟩
  have hst : ∀ z ∈ (placesWithHash es.size (fun i => es[i]?.map (·.hash)) (mHash P w k)).filterMap (fun i => es[i]?.map (·.key)), ∃ k', mIs P w s.heap k' z := fun z hz => by
    obtain ⟨i, _, hi⟩ := List.mem_filterMap.mp hz
    cases q : es[i]? with
    | none =>
      rw [q] at hi
      cases hi
    | some e =>
      rw [q] at hi
      obtain rfl : e.key = z := by simpa using hi
      obtain ⟨x, hx, rfl⟩ := hmem e (Array.mem_of_getElem? q)
      exact ⟨x.1, his x hx⟩
  have atx : ∀ {x : Nat} {k' : MKey} {p : Value × Value}, xs[x]? = some (k', p) → mIs P w s.heap k' p.1 := fun {x k' p} hx => his _ (List.mem_of_getElem? hx)
  have pl0 : placesWithHash es.size (fun i => es[i]?.map (·.hash)) (mHash P w k) = plc es (mHash P w k) 0 := by
    rw [placesWithHash, List.range_eq_range']
    rfl
  have S0 : Seen xs k 0 none := .inl ⟨rfl, fun _ _ h => absurd h (Nat.not_lt_zero _)⟩
  have fin : ∀ hit, Seen xs k xs.length hit → Q hit s := fun hit S => by
    rcases S with ⟨rfl, no⟩ | ⟨j, p, rfl, _, hx⟩
    · refine hnone fun j p hx => no j p ?_ hx
      exact (List.getElem?_eq_some_iff.mp hx).1
    · exact hsome j p hx
  have plain : wpAny (model P w) A (dictWalkPlain d v (mHash P w k) es (placesWithHash es.size (fun i => es[i]?.map (·.hash)) (mHash P w k))) Q E s := by
    unfold dictWalkPlain
    rw [pl0]
    refine wpAny_bind ?_
    refine wpAny_forIn_list _ (fun more b s1 => s1 = s ∧ b = (none, ()) ∧ ∃ i, more = plc es (mHash P w k) i ∧ i ≤ es.size ∧ Seen xs k i none) _ ?_ ?_ _ _ ⟨rfl, rfl, 0, rfl, Nat.zero_le _, S0⟩
    · rintro x more b s1 ⟨rfl, rfl, i, hr, hi, S⟩
      obtain ⟨k', p, hx, hex, hm, hle, Sx⟩ := m_turn he hr hi S
      rw [hex]
      dsimp only
      by_cases hh : ((mEnt P w (k', p)).hash == mHash P w k) = true
      · rw [if_pos hh]
        refine wpAny_bind (wpAny_dictEpoch ho hd (wpAny_bind (m_eq (x := k') (y := k) hu (atx hx) hkey (wpAny_bind (wpAny_dictEpoch ho hd ?_)))))
        show wpAny _ _ (if (ep != ep) = true then _ else _) _ E _
        rw [if_neg (by simp)]
        by_cases hkk : k' = k
        · rw [decide_eq_true hkk]
          subst hkk
          exact wpAny_bind (wpAny_rule (wpAny_pure (wpAny_pure (hsome x p hx))))
        · rw [decide_eq_false hkk]
          exact wpAny_bind (wpAny_rule (wpAny_pure ⟨rfl, rfl, x + 1, hm, hle, Sx.other hx hkk⟩))
      · rw [if_neg hh]
        refine wpAny_pure ⟨rfl, rfl, x + 1, hm, hle, Sx.other hx ?_⟩
        intro e
        rw [e] at hh
        simp [mEnt] at hh
    · rintro b s1 ⟨rfl, rfl, i, hr, hi, S⟩
      exact wpAny_pure (fin none (m_end he hr hi S))
  have hany : ∀ a, v = .ref a → ¬ (es.any fun e => e.key == v && e.hash != mHash P w k) = true := by
    rintro a rfl z
    rw [← Array.any_toList, List.any_eq_true] at z
    obtain ⟨e, hin, hc⟩ := z
    obtain ⟨x, hx, rfl⟩ := hmem e (Array.mem_toList_iff.mp hin)
    simp only [mEnt, Bool.and_eq_true, beq_iff_eq, bne_iff_ne, ne_eq] at hc
    have q := his x hx
    rw [hc.1] at q
    exact hc.2 (by rw [mIs_inj q hkey])
  unfold dictFind
  try with_reducible refine wpAny_holding ?_
  refine wpAny_bind (wpAny_dictEntries ho hd ?_)
  cases k
  case' inl x =>
    obtain ⟨t, rfl⟩ := id hkey
    dsimp only
    rw [if_neg (by rw [hmix x rfl]; exact Bool.false_ne_true)]
    by_cases hc : ((Value.str x t :: (placesWithHash es.size (fun i => es[i]?.map (·.hash)) (mHash P w (.inl x))).filterMap (fun i => es[i]?.map (·.key))).all carriedByValue) = true
    · rw [if_pos hc]
      exact plain
    rw [if_neg hc]
    generalize hg : (Sum.inl x : MKey) = kk at *
    by_cases hone : ((placesWithHash es.size (fun i => es[i]?.map (·.hash)) (mHash P w kk)).filterMap (fun i => es[i]?.map (·.key)) == [Value.str x t]) = true
  case' inr ks =>
    obtain ⟨b, rfl, _⟩ := id hkey
    dsimp only
    rw [if_neg (by simp [carriedByValue]), if_neg (hany b rfl)]
    generalize hg : (Sum.inr ks : MKey) = kk at *
    by_cases hone : ((placesWithHash es.size (fun i => es[i]?.map (·.hash)) (mHash P w kk)).filterMap (fun i => es[i]?.map (·.key)) == [Value.ref b]) = true
  all_goals
    (first | rw [if_pos hone] | rw [if_neg hone]) <;> (first | refine wpAny_bind (wpAny_pure ?_) | refine wpAny_bind (m_tells hkey hst ?_)) <;> (
      rw [if_neg (by simp)]
      rw [pl0]
      generalize (List.length _ : Nat) = ln
      refine wpAny_bind ?_
      refine wpAny_forIn_list _ (fun more b s1 => s1 = s ∧ ∃ i hit, b = (none, hit) ∧ more = plc es (mHash P w kk) i ∧ i ≤ es.size ∧ Seen xs kk i hit) _ ?_ ?_ _ _ ⟨rfl, 0, none, rfl, rfl, Nat.zero_le _, S0⟩
      · rintro x more b s1 ⟨rfl, i, hit, rfl, hr, hi, S⟩
        obtain ⟨k', p, hx, hex, hm, hle, Sx⟩ := m_turn he hr hi S
        rw [hex]
        dsimp only
        by_cases hh : ((mEnt P w (k', p)).hash == mHash P w kk) = true
        · rw [if_pos hh]
          refine wpAny_bind (wpAny_dictEpoch ho hd (wpAny_bind (m_eq (x := k') hu (atx hx) hkey (wpAny_bind (wpAny_dictEpoch ho hd ?_)))))
          show wpAny _ _ (if (ep != ep) = true then _ else _) _ E _
          rw [if_neg (by simp)]
          by_cases hkk : k' = kk
          · rw [decide_eq_true hkk]
            subst hkk
            rcases Sx with ⟨rfl, no⟩ | ⟨j, q, _, hj, hy⟩
            · first | rw [if_pos rfl] | skip
              simp only [Option.isSome_none, Bool.false_eq_true, if_false]
              first | refine wpAny_bind (wpAny_pure ?_) | skip
              refine wpAny_bind (wpAny_rule ?_)
              split
              · exact wpAny_pure (wpAny_pure (hsome x p hx))
              · exact wpAny_pure ⟨rfl, x + 1, some x, rfl, hm, hle, .inr ⟨x, p, rfl, Nat.lt_succ_self x, hx⟩⟩
            · exact absurd (m_uniq hn hy hx) (by omega)
          · rw [decide_eq_false hkk]
            simp only [Bool.false_eq_true, if_false]
            refine wpAny_bind (wpAny_rule ?_)
            first | rw [if_neg (by simp)] | skip
            first
              | exact wpAny_pure ⟨rfl, x + 1, hit, rfl, hm, hle, Sx.other hx hkk⟩
              | exact wpAny_bind (wpAny_pure (wpAny_pure ⟨rfl, x + 1, hit, rfl, hm, hle, Sx.other hx hkk⟩))
        · rw [if_neg hh]
          refine wpAny_pure ⟨rfl, x + 1, hit, rfl, hm, hle, Sx.other hx ?_⟩
          intro e
          rw [e] at hh
          simp [mEnt] at hh
      · rintro b s1 ⟨rfl, i, hit, rfl, hr, hi, S⟩
        exact wpAny_pure (fin hit (m_end he hr hi S)))
theorem mDict_type {d : Addr} {xs : List (MKey × Value × Value)} (hm : MDict P w s.heap d xs) : s.TypeIs (.ref d) "dict" := by
  obtain ⟨ob, _, _, h1, h2, _⟩ := hm
  exact ⟨ob, h1, h2.1⟩
/-- a text is asked among tuples too -/
def Mixed (xs : List (MKey × Value × Value)) (k : MKey) : Prop := ∀ x, k = .inl x → ∃ y ∈ xs, ∃ ks, y.1 = .inr ks
theorem mixed_all {h : Heap} {es : Array DictEntry} {xs : List (MKey × Value × Value)} {k : MKey} (he : es.toList = xs.map (mEnt P w)) (his : ∀ x ∈ xs, mIs P w h x.1 x.2.1) (M : Mixed xs k) :
    ∀ x, k = .inl x → (es.all fun e => isExactStrKey e.key) = false := fun x hx => by
  obtain ⟨y, hy, ks, hk⟩ := M x hx
  have q := his y hy
  rw [hk] at q
  obtain ⟨b, hb, _⟩ := q
  rw [← Array.all_toList, List.all_eq_false]
  refine ⟨mEnt P w y, by rw [he]; exact List.mem_map_of_mem hy, ?_⟩
  show ¬ isExactStrKey y.2.1 = true
  rw [hb]
  exact Bool.false_ne_true
/-- the value at a key -/
def mAt (xs : List (MKey × Value × Value)) (k : MKey) : Option Value := (xs.find? fun x => decide (x.1 = k)).map (·.2.2)
theorem mAt_get {xs : List (MKey × Value × Value)} (hn : (xs.map (·.1)).Nodup) {j : Nat} {k : MKey} {p : Value × Value} (hx : xs[j]? = some (k, p)) : mAt xs k = some p.2 := by
  unfold mAt
  cases q : xs.find? fun x => decide (x.1 = k) with
  | none =>
    have z := List.find?_eq_none.mp q _ (List.mem_of_getElem? hx)
    simp at z
  | some y =>
    have h1 : y.1 = k := by simpa using List.find?_some q
    obtain ⟨i, hi⟩ := List.mem_iff_getElem?.mp (List.mem_of_find?_eq_some q)
    have e : i = j := m_uniq hn (k := k) (p := y.2) (by rw [hi, ← h1]) hx
    subst e
    rw [hi] at hx
    cases hx
    rfl
theorem mAt_none {xs : List (MKey × Value × Value)} {k : MKey} (h : ∀ (j : Nat) (p : Value × Value), xs[j]? ≠ some (k, p)) : mAt xs k = none := by
  unfold mAt
  rw [List.find?_eq_none.mpr]
  · rfl
  · intro x hx hk
    obtain ⟨j, hj⟩ := List.mem_iff_getElem?.mp hx
    have hk' : x.1 = k := of_decide_eq_true hk
    exact h j x.2 (by rw [hj, ← hk'])
/-- behind a store -/
def mPut (xs : List (MKey × Value × Value)) (k : MKey) (v u : Value) : List (MKey × Value × Value) :=
  if (mAt xs k).isSome then xs.map (fun x => if x.1 = k then (x.1, x.2.1, u) else x) else xs ++ [(k, v, u)]
theorem m_getItem {d : Addr} {v u : Value} {xs : List (MKey × Value × Value)} {k : MKey} {Q : Value → Shared → Prop} (hu : A.units + 1 < cLine) (hkey : mIs P w s.heap k v) (hm : MDict P w s.heap d xs) (M : Mixed xs k) (hp : mAt xs k = some u)
    (h : Q u { s with toks := s.toks + mDraws P w k }) : wpAny (model P w) A (getItem (.ref d) v) Q E s := by
  have ty := mDict_type hm
  obtain ⟨ob, es, ep, ho, hc, hd, he, his, hn⟩ := hm
  unfold getItem
  try with_reducible refine wpAny_holding ?_
  refine wpAny_bind (wpAny_sequenceKey ty (by decide) ?_)
  refine wpAny_bind (wpAny_callSpecial?_slot (name := Str.ofString "__getitem__") ty slot_dict_getitem (wpAny_call_entry slot_dict_getitem ty entry_dict_getitem ?_ (args_dict_getitem _ _)))
  show wpAny _ _ (dictGet d v >>= _) _ _ s
  have g : wpAny (model P w) A.in1 (dictGet d v) (fun r s1 => r = some u ∧ s1 = { s with toks := s.toks + mDraws P w k }) (fun _ _ => False) s := by
    unfold dictGet
    try with_reducible refine wpAny_holding ?_
    refine wpAny_bind (m_hash (show A.in1.units < cLine from hu) hkey (wpAny_bind (m_find (s := { s with toks := s.toks + mDraws P w k }) (show A.in1.units < cLine from hu) hkey ho hd he his hn (mixed_all he his M) ?_ ?_)))
    · intro no
      rw [mAt_none no] at hp
      cases hp
    · intro j p hx
      rw [mAt_get hn hx] at hp
      cases hp
      refine wpAny_bind (wpAny_dictEntries (s := { s with toks := s.toks + mDraws P w k }) ho hd ?_)
      rw [m_at he j, hx]
      exact wpAny_pure ⟨rfl, rfl⟩
  refine wpAny_bind (wpAny_mono g ?_ fun _ _ z => z.elim)
  rintro r s1 ⟨rfl, rfl⟩
  exact wpAny_pure ⟨u, rfl, wpAny_pure h⟩
theorem m_modify {xs : List (MKey × Value × Value)} {k : MKey} {u : Value} : ∀ {j : Nat} {p : Value × Value}, (xs.map (·.1)).Nodup → xs[j]? = some (k, p) →
    (xs.map (mEnt P w)).modify j (fun e => { e with val := u }) = (xs.map fun x => if x.1 = k then (x.1, x.2.1, u) else x).map (mEnt P w) := by
  induction xs with
  | nil => intro j p _ h; simp at h
  | cons x r ih =>
    intro j p hn hx
    rw [List.map_cons, List.nodup_cons] at hn
    have out : k ∉ r.map (·.1) → (r.map fun x => if x.1 = k then (x.1, x.2.1, u) else x) = r := fun hk => by
      conv => rhs; rw [← List.map_id r]
      refine List.map_congr_left fun y hy => ?_
      rw [if_neg fun e => hk (List.mem_map.mpr ⟨y, hy, e⟩)]
      rfl
    cases j with
    | zero =>
      simp only [List.getElem?_cons_zero, Option.some.injEq] at hx
      subst hx
      rw [List.map_cons, List.map_cons, List.map_cons, out hn.1, if_pos rfl]
      rfl
    | succ j =>
      simp only [List.getElem?_cons_succ] at hx
      have ne : ¬ x.1 = k := fun e => hn.1 (by rw [e]; exact List.mem_map.mpr ⟨(k, p), List.mem_of_getElem? hx, rfl⟩)
      rw [List.map_cons, List.map_cons, List.map_cons, if_neg ne, ← ih hn.2 hx]
      rfl
theorem m_setItem {d : Addr} {v u : Value} {xs : List (MKey × Value × Value)} {k : MKey} {Q : Unit → Shared → Prop} (hu : A.units + 1 < cLine) (hkey : mIs P w s.heap k v) (hm : MDict P w s.heap d xs) (M : Mixed xs k) (hz : xs.length ≤ sizeLine)
    (h : ∀ h', MDict P w h' d (mPut xs k v u) → Heap.SameBut d s.heap h' → Q () { s with heap := h', toks := s.toks + mDraws P w k }) : wpAny (model P w) A (setItem (.ref d) v u) Q E s := by
  have ty := mDict_type hm
  obtain ⟨ob, es, ep, ho, hc, hd, he, his, hn⟩ := hm
  unfold setItem
  try with_reducible refine wpAny_holding ?_
  refine wpAny_bind (wpAny_sequenceKey ty (by decide) ?_)
  refine wpAny_bind (wpAny_callSpecial?_slot (name := Str.ofString "__setitem__") ty slot_dict_setitem (wpAny_call_entry slot_dict_setitem ty entry_dict_setitem ?_ (args_dict_setitem _ _ _)))
  show wpAny _ _ (Builtin.Dict.notOrdered "__setitem__" ⟨[.ref d, v, u], []⟩ >>= _) _ _ s
  refine wpAny_bind (wpAny_notOrdered_dict ty ?_)
  show wpAny _ _ (dictSet d v u >>= _) _ _ s
  refine wpAny_bind (wpAny_mono (Q := fun _ s1 => ∃ h', s1 = { s with heap := h', toks := s.toks + mDraws P w k } ∧ MDict P w h' d (mPut xs k v u) ∧ Heap.SameBut d s.heap h') (E := fun _ _ => False) ?_ ?_ fun _ _ z => z.elim)
  · unfold dictSet
    try with_reducible refine wpAny_holding ?_
    refine wpAny_bind (m_hash (show A.in1.units < cLine from hu) hkey ?_)
    unfold dictSetHashed
    try with_reducible refine wpAny_holding ?_
    refine wpAny_bind (m_find (s := { s with toks := s.toks + mDraws P w k }) (show A.in1.units < cLine from hu) hkey ho hd he his hn (mixed_all he his M) ?_ ?_)
    · intro no
      have e0 : mPut xs k v u = xs ++ [(k, v, u)] := by unfold mPut; rw [mAt_none no]; rfl
      have hnot : k ∉ xs.map (·.1) := fun hk => by
        obtain ⟨x, hx, e⟩ := List.mem_map.mp hk
        obtain ⟨j, hj⟩ := List.mem_iff_getElem?.mp hx
        exact no j x.2 (by rw [hj, ← e])
      refine wpAny_bind (wpAny_rule (wpAny_updateDictKeys (hz := by have e := m_size he; omega) (s := { s with toks := s.toks + mDraws P w k }) ho hd ⟨_, rfl, ⟨_, _, ep + 1, Heap.get?_update_self _ ho (Obj.isFreed_of_dict (Obj.data_mapDictKeys hd _)),
        hc.mapDictKeys _, Obj.data_mapDictKeys hd _, ?_, ?_, ?_⟩, Heap.SameBut.update ..⟩))
      · rw [e0]
        simp [he, mEnt]
      · rw [e0]
        intro x hx
        rcases List.mem_append.mp hx with hx | hx
        · exact mIs_keeps ho hd (Heap.SameBut.update ..) (his x hx)
        · simp only [List.mem_singleton] at hx
          subst hx
          exact mIs_keeps ho hd (Heap.SameBut.update ..) hkey
      · rw [e0, List.map_append, List.nodup_append]
        refine ⟨hn, by simp, ?_⟩
        intro x hx y hy
        simp only [List.map_cons, List.map_nil, List.mem_singleton] at hy
        subst hy
        exact fun e => hnot (e ▸ hx)
    · intro j p hx
      have e0 : mPut xs k v u = xs.map (fun x => if x.1 = k then (x.1, x.2.1, u) else x) := by unfold mPut; rw [mAt_get hn hx]; rfl
      refine wpAny_bind (wpAny_rule (wpAny_bind (wpAny_updateDict (s := { s with toks := s.toks + mDraws P w k }) ho hd (wpAny_point ⟨_, rfl, ⟨_, _, ep, Heap.get?_update_self _ ho (Obj.isFreed_of_dict (Obj.data_mapDict hd _)),
        hc.mapDict _, Obj.data_mapDict hd _, ?_, ?_, ?_⟩, Heap.SameBut.update ..⟩))))
      · rw [e0, ← m_modify hn hx, ← he]
        obtain ⟨l⟩ := es
        simp
      · rw [e0]
        intro x hx
        obtain ⟨y, hy, rfl⟩ := List.mem_map.mp hx
        split <;> exact mIs_keeps ho hd (Heap.SameBut.update ..) (his y hy)
      · rw [e0, List.map_map]
        rw [show ((fun x : MKey × Value × Value => x.1) ∘ fun x => if x.1 = k then (x.1, x.2.1, u) else x) = fun x => x.1 from funext fun x => by
          show (if x.1 = k then (x.1, x.2.1, u) else x).1 = x.1
          split <;> rfl]
        exact hn
  · rintro _ s1 ⟨h', rfl, h1, h2⟩
    exact wpAny_pure ⟨.none, rfl, wpAny_pure (h h' h1 h2)⟩
end
end
/-! ### over the abstract heap -/
section
variable (P : Program) (w : World)
/-- a dict of such keys at d, by its entries -/
def DX (d : Addr) (xs : List (MKey × Value × Value)) : HO := .ext fun h => (d == sysModules) = false ∧ ∃ ob es ep, h.get? d = some ob ∧ ob.ExactDict ∧ ob.data = .dict es ep ∧ es.toList = xs.map (mEnt P w)
def kRel (H : Hp) : MKey → Value → Prop
  | .inl x, v => ∃ t, v = .str x t
  | .inr ks, v => ∃ b, v = .ref b ∧ H b = some (.tup (ks.map kV))
abbrev MPair (H : Hp) : List (MKey × V) → List (MKey × Value × Value) → Prop := Paired fun p q => p.1 = q.1 ∧ kRel H p.1 q.2.1 ∧ RelV p.2 q.2.2
/-- the dict at d holds the pairs kvs -/
def DM (H : Hp) (d : Addr) (kvs : List (MKey × V)) : Prop := ∃ xs, H d = some (DX P w d xs) ∧ MPair H kvs xs ∧ (kvs.map (·.1)).Nodup
end
/-- a value that is a key -/
def mKey (H : Hp) : MKey → V → Prop
  | .inl x, v => v = .str x
  | .inr ks, v => ∃ b, v = .ref b ∧ H b = some (.tup (ks.map kV))
/-- a text is asked only where a tuple is a key, too -/
def MixK (kvs : List (MKey × V)) (k : MKey) : Prop := ∀ x, k = .inl x → ∃ y ∈ kvs, ∃ ks, y.1 = .inr ks
section
variable {P : Program} {w : World} {H H' : Hp} {d : Addr} {kvs : List (MKey × V)} {xs : List (MKey × Value × Value)}
theorem MPair.keys (r : MPair H kvs xs) : kvs.map (·.1) = xs.map (·.1) := by
  induction r with
  | nil => rfl
  | cons h t ih => rw [List.map_cons, List.map_cons, ih, h.1]
theorem MPair.len (r : MPair H kvs xs) : kvs.length = xs.length := by
  have := congrArg List.length r.keys
  simpa using this
theorem kRel.mono (ht : ∀ b ys, H b = some (.tup ys) → H' b = some (.tup ys)) {v : Value} : ∀ {k : MKey}, kRel H k v → kRel H' k v
  | .inl _, q => q
  | .inr _, ⟨b, e, q⟩ => ⟨b, e, ht _ _ q⟩
theorem MPair.mono (ht : ∀ b ys, H b = some (.tup ys) → H' b = some (.tup ys)) (r : MPair H kvs xs) : MPair H' kvs xs :=
  Paired.mapP r fun _ _ z => ⟨z.1, kRel.mono ht z.2.1, z.2.2⟩
theorem DM.mono (e : ∀ b o, H b = some o → H' b = some o) (r : DM P w H d kvs) : DM P w H' d kvs := by
  obtain ⟨xs, h1, h2, h3⟩ := r
  exact ⟨xs, e _ _ h1, h2.mono fun b ys q => e _ _ q, h3⟩
theorem DM.live (r : DM P w H d kvs) : ∃ o, H d = some o := let ⟨_, h, _⟩ := r; ⟨_, h⟩
theorem mixK_of (r : MPair H kvs xs) {k : MKey} (M : MixK kvs k) : Mixed xs k := fun x hx => by
  obtain ⟨y, hy, ks, hk⟩ := M x hx
  have : Sum.inr ks ∈ xs.map (·.1) := by
    rw [← r.keys, ← hk]
    exact List.mem_map_of_mem hy
  obtain ⟨z, hz, e⟩ := List.mem_map.mp this
  exact ⟨z, hz, ks, e⟩
theorem mVal (r : MPair H kvs xs) (k : MKey) : RelO (valV kvs k) (mAt xs k) := by
  induction r with
  | nil => trivial
  | @cons p q l m h t ih =>
    by_cases e : p.1 = k
    · rw [valV_pos e]
      have e' : q.1 = k := h.1 ▸ e
      unfold mAt
      rw [List.find?_cons, decide_eq_true e']
      exact h.2.2
    · rw [valV_neg e]
      have e' : ¬ q.1 = k := h.1 ▸ e
      unfold mAt
      rw [List.find?_cons, decide_eq_false e']
      exact ih
theorem mPutP (r : MPair H kvs xs) {k : MKey} {v : Value} {y : V} {u : Value} (hk : kRel H k v) (ry : RelV y u) : MPair H (putK kvs k y) (mPut xs k v u) := by
  have ea : (kvs.any fun kv => decide (kv.1 = k)) = (mAt xs k).isSome := by
    rw [valV_any, (mVal r k).isSome_eq]
  unfold putK mPut
  rw [ea]
  split
  · rename_i hs
    clear ea hs
    induction r with
    | nil => exact .nil
    | @cons p q l m h t ih =>
      rw [List.map_cons, List.map_cons]
      refine .cons ?_ ih
      by_cases e : p.1 = k
      · rw [if_pos e, if_pos (h.1 ▸ e)]
        exact ⟨h.1, h.2.1, ry⟩
      · rw [if_neg e, if_neg (h.1 ▸ e)]
        exact h
  · exact append r (.cons ⟨rfl, hk, ry⟩ .nil)
where
  append : ∀ {a b : List (MKey × V)} {c e : List (MKey × Value × Value)}, MPair H a c → MPair H b e → MPair H (a ++ b) (c ++ e)
    | _, _, _, _, .nil, s => s
    | _, _, _, _, .cons r t, s => .cons r (append t s)
theorem nodup_putK {k : MKey} {y : V} (hn : (kvs.map (·.1)).Nodup) : ((putK kvs k y).map (·.1)).Nodup := by
  unfold putK
  split
  · rw [List.map_map, show ((fun x : MKey × V => x.1) ∘ fun kv => if kv.1 = k then (kv.1, y) else kv) = fun x => x.1 from funext fun x => by
      show (if x.1 = k then (x.1, y) else x).1 = x.1
      split <;> rfl]
    exact hn
  · rename_i h
    rw [List.map_append, List.nodup_append]
    refine ⟨hn, by simp, ?_⟩
    intro x hx z hz e
    simp only [List.map_cons, List.map_nil, List.mem_singleton] at hz
    subst hz
    obtain ⟨p, hp, e'⟩ := List.mem_map.mp hx
    exact h (List.any_eq_true.mpr ⟨p, hp, decide_eq_true (e'.trans e)⟩)
end
section
variable {X : Cx} {pins : List (Addr × Obj)} {σ : L2.St} {H : Hp} {s : Shared}
theorem kRel_is (I : Inv X pins σ H s) {v : Value} : ∀ {k : MKey}, kRel H k v → mIs X.prog X.w s.heap k v
  | .inl _, q => q
  | .inr _, ⟨b, e, q⟩ => ⟨b, e, key_of I.hok q⟩
theorem key_rel {k : MKey} {y : V} {v : Value} (h : mKey H k y) (r : RelV y v) : kRel H k v := by
  cases k with
  | inl x =>
    have h' : y = .str x := h
    subst h'
    exact r
  | inr ks =>
    obtain ⟨b, rfl, q⟩ := h
    exact ⟨b, r, q⟩
theorem pair_is (I : Inv X pins σ H s) {kvs : List (MKey × V)} {xs : List (MKey × Value × Value)} (r : MPair H kvs xs) : ∀ x ∈ xs, mIs X.prog X.w s.heap x.1 x.2.1 := by
  induction r with
  | nil => intro x hx; cases hx
  | @cons p q l m h t ih =>
    intro x hx
    rcases List.mem_cons.mp hx with rfl | hx
    · have := kRel_is I h.2.1
      rw [← h.1]
      exact this
    · exact ih x hx
theorem dm_at (I : Inv X pins σ H s) {d : Addr} {kvs : List (MKey × V)} {xs : List (MKey × Value × Value)} (e : H d = some (DX X.prog X.w d xs)) (r : MPair H kvs xs) (hn : (kvs.map (·.1)).Nodup) : (d == sysModules) = false ∧ MDict X.prog X.w s.heap d xs := by
  obtain ⟨⟨h0, ob, es, ep, h1, h2, h3, h4⟩, _, _⟩ := I.hok d _ e
  exact ⟨h0, ob, es, ep, h1, h2, h3, h4, pair_is I r, by rw [← r.keys]; exact hn⟩
/-- a subscript of a dict, by values -/
theorem ix_fin {value slice : PySem.Expr} {d : Addr} {u : Value} {Q : VK} (ty : s.TypeIs (.ref d) "dict") (hs : subscripted slice false (.ref d) u = operate [.ref d, u] (getItem (.ref d) u))
    (g : wpAny (model X.prog X.w) X.A (getItem (.ref d) u) (EP X pins σ Q) X.xe s) : wpAny (model X.prog X.w) X.A (subscriptTail value slice (.ref d) u) (EP X pins σ Q) X.xe s := by
  have last : wpAny (model X.prog X.w) X.A (subscripted slice false (.ref d) u) (fun r s1 => wpAny (model X.prog X.w) X.A (letTemporaryGo value (.ref d) r >>= fun _ => pure r) (EP X pins σ Q) X.xe s1) X.xe s := by
    rw [hs]
    refine wpAny_operating (thn g fun r s1 z => ?_)
    exact wpAny_bind (wpAny_letTemporaryGo (wpAny_pure z))
  unfold subscriptTail
  refine wpAny_bind ?_
  rw [getitemInPython_of_ne ty.not_modules]
  refine wpAny_bind (wpAny_specialOf ty PySem.F.slot_dict_getitem.lookup ?_)
  first
    | exact wpAny_bind (wpAny_pure (wpAny_bind last))
    | exact wpAny_pure (wpAny_bind last)
    | exact wpAny_bind last
/-- d[k] -/
def rIxM (P : Program) (w : World) : R2 := fun x y H Q => ∃ d kvs k v, x = .ref d ∧ DM P w H d kvs ∧ mKey H k y ∧ MixK kvs k ∧ valV kvs k = some v ∧ Q v H
theorem ix_mix (hu : X.A.units + 1 < cLine) : IxR X (rIxM X.prog X.w) := by
  intro value slice pins s σ H x y v u Q I rx ry h hs
  obtain ⟨d, kvs, k, z, rfl, ⟨xs, hd, hp, hn⟩, hk, M, hv, q⟩ := h
  cases rx
  obtain ⟨_, hm⟩ := dm_at I hd hp hn
  obtain ⟨w', hw, rw'⟩ := RelO.some_of (v := z) (o := mAt xs k) (by rw [← hv]; exact mVal hp k)
  exact ix_fin (mDict_type hm) hs (m_getItem hu (kRel_is I (key_rel hk ry)) hm (mixK_of hp M) hw ⟨z, H, I.tok _, rw', q⟩)
/-- d[k] of a dict of ints and texts, or of tuples -/
def rIxD : R2 := fun x y H Q => ∃ a v, x = .ref a ∧ DGet H a y (some v) ∧ Q v H
theorem ix_dict (hu : X.A.units + 1 < cLine) : IxR X rIxD := by
  intro value slice pins s σ H x y v u Q I rx ry h hs
  obtain ⟨a, z, rfl, g, q⟩ := h
  cases rx
  exact ix_fin (dict_typeIs I g) hs (d_getItem hu I g ry fun w' s3 I3 rw' => ⟨z, H, I3, rw', q⟩)
/-- d[k] = v -/
def rSetM (P : Program) (w : World) : TSet := fun o i v H Q => ∃ d kvs k, o = .ref d ∧ DM P w H d kvs ∧ mKey H k i ∧ MixK kvs k ∧ kvs.length ≤ 100000 ∧
  ∀ H', (∀ b u, b ≠ d → H b = some u → H' b = some u) → (∀ b, b ≠ d → H b = none → H' b = none) → DM P w H' d (putK kvs k v) → Q H'
theorem mut_dx {P : Program} {w : World} {d : Addr} {xs : List (MKey × Value × Value)} (h : H d = some (DX P w d xs)) : Mut (H d) := by
  rw [h]
  trivial
theorem dx_ok {P : Program} {w : World} {H' : Hp} {h' : Heap} {d : Addr} {xs : List (MKey × Value × Value)} (h0 : (d == sysModules) = false) (m : MDict P w h' d xs) : ObjOk P w H' h' d (DX P w d xs) := by
  obtain ⟨ob, es, ep, h1, h2, h3, h4, _⟩ := m
  refine ⟨⟨h0, ob, es, ep, h1, h2, h3, h4⟩, ⟨ob, h1⟩, ?_⟩
  rintro g1 g2 ⟨_, ob, es, ep, a, b, c, d⟩ k
  exact ⟨h0, ob, es, ep, k _ a, b, c, d⟩
theorem set_mix (hu : X.A.units + 1 < cLine) : PSet X (rSetM X.prog X.w) := by
  intro pins s σ H o i v ov iv u Q I ro ri rv h
  obtain ⟨d, kvs, k, rfl, ⟨xs, hd, hp, hn⟩, hk, M, hz, q⟩ := h
  cases ro
  obtain ⟨h0, hm⟩ := dm_at I hd hp hn
  have hl := hp.len
  have hz2 : xs.length ≤ sizeLine := by
    have : (100000 : Nat) ≤ sizeLine := by decide
    omega
  have hk' := key_rel hk ri
  refine m_setItem (u := u) hu (kRel_is I hk') hm (mixK_of hp M) hz2 fun h' m sb => ?_
  have he : ∃ z, h'.get? d = some z := by
    obtain ⟨ob, _, _, h1, _⟩ := m
    exact ⟨ob, h1⟩
  refine ⟨upd H d (DX X.prog X.w d (mPut xs k iv u)), d_write I (mut_dx hd) sb he (dx_ok h0 m), ?_⟩
  have tp : ∀ b ys, H b = some (.tup ys) → (upd H d (DX X.prog X.w d (mPut xs k iv u))) b = some (.tup ys) := fun b ys e => by
    rw [upd_ne (ne_of e hd (by intro z; cases z))]
    exact e
  exact q _ (fun b o hb e => by rw [upd_ne hb]; exact e) (fun b hb e => by rw [upd_ne hb]; exact e) ⟨_, upd_same, (mPutP hp hk' rv).mono tp, nodup_putK hn⟩
/-- {} -/
def tDNewM (P : Program) (w : World) : TE := fun _ H Q => ∀ p H', H p = none → (∀ b u, b ≠ p → H b = some u → H' b = some u) → (∀ b, b ≠ p → H b = none → H' b = none) → DM P w H' p [] → Q (.ref p) H'
theorem pe_dnewM {pos : Pos} : PE X (.Dict [] [] pos) (tDNewM X.prog X.w) := by
  refine ⟨fun pins s σ H Q I h => ?_⟩
  have m : MDict X.prog X.w (s.heap.push { cls := .type "dict", data := .dict #[] }) s.heap.objs.size [] :=
    ⟨_, #[], 0, Heap.get?_push_size _ rfl, ⟨rfl, rfl, rfl⟩, rfl, rfl, fun x hx => by (cases hx), List.nodup_nil⟩
  have h0 : (s.heap.objs.size == sysModules) = false := beq_eq_false_iff_ne.mpr (Ne.symm (Nat.ne_of_lt I.big))
  have nw : H s.heap.objs.size = none := I.hok.fresh (Nat.le_refl _)
  have J : Inv X pins σ (upd H s.heap.objs.size (DX X.prog X.w s.heap.objs.size [])) { s with heap := s.heap.push { cls := .type "dict", data := .dict #[] } } :=
    I.laid (t' := s.toks) (fun _ _ q => Heap.get?_push_of_some _ q) (Nat.le_refl _) (dx_ok h0 m)
  refine wpAny_Dict_empty ⟨.ref s.heap.objs.size, _, J, rfl, h _ _ nw (fun b u hb e => by rw [upd_ne hb]; exact e) (fun b hb e => by rw [upd_ne hb]; exact e) ⟨[], upd_same, .nil, List.nodup_nil⟩⟩
end
end SM

set_option Elab.async false
set_option linter.all false
set_option maxRecDepth 100000
set_option maxHeartbeats 4000000
/-! Rules that serve an operation whatever its operands are: the reading tells which. -/
namespace SR
open PySem PySem.Spec PyProof.Rows L2 SM
section
variable {X : Cx}
def rAddI : R2 := rI0 fun i j => .int (i + j)
def rSubI : R2 := rI0 fun i j => .int (i - j)
def rAddS : R2 := fun x y H Q => ∃ i j, x = .str i ∧ y = .str j ∧ i.length + j.length ≤ sizeLine ∧ Q (.str (i ++ j)) H
/-- a + b: two ints, texts, lists, tuples -/
def rAddU (K : PySem.W.Frag) : R2 := fun x y H Q => rAddI x y H Q ∨ rAddS x y H Q ∨ rCat x y H Q ∨ rCatA K x y H Q
theorem op_addU : OpR X (binaryOp .Add) (rAddU X.K) := op_add.or (op_add_str.or (op_cat.or op_catA))
/-- a * b: two ints, a list and an int -/
def rMulU (K : PySem.W.Frag) : R2 := fun x y H Q => rI CMul (fun i j => .int (i * j)) x y H Q ∨ rRep x y H Q ∨ rRepT K x y H Q
theorem op_mulU : OpR X (binaryOp .Mult) (rMulU X.K) := op_mul.or (op_rep.or op_repT)
def rModI : R2 := rI (fun _ j => 0 < j) fun i j => .int (i % j)
def rDivI : R2 := rI CDiv fun i j => .int (i / j)
def rPowI : R2 := rI CPow fun i j => .int (i ^ j.toNat)
def rLtI : R2 := rI0 fun i j => .bl (decide (i < j))
def rLeI : R2 := rI0 fun i j => .bl (decide (i ≤ j))
def rGtI : R2 := rI0 fun i j => .bl (decide (j < i))
def rGeI : R2 := rI0 fun i j => .bl (decide (j ≤ i))
def rNegI : V → Hp → VK → Prop := rU fun i => .int (-i)
def rIsNone : R2 := fun x y H Q => y = .non ∧ Q (.bl (decide (x = .non))) H
def rNotNone : R2 := fun x y H Q => y = .non ∧ Q (.bl (!decide (x = .non))) H
/-- a[i]: of a list, a tuple, a text, a dict -/
def rIxU (P : Program) (w : World) (K : PySem.W.Frag) : R2 := fun x y H Q => rIx K x y H Q ∨ rIxD x y H Q ∨ rIxM P w x y H Q
theorem ix_u (hu : X.A.units + 1 < cLine) : IxR X (rIxU X.prog X.w X.K) := ix_seq.or ((ix_dict hu).or (ix_mix hu))
/-- a[i:j]: of a list, a tuple, a text -/
def rSlS : V → Option Int → Option Int → Hp → VK → Prop := fun x lo hi H Q => ∃ z, x = .str z ∧ z.length ≤ sizeLine ∧ Q (.str (cutS z lo hi)) H
def rSlU (K : PySem.W.Frag) : V → Option Int → Option Int → Hp → VK → Prop := fun x lo hi H Q => rSlL K x lo hi H Q ∨ rSlA K x lo hi H Q ∨ rSlS x lo hi H Q
theorem sl_u : SlR X (rSlU X.K) := sl_list.or (sl_tupA.or sl_str)
def rLenU (K : PySem.W.Frag) : List V → Hp → VK → Prop := fun xs H Q => ∃ x n, xs = [x] ∧ LenV K x H n ∧ Q (.int (n : Nat)) H
def rListU (K : PySem.W.Frag) : List V → Hp → VK → Prop := fun xs H Q => ∃ p ys, xs = [.ref p] ∧ (SqL K H p ys ∨ SqT K H p ys) ∧ ∀ l, H l = none → Q (.ref l) (upd H l (.lst ys))
def rTupU (K : PySem.W.Frag) : List V → Hp → VK → Prop := fun xs H Q => ∃ p ys, xs = [.ref p] ∧ ((SqL K H p ys ∧ ∀ l, H l = none → Q (.ref l) (upd H l (.tup ys))) ∨ (SqT K H p ys ∧ Q (.ref p) H))
def rIntU : List V → Hp → VK → Prop := fun xs H Q => (∃ i, xs = [.int i] ∧ Q (.int i) H) ∨ ∃ k, xs = [.bl k] ∧ Q (.int (if k then 1 else 0)) H
def rMin2 : List V → Hp → VK → Prop := fun xs H Q => ∃ i j, xs = [.int i, .int j] ∧ Q (.int (if j < i then j else i)) H
theorem call_lenU : CallR X (.builtin "len") (rLenU X.K) := call_len
theorem call_listU : CallR X (.type "list") (rListU X.K) := call_list_of
theorem call_tupU : CallR X (.type "tuple") (rTupU X.K) := call_tuple_of
theorem call_intU : CallR X (.type "int") rIntU := call_int1
theorem call_min2U (hc : X.calm = true) : CallR X (.builtin "min") rMin2 := call_min2 hc
/-- isinstance(x, T), isinstance(x, (T, U)) -/
def rIsU (K : PySem.W.Frag) : List V → Hp → VK → Prop := fun xs H Q => rIsi K xs H Q ∨ rIsiT K xs H Q
theorem call_isU : CallR X (.builtin "isinstance") (rIsU X.K) := call_isi.or call_isiT
end
end SR

set_option Elab.async false
set_option linter.all false
set_option maxRecDepth 100000
set_option maxHeartbeats 4000000
/-! Rules by bundles of facts: defs, methods, classes, constants of the text. -/
namespace SR
open PySem PySem.Spec PyProof.Rows L2 SM
/-- a def of the text keeps its promise -/
structure Gf (P : Program) (w : World) (K : PySem.W.Frag) (mg : Str → Option Value) (base : Heap) (k : Nat) (x : Str) (ps : List Str) (sp : Sp) : Prop where
  ex : ∃ f fd, mg x = some (.ref f) ∧ PySem.W.keepIn K (.ref f) = true ∧ Binds K fd ps [] ∧ FnOk P w K mg base (L2.CX P w) k f fd ps sp
/-- a method -/
structure Mf (P : Program) (w : World) (K : PySem.W.Frag) (mg : Str → Option Value) (base : Heap) (k : Nat) (C : Addr) (m : Str) (ps : List Str) (sp : Sp) : Prop where
  ex : ∃ f fd, Meth K C m f ∧ Binds K fd ps [] ∧ FnOk P w K mg base (L2.CX P w) k f fd ps sp
  cl : Cls K C
/-- a class is called: its __init__ -/
structure Kf (P : Program) (w : World) (K : PySem.W.Frag) (mg : Str → Option Value) (base : Heap) (k : Nat) (C : Addr) (x : Str) (ps : List Str) (sp : Sp) : Prop where
  ex : ∃ f fd, Mk K C f ∧ mg x = some (.ref C) ∧ Binds K fd ps [] ∧ FnOk P w K mg base (L2.CX P w) k f fd ps sp
/-- the built-in names are the built-ins' -/
structure Nb (mg : Str → Option Value) : Prop where
  len : mg "len" = none
  range : mg "range" = none
  enumerate : mg "enumerate" = none
  list : mg "list" = none
  tuple : mg "tuple" = none
  dict : mg "dict" = none
  int : mg "int" = none
  str : mg "str" = none
  bool : mg "bool" = none
  isinstance : mg "isinstance" = none
  min : mg "min" = none
  max : mg "max" = none
  sum : mg "sum" = none
  sorted : mg "sorted" = none
  reversed : mg "reversed" = none
  set : mg "set" = none
  ValueError : mg "ValueError" = none
/-- an exception class without an __init__ of its own -/
structure Xc (K : PySem.W.Frag) (mg : Str → Option Value) (x : Str) (C : Addr) : Prop where
  g : mg x = some (.ref C)
  x : PySem.W.excIn K C [.type "ValueError", .type "Exception", .type "BaseException", .type "object"] "ValueError.__new__" = true
  k : PySem.W.keepIn K (.ref C) = true
  b : PySem.W.subIn K (.ref C) (.type "BaseException") = some true
  t : PySem.W.typeIn K (.ref C) = some (.type "type")
def tRaise0 (C : Addr) (E : XK) : TS := fun _ _ H => E (.ref C) none H
section
variable {X : Cx} {k : Nat} {x m : Str} {ps : List Str} {sp : Sp} {E : XK} {C : Addr} {e o : Expr} {es : List Expr} {t : TA} {ta : TE} {p pos apos : Pos}
theorem pe_gf (G : Gf X.prog X.w X.K X.mg X.base k x ps sp) (hr : Room k X.A) (hx : Passes (L2.CX X.prog X.w) X E) (ha : PA X (e :: es) t) (hg : Gl X x := by rfl) (hdb : (x == ("__debug__" : Str)) = false := by decide)
    (he : starEach (e :: es) X.env = (false, eval e X.env) :: starEach es X.env := by rfl) (hpl : (backTo pos (starEach es X.env)).any (·.1) = false := by rfl) : PE X (.Call (.Name x p) (e :: es) [] pos) (tCall sp [] E t) := by
  obtain ⟨f, fd, h1, h2, h3, h4⟩ := G.ex
  exact pe_call h4 hr hg h1 h2 h3 .nil hx ha hdb he hpl
theorem pe_gf0 (G : Gf X.prog X.w X.K X.mg X.base k x ps sp) (hr : Room k X.A) (hx : Passes (L2.CX X.prog X.w) X E) (hg : Gl X x := by rfl) (hdb : (x == ("__debug__" : Str)) = false := by decide) : PE X (.Call (.Name x p) [] [] pos) (tCall sp [] E tNil) := by
  obtain ⟨f, fd, h1, h2, h3, h4⟩ := G.ex
  exact pe_call0 h4 hr hg h1 h2 h3 .nil hx hdb
theorem pe_mf {pl : Sem Bool} (G : Mf X.prog X.w X.K X.mg X.base k C m ps sp) (hr : Room k X.A) (hx : Passes (L2.CX X.prog X.w) X E) (he : PE X o ta) (ha : PA X (e :: es) t)
    (hst : starEach (e :: es) X.env = (false, eval e X.env) :: starEach es X.env := by rfl) (hpl : (backTo pos (starEach es X.env)).any (·.1) = false := by rfl)
    (ht : eval (.Call (.Attribute o m apos) (e :: es) [] pos) X.env = (do
      let ov ← eval o X.env
      standAt apos.atName
      let (f, first) ← holding [ov] (getMethod ov m pl)
      callWith pos f first (backTo pos (starEach (e :: es) X.env)) (backToKw pos (keywordEach [] X.env))) := by rfl) :
    PE X (.Call (.Attribute o m apos) (e :: es) [] pos) (tMeth C m sp [] E ta t) := by
  obtain ⟨f, fd, h1, h2, h3⟩ := G.ex
  exact pe_meth he G.cl h1 h3 hr h2 .nil hx ha hst hpl ht
theorem pe_mf0 {pl : Sem Bool} (G : Mf X.prog X.w X.K X.mg X.base k C m ps sp) (hr : Room k X.A) (hx : Passes (L2.CX X.prog X.w) X E) (he : PE X o ta)
    (ht : eval (.Call (.Attribute o m apos) [] [] pos) X.env = (do
      let ov ← eval o X.env
      standAt apos.atName
      let (f, first) ← holding [ov] (getMethod ov m pl)
      callWith pos f first (backTo pos (starEach [] X.env)) (backToKw pos (keywordEach [] X.env))) := by rfl) :
    PE X (.Call (.Attribute o m apos) [] [] pos) (tMeth C m sp [] E ta tNil) := by
  obtain ⟨f, fd, h1, h2, h3⟩ := G.ex
  exact pe_meth0 he G.cl h1 h3 hr h2 .nil hx ht
theorem pe_kf (G : Kf X.prog X.w X.K X.mg X.base k C x ps sp) (hr : Room (k + 1) X.A) (hx : Passes (L2.CX X.prog X.w) X E) (ha : PA X (e :: es) t) (hg : Gl X x := by rfl) (hdb : (x == ("__debug__" : Str)) = false := by decide)
    (he : starEach (e :: es) X.env = (false, eval e X.env) :: starEach es X.env := by rfl) (hpl : (backTo pos (starEach es X.env)).any (·.1) = false := by rfl) : PE X (.Call (.Name x p) (e :: es) [] pos) (tMake C sp [] E t) := by
  obtain ⟨f, fd, h1, h2, h3, h4⟩ := G.ex
  exact pe_make h1 h4 hr hg h2 h3 .nil hx ha hdb he hpl
theorem pe_kf0 (G : Kf X.prog X.w X.K X.mg X.base k C x ps sp) (hr : Room (k + 1) X.A) (hx : Passes (L2.CX X.prog X.w) X E) (hg : Gl X x := by rfl) (hdb : (x == ("__debug__" : Str)) = false := by decide) : PE X (.Call (.Name x p) [] [] pos) (tMake C sp [] E tNil) := by
  obtain ⟨f, fd, h1, h2, h3, h4⟩ := G.ex
  exact pe_make0 h1 h4 hr hg h2 h3 .nil hx hdb
theorem pe_gint {i : Int} (h : ∃ t, X.mg x = some (.int i t)) (hg : Gl X x := by rfl) (hd : (x == ("__debug__" : Str)) = false := by decide) : PE X (.Name x pos) (tC (.int i)) := by
  obtain ⟨t, h⟩ := h
  exact pe_glob hg h ⟨t, rfl⟩ hd
theorem pe_gstr {i : Str} (h : ∃ t, X.mg x = some (.str i t)) (hg : Gl X x := by rfl) (hd : (x == ("__debug__" : Str)) = false := by decide) : PE X (.Name x pos) (tC (.str i)) := by
  obtain ⟨t, h⟩ := h
  exact pe_glob hg h ⟨t, rfl⟩ hd
theorem pe_gref {a : Addr} (h : X.mg x = some (.ref a)) (hg : Gl X x := by rfl) (hd : (x == ("__debug__" : Str)) = false := by decide) : PE X (.Name x pos) (tC (.ref a)) := pe_glob hg h rfl hd
/-- raise X('..') -/
theorem ps_raise0 {m : Str} {j : Nat} {p2 pos2 : Pos} (h : Xc X.K X.mg x C) (hc : X.calm = true) (tk : Takes X (fun cls d _ H => E cls d H)) (hg : Gl X x := by rfl) (hdb : (x == ("__debug__" : Str)) = false := by decide) :
    PS X (.Raise (some (.Call (.Name x p) [.Constant (.str m) j p2] [] pos)) none pos2) (tRaise0 C E) :=
  ps_raise hc tk (pmk_own PySem.F.excBase_ValueError h.x h.g h.k (raises_own h.b h.t) hg hdb)
end
end SR
namespace SR
open PySem PySem.Spec PyProof.Rows L2 SM
section
variable {X : Cx}
/-- what a for walks: a list, a tuple, a text -/
def iSeqU (K : PySem.W.Frag) (tl : TE) : TI := fun σ H R => iList K tl σ H R ∨ iTup K tl σ H R ∨ iStr tl σ H R
theorem pi_seqU {tg l : Expr} {tl : TE} (hl : PE X l tl) : PI X tg l (iSeqU X.K tl) := ⟨fun pins s σ H R I h => by
  rcases h with h | h | h
  · exact (pi_list hl).run pins s σ H R I h
  · exact (pi_tup hl).run pins s σ H R I h
  · exact (pi_str hl).run pins s σ H R I h⟩
/-- x in y: a list of any data, a flat list or tuple, a dict, a sign in a text -/
def rInDict (neg : Bool) : R2 := fun y x H Q => ∃ a o, x = .ref a ∧ DGet H a y o ∧ Q (.bl (if neg then !o.isSome else o.isSome)) H
def rInSign (neg : Bool) : R2 := fun x y H Q => ∃ (c : Nat) (z : Str), x = .str ⟨#[c]⟩ ∧ y = .str z ∧ Q (.bl (if neg then !decide (c ∈ z.cps.toList) else decide (c ∈ z.cps.toList))) H
theorem op_inDict (hu : X.A.units + 1 < cLine) : OpR X (compareOp .In) (rInDict false) := by
  intro pins s σ H x y v u Q I rx ry h
  obtain ⟨a, o, rfl, g, q⟩ := h
  cases ry
  exact d_in hu I g rx fun s3 I3 => ⟨.bl o.isSome, H, I3, rfl, q⟩
theorem op_notInDict (hu : X.A.units + 1 < cLine) : OpR X (compareOp .NotIn) (rInDict true) := by
  intro pins s σ H x y v u Q I rx ry h
  obtain ⟨a, o, rfl, g, q⟩ := h
  cases ry
  exact d_notIn hu I g rx fun s3 I3 => ⟨.bl (!o.isSome), H, I3, rfl, q⟩
def rInU (K : PySem.W.Frag) : R2 := fun x y H Q => rInD K x y H Q ∨ rIn K false x y H Q ∨ rInDict false x y H Q ∨ rInSign false x y H Q
def rNotInU (K : PySem.W.Frag) : R2 := fun x y H Q => rNotInD K x y H Q ∨ rIn K true x y H Q ∨ rInDict true x y H Q ∨ rInSign true x y H Q
theorem op_inU (hu : X.A.units + 65 < cLine) : OpR X (compareOp .In) (rInU X.K) := (op_inD hu).or (op_in_seq.or ((op_inDict (by omega)).or op_in_sign))
theorem op_notInU (hu : X.A.units + 65 < cLine) : OpR X (compareOp .NotIn) (rNotInU X.K) := (op_notInD hu).or (op_notIn_seq.or ((op_notInDict (by omega)).or op_notIn_sign))
/-- o[i] = v: a list, a dict -/
def rSetD : TSet := fun o i v H Q => ∃ a H', o = .ref a ∧ DPut H a i v H' ∧ Q H'
theorem set_dict (hu : X.A.units + 1 < cLine) : PSet X rSetD := by
  intro pins s σ H o i v ov iv u Q I ro ri rv h
  obtain ⟨a, H', rfl, g, q⟩ := h
  cases ro
  exact d_setItem hu I g ri rv fun s' I' => ⟨H', I', q⟩
def rSetU (P : Program) (w : World) : TSet := fun o i v H Q => rSetL o i v H Q ∨ rSetD o i v H Q ∨ rSetM P w o i v H Q
theorem set_u (hu : X.A.units + 1 < cLine) : PSet X (rSetU X.prog X.w) := by
  intro pins s σ H o i v ov iv u Q I ro ri rv h
  rcases h with h | h | h
  · exact set_list pins s σ H o i v ov iv u Q I ro ri rv h
  · exact set_dict hu pins s σ H o i v ov iv u Q I ro ri rv h
  · exact set_mix hu pins s σ H o i v ov iv u Q I ro ri rv h
theorem hu65 {k : Nat} {A : Around} (r : Room k A) : A.units + 65 < cLine := by have := r.un; omega
/-- where nothing is handled, a def's exceptions are its own promise's -/
theorem px_of {W : WX} {E : XK} (tk : Takes X W) (h : ∀ cls d σ H, E cls d H → W cls d σ H) : Passes (L2.CX X.prog X.w) X E := passes_call tk h
end
end SR

set_option Elab.async false
set_option linter.all false
set_option maxRecDepth 100000
set_option maxHeartbeats 4000000
/-! Own exceptions that hold a number: their __init__, their raise. -/
namespace SR
open PySem PySem.Spec PyProof.Rows L2 SM
/-- the class above them all -/
structure Xs (K : PySem.W.Frag) (mg : Str → Option Value) (x : Str) (C : Addr) : Prop where
  g : mg x = some (.ref C)
  rd : ClX.CRead K C (.type "type")
  ty : PySem.W.typeIn K (.ref C) = some (.type "type")
  v : PySem.W.findCls K (.ref C) (.type "type") "__init__" = some (.val (.builtin "ValueError.__init__"))
section
variable {X : Cx} {e : Expr} {es : List Expr} {ta : TA} {x : Str} {C : Addr} {p1 p2 pos : Pos}
/-- SpillError.__init__(self, ..) -/
theorem pe_sinit {pl : Sem Bool} (S : Xs X.K X.mg x C) (ha : PA X (e :: es) ta) (hg : Gl X x := by rfl) (hdb : (x == ("__debug__" : Str)) = false := by decide)
    (hc : eval (.Call (.Attribute (.Name x p1) "__init__" p2) (e :: es) [] pos) X.env = (eval (.Name x p1) X.env >>= fun ov => standAt p2.atName >>= fun _ => holding [ov] (getMethod ov "__init__" pl) >>= fun (f, first) =>
      callWith pos f first (backTo pos (starEach (e :: es) X.env)) (backToKw pos (keywordEach [] X.env))) := by rfl)
    (he : starEach (e :: es) X.env = (false, eval e X.env) :: starEach es X.env := by rfl) (hpl : (backTo pos (starEach es X.env)).any (·.1) = false := by rfl) :
    PE X (.Call (.Attribute (.Name x p1) "__init__" p2) (e :: es) [] pos) (tVeI X.K ta) := by
  refine ⟨fun pins s σ H Q I h => ?_⟩
  refine PySem.W.methodCall_KW (ld_glob I hg S.g ?_ hdb) hc
  obtain ⟨m, fr⟩ := I.fr
  refine PySem.W.method_of_cls fr I.ok.mod.kin S.rd.ga (PySem.W.cls_val fr I.ok.mod.kin S.ty S.rd.rd S.v (by decide +kernel) ?_)
  show wpAny _ _ (callWith pos (Value.builtin "ValueError.__init__") [] (backTo pos (starEach (e :: es) X.env)) []) _ _ _
  refine PyProof.Rows.callWith_method1 (thn (ha.run pos pins _ σ H _ (I.tok _) h) fun us s1 ⟨vs, H1, I1, r1, a, C, ws, ev, hl, T, ea, q⟩ => ?_) he hpl
  subst ev
  cases r1 with
  | @cons _ u0 _ ur ra rw' =>
    obtain rfl : u0 = Value.ref a := ra
    exact oinit_ok T I1 ea (by rw [← Paired.length rw', sizeLine_eq]; omega) fun s' J => ⟨.non, H1, J, rfl, q⟩
end
/-- what an __init__ of those does -/
def spXi (f : Str) (K : PySem.W.Frag) (C : Addr) : Sp := fun vs H Q _ => ∃ (b : Addr) (n : Int), vs = [.ref b, .int n] ∧ n.natAbs.log2 < 1000 ∧ OexC K C ∧ PySem.W.findIn K (.ref C) f = some none ∧ H b = some (exo b C none) ∧
  ∀ dx, H dx = none → dx ≠ b → Q .non (upd (upd H dx (exd dx [(f, .int n)])) b (exo b C (some dx)))
/-- the reading of such an __init__ -/
def tXi (w : Str) (f : Str) (K : PySem.W.Frag) : TS := tSeq (tDrop (tVeI K (tCons (tVar 0) (tCons (fun σ H Q => tJs [tC (.str w), tFmt (tVar 1)] Str.empty σ H fun out H1 => Q (.str out) H1) tNil)))) (tOst K f (tVar 0) (tVar 1))
theorem int_len {n : Int} (h : n.natAbs.log2 < 1000) : (Str.ofString (toString n)).length ≤ 1001 := by
  have e := int_text_length_le (k := 1000) (by decide) h
  rw [PySem.ofString_length]
  exact e
theorem pure_xi {w f : Str} {K : PySem.W.Frag} {C : Addr} {N : List Str} (hw : w.length ≤ 20) (vs : List V) (H : Hp) (Q : VK) (E : XK) (h : spXi f K C vs H Q E) : tXi w f K { nx := fun _ H' => Q .non H', rt := Q } (L2.start N vs) H := by
  obtain ⟨b, n, rfl, hn, T, hf, hb, k⟩ := h
  have hs0 : (L2.start N [V.ref b, V.int n])[0]? = some (some (V.ref b)) := rfl
  have hs1 : (L2.start N [V.ref b, V.int n])[1]? = some (some (V.int n)) := rfl
  have h0 : (Str.empty ++ w : Str).length ≤ 20 := by
    rw [Str.length_append]
    show Str.empty.length + w.length ≤ 20
    have : Str.empty.length = 0 := rfl
    omega
  refine ⟨_, hs0, w, rfl, Nat.le_trans h0 (by decide : 20 ≤ sizeLine), _, hs1, .inr ⟨n, rfl, by omega, _, rfl, ?_, b, C, [_], rfl, by simp, T, hb, _, hs1, _, hs0, b, C, rfl, T, hf, .inl ⟨hb, k⟩⟩⟩
  rw [Str.length_append]
  have := int_len hn
  exact Nat.le_trans (Nat.add_le_add h0 this) (by decide : 20 + 1001 ≤ sizeLine)
/-- such a class, its __init__ keeping its promise -/
structure Xf (P : Program) (w : World) (K : PySem.W.Frag) (mg : Str → Option Value) (base : Heap) (k : Nat) (x : Str) (C : Addr) (f : Str) : Prop where
  g : mg x = some (.ref C)
  o : OexC K C
  n : PySem.W.findIn K (.ref C) f = some none
  i : ∃ fI fd p, PySem.W.findIn K (.ref C) "__init__" = some (some (.ref fI)) ∧ PySem.W.typeIn K (.ref fI) = some (.type "function") ∧ Binds K fd ["self", p] [] ∧ FnOk P w K mg base (L2.CX P w) k fI fd ["self", p] (spXi f K C)
/-- raise X(n) -/
def tRaiseF (C : Addr) (f : Str) (E : XK) (ta : TA) : TS := fun _ σ H => ta σ H fun vs H1 => ∃ n : Int, vs = [.int n] ∧ n.natAbs.log2 < 1000 ∧ ∀ d H2, Same H1 H2 → H1 d = none → H2 d = some (.xd [(f, .int n)]) → E (.ref C) (some d) H2
section
variable {X : Cx} {e : Expr} {ta : TA} {x f : Str} {C : Addr} {E : XK} {k : Nat} {p pos pos2 : Pos}
theorem ps_mono {s : Stmt} {t t' : TS} (h : PS X s t) (m : ∀ D σ H, t' D σ H → t D σ H) : PS X s t' := ⟨fun pins s σ H D I q => h.run pins s σ H D I (m D σ H q)⟩
theorem ps_raiseF (h : Xf X.prog X.w X.K X.mg X.base k x C f) (hr : Room (k + 1) X.A) (hc : X.calm = true) (tk : Takes X (fun cls d _ H => E cls d H)) (ha : PA X [e] ta) (mono : ∀ σ H (Q R : List V → Hp → Prop), (∀ vs H, Q vs H → R vs H) → ta σ H Q → ta σ H R) (hg : Gl X x := by rfl) (hdb : (x == ("__debug__" : Str)) = false := by decide)
    (he : starEach [e] X.env = (false, eval e X.env) :: starEach [] X.env := by rfl) (hpl : (backTo pos (starEach [] X.env)).any (·.1) = false := by rfl) : PS X (.Raise (some (.Call (.Name x p) [e] [] pos)) none pos2) (tRaiseF C f E ta) := by
  obtain ⟨fI, fd, q, h1, h2, h3, h4⟩ := h.i
  have px : Passes (L2.CX X.prog X.w) X (fun _ _ _ => False) := px_of tk fun _ _ _ _ z => z.elim
  refine ps_mono (ps_raise hc tk (pmk_oex h.o h1 h2 h4 hr h3 .nil px hg h.g ha hdb he hpl)) fun D σ H t => mono σ H _ _ (fun vs H1 z => ?_) t
  obtain ⟨n, rfl, hn, z⟩ := z
  refine ⟨by simp, fun b hb => ⟨b, n, rfl, hn, h.o, h.n, upd_same, fun dx hx ne => ⟨rfl, dx, [(f, .int n)], upd_same, ?_, ?_, ?_⟩⟩⟩
  · rw [upd_ne ne, upd_same]
  · rw [upd_ne ne] at hx
    exact hx
  · have h1 : H1 dx = none := by
      rw [upd_ne ne] at hx
      exact hx
    refine z dx _ (fun c o hc => ?_) h1 upd_same
    rw [upd_ne (ne_of_none hc h1), del_ne (ne_of_none hc hb), upd_ne (ne_of_none hc hb), upd_ne (ne_of_none hc h1), upd_ne (ne_of_none hc hb)]
    exact hc
end
/-! ### sum, dict -/
def rDictU (K : PySem.W.Frag) : List V → Hp → VK → Prop := fun xs H Q => ∃ (a : Addr) (ps : List Addr) (kvs : List (Key × V)), xs = [.ref a] ∧ SqL K H a (ps.map V.ref) ∧ Paired (fun p kv => SqT K H p [kV kv.1, kv.2]) ps kvs ∧ ∀ p, H p = none → Q (.ref p) (upd H p (.dK (mergeK [] kvs)))
theorem call_dictU {X : Cx} (hc : X.calm = true) : CallR X (.type "dict") (rDictU X.K) := call_dictP hc
end SR

set_option Elab.async false
set_option linter.all false
set_option maxRecDepth 100000
set_option maxHeartbeats 4000000
/-! d.update(e). -/
namespace SR
open PySem PySem.Spec PyProof.Rows L2 SM
def tDUpd (td ty : TE) : TE := fun σ H Q => td σ H fun x H1 => ∃ a, x = .ref a ∧ IsD H1 a ∧ ty σ H1 fun y H2 => ∃ b kvs more, y = .ref b ∧ a ≠ b ∧ H2 a = some (.dK kvs) ∧ H2 b = some (.dK more) ∧ kvs.length + more.length ≤ 1000 ∧ Q .non (upd H2 a (.dK (mergeK kvs more)))
section
variable {X : Cx} {pins : List (Addr × Obj)} {σ : L2.St} {H : Hp} {s : Shared} {a b : Addr} {kvs more : List (Key × V)} {A : Around} {E : Value → Shared → Prop}
theorem d_update {Q : Value → Shared → Prop} (I : Inv X pins σ H s) (ea : H a = some (.dK kvs)) (eb : H b = some (.dK more)) (ne : a ≠ b) (hz : kvs.length + more.length ≤ 1000)
    (h : ∀ s', Inv X pins σ (upd H a (.dK (mergeK kvs more))) s' → Q .none s') : wpAny (model X.prog X.w) A (call (.builtin "dict.update") [.ref a, .ref b]) Q E s := by
  obtain ⟨z1, d1, vs, rel, dd⟩ := dk_of I.hok ea
  obtain ⟨z2, d2, ws, rel2, dd2⟩ := dk_of I.hok eb
  have zz : (1000 : Nat) ≤ sizeLine := by decide
  refine call_meetsIn PySem.F.slot_dict_update dd.typeIs PySem.F.entry_dict_update (PySem.F.args_dict_update_2 _ _) (meets_dict_update (mixKind X.prog X.w) a b ne d2)
    ⟨vs, ws, dd, dd2, by rw [← rel.length, ← rel2.length]; omega, fun h' dd' _ hs => h _ ?_⟩
  have he : ∃ q, h'.get? a = some q := let ⟨q, _, _, hq, _⟩ := dd'; ⟨q, hq⟩
  have hl := length_mergeK more kvs
  exact d_write I (by rw [ea]; exact True.intro) hs he (dk_new (by omega) d1 (KV.merge rel2 rel) dd')
variable {o e : Expr} {apos cpos : Pos} {td ty : TE}
theorem pe_dupd (ho : PE X o td) (he : PE X e ty) (m : M1 X o "update" apos e cpos) : PE X (.Call (.Attribute o "update" apos) [e] [] cpos) (tDUpd td ty) := by
  refine ⟨fun pins s σ H Q I h => ?_⟩
  refine wpAny_Call_method m.base m.few m.line PySem.F.plainAttrs_dict PySem.F.slot_dict_update PySem.F.type_dict_update (thn (ho.run pins s σ H _ I h) fun u s1 ⟨x, H1, I1, rx, a, ex, d, q1⟩ => ?_)
  subst ex
  cases (show u = Value.ref a from rx)
  obtain ⟨t1, t2, _⟩ := isD_at I1 d
  refine ⟨t1, t2, ?_⟩
  rw [m.trees]
  refine Calls.callWith_builtin rfl (Calls.evalArgs_plain (Calls.spliced_cons (thn (he.run pins s1 σ H1 _ I1 q1) fun iv s2 ⟨y, H2, I2, ry, b, kvs, more, ey, ne, ea, eb, hz, q2⟩ => Calls.spliced_nil ?_)))
  subst ey
  cases (show iv = Value.ref b from ry)
  exact d_update I2 ea eb ne hz fun s3 I3 => ⟨.non, _, I3, rfl, q2⟩
end
end SR

set_option Elab.async false
set_option linter.all false
set_option maxRecDepth 100000
set_option maxHeartbeats 4000000
/-! Data as trees over the abstract heap; what an expression that writes nothing comes to. -/
namespace SD
open PySem L2 SM SR
abbrev D := PyData
/-- a value as a tree: lists and tuples that are tracked -/
inductive Dt (G : Hp) : V → D → Prop
  | non : Dt G .non .none
  | bl (b : Bool) : Dt G (.bl b) (.bool b)
  | int (i : Int) : Dt G (.int i) (.int i)
  | str (x : Str) : Dt G (.str x) (.str x)
  | lst {a : Addr} {xs : List V} {ds : List D} : G a = some (.lst xs) → Paired (Dt G) xs ds → Dt G (.ref a) (.list ds)
  | tup {a : Addr} {xs : List V} {ds : List D} : G a = some (.tup xs) → Paired (Dt G) xs ds → Dt G (.ref a) (.tuple ds)
abbrev Dts (G : Hp) : List V → List D → Prop := Paired (Dt G)
def isSeq : HO → Bool
  | .lst _ => true
  | .tup _ => true
  | _ => false
/-- all lists and tuples stay -/
def SameS (G G' : Hp) : Prop := ∀ a o, G a = some o → isSeq o = true → G' a = some o
theorem Same.s {G G' : Hp} (e : Same G G') : SameS G G' := fun a o h _ => e a o h
theorem Dt.mono {G G' : Hp} (e : SameS G G') : ∀ {d : D} {v : V}, Dt G v d → Dt G' v d := by
  intro d v h
  induction h using Dt.rec (motive_2 := fun xs ds _ => Paired (Dt G') xs ds) with
  | non => exact .non
  | bl b => exact .bl b
  | int i => exact .int i
  | str x => exact .str x
  | lst h1 h2 ih => exact .lst (e _ _ h1 rfl) ih
  | tup h1 h2 ih => exact .tup (e _ _ h1 rfl) ih
  | nil => exact .nil
  | cons h1 h2 i1 i2 => exact .cons i1 i2
theorem Dts.mono {G G' : Hp} (e : SameS G G') {vs : List V} {ds : List D} (h : Dts G vs ds) : Dts G' vs ds := Paired.mapP h fun _ _ z => z.mono e
theorem Dts.len {G : Hp} {vs : List V} {ds : List D} (h : Dts G vs ds) : vs.length = ds.length := by
  induction h with
  | nil => rfl
  | cons _ _ ih => rw [List.length_cons, List.length_cons, ih]
theorem Dts.get {G : Hp} : ∀ {vs : List V} {ds : List D} {i : Nat} {d : D}, Dts G vs ds → ds[i]? = some d → ∃ v, vs[i]? = some v ∧ Dt G v d
  | _, _, i, _, .nil, e => by simp at e
  | _, _, 0, _, .cons r _, e => by
    simp at e
    subst e
    exact ⟨_, rfl, r⟩
  | _, _, i + 1, d, .cons _ t, e => by
    obtain ⟨v, h1, h2⟩ := Dts.get (i := i) (d := d) t (by simpa using e)
    exact ⟨v, by simpa using h1, h2⟩
theorem Dts.app {G : Hp} : ∀ {vs us : List V} {ds es : List D}, Dts G vs ds → Dts G us es → Dts G (vs ++ us) (ds ++ es)
  | _, _, _, _, .nil, s => s
  | _, _, _, _, .cons r t, s => .cons r (Dts.app t s)
theorem Dts.take {G : Hp} : ∀ {vs : List V} {ds : List D} (n : Nat), Dts G vs ds → Dts G (vs.take n) (ds.take n)
  | _, _, 0, _ => .nil
  | _, _, _ + 1, .nil => .nil
  | _, _, n + 1, .cons r t => .cons r (Dts.take n t)
theorem Dts.drop {G : Hp} : ∀ {vs : List V} {ds : List D} (n : Nat), Dts G vs ds → Dts G (vs.drop n) (ds.drop n)
  | _, _, 0, r => r
  | _, _, _ + 1, .nil => .nil
  | _, _, n + 1, .cons _ t => Dts.drop n t
theorem Dts.set {G : Hp} {x : V} {u : D} (r : Dt G x u) : ∀ {xs : List V} {us : List D} (i : Nat), Dts G xs us → Dts G (xs.set i x) (us.set i u)
  | _, _, _, .nil => .nil
  | _, _, 0, .cons _ t => .cons r t
  | _, _, i + 1, .cons q t => .cons q (Dts.set r i t)
theorem Dts.repl {G : Hp} {vs : List V} {ds : List D} (h : Dts G vs ds) : ∀ k : Nat, Dts G (List.replicate k vs).flatten (List.replicate k ds).flatten
  | 0 => .nil
  | k + 1 => by
    rw [List.replicate_succ, List.replicate_succ, List.flatten_cons, List.flatten_cons]
    exact h.app (Dts.repl h k)
/-- the value of a tree is one -/
theorem Dt.dp {K : PySem.W.Frag} {G H : Hp} (e : SameS G H) : ∀ {d : D} {v : V}, Dt G v d → Dp K H v d := by
  intro d v h
  induction h using Dt.rec (motive_2 := fun xs ds _ => DpAll K H xs ds) with
  | non => exact .non
  | bl b => exact .bl b
  | int i => exact .int i
  | str x => exact .str x
  | lst h1 h2 ih => exact .lst (SqL.of (e _ _ h1 rfl)) ih
  | tup h1 h2 ih => exact .tup (SqT.of (e _ _ h1 rfl)) ih
  | nil => exact .nil
  | cons h1 h2 i1 i2 => exact .cons i1 i2
theorem Dt.inj {G : Hp} : ∀ {d e : D} {v : V}, Dt G v d → Dt G v e → d = e := by
  intro d e v h
  induction h using Dt.rec (motive_2 := fun xs ds _ => ∀ es, Paired (Dt G) xs es → ds = es) generalizing e with
  | non => intro h; cases h; rfl
  | bl b => intro h; cases h; rfl
  | int i => intro h; cases h; rfl
  | str x => intro h; cases h; rfl
  | lst h1 h2 ih =>
    intro h
    cases h with
    | lst g1 g2 =>
      rw [h1] at g1
      cases g1
      rw [ih _ g2]
    | tup g1 g2 =>
      rw [h1] at g1
      cases g1
  | tup h1 h2 ih =>
    intro h
    cases h with
    | tup g1 g2 =>
      rw [h1] at g1
      cases g1
      rw [ih _ g2]
    | lst g1 g2 =>
      rw [h1] at g1
      cases g1
  | nil =>
    rename_i h
    cases h
    rfl
  | cons h1 h2 i1 i2 =>
    rename_i h
    cases h with
    | cons g1 g2 => rw [i1 g1, i2 _ g2]
/-! ### hidden places -/
/-- places -/
def Ads := Addr → Prop
instance : Membership Addr Ads := ⟨fun M a => M a⟩
instance : HAppend Ads Ads Ads := ⟨fun M N a => a ∈ M ∨ a ∈ N⟩
instance : HAppend Ads (List Addr) Ads := ⟨fun M N a => a ∈ M ∨ a ∈ N⟩
instance : HAppend (List Addr) Ads Ads := ⟨fun M N a => a ∈ M ∨ a ∈ N⟩
open Classical in
noncomputable def hid (M : Ads) (H : Hp) : Hp := fun a => if a ∈ M then none else H a
def Lv (M : Ads) (H : Hp) : Prop := ∀ a ∈ M, H a ≠ none
section
variable {M N : Ads} {H H1 H2 : Hp} {a p : Addr} {o : HO}
theorem hid_out (h : a ∉ M) : hid M H a = H a := if_neg h
theorem hid_in (h : a ∈ M) : hid M H a = none := if_pos h
theorem hid_some (h : hid M H a = some o) : a ∉ M ∧ H a = some o := by
  by_cases m : a ∈ M
  · rw [hid_in m] at h
    cases h
  · exact ⟨m, by rw [← hid_out (H := H) m]; exact h⟩
theorem hid_le : Same (hid M H) H := fun a o h => (hid_some h).2
theorem Same.hid (e : Same H H1) : Same (hid M H) (SD.hid M H1) := fun a o h => by
  obtain ⟨m, h⟩ := hid_some h
  rw [hid_out m]
  exact e a o h
theorem SameS.refl (H : Hp) : SameS H H := fun _ _ h _ => h
theorem SameS.trans (a : SameS H H1) (b : SameS H1 H2) : SameS H H2 := fun c o h z => b c o (a c o h z) z
theorem Lv.mono (e : Same H H1) (h : Lv M H) : Lv M H1 := fun a m z => by
  cases q : H a with
  | none => exact h a m q
  | some o =>
    rw [e a o q] at z
    cases z
theorem Lv.out (h : Lv M H) (n : H p = none) : p ∉ M := fun m => h p m n
theorem new_same (n : H p = none) : Same H (upd H p o) := fun b u e => by
  rw [upd_ne (ne_of_none e n)]
  exact e
theorem new_at (h : Lv M H) (n : H p = none) : hid M (upd H p o) p = some o := by
  rw [hid_out (h.out n), upd_same]
/-- fewer are hidden -/
theorem hid_sub (h : ∀ a ∈ M, a ∈ N) : Same (hid N H) (hid M H) := fun b o e => by
  obtain ⟨m, e⟩ := hid_some e
  rw [hid_out fun z => m (h b z)]
  exact e
theorem hid_upd (h : a ∈ M) : hid M (upd H a o) = hid M H := funext fun b => by
  by_cases m : b ∈ M
  · rw [hid_in m, hid_in m]
  · rw [hid_out m, hid_out m, upd_ne (b := b) (a := a) fun z => m (by rw [z]; exact h)]
end
/-- nothing but A is changed -/
structure But (A : List Addr) (H H' : Hp) : Prop where
  keep : ∀ b o, b ∉ A → H b = some o → H' b = some o
  live : ∀ b, H b ≠ none → H' b ≠ none
theorem But.refl (A : List Addr) (H : Hp) : But A H H := ⟨fun _ _ _ h => h, fun _ h => h⟩
theorem But.trans {A : List Addr} {H H1 H2 : Hp} (x : But A H H1) (y : But A H1 H2) : But A H H2 := ⟨fun b o n h => y.keep b o n (x.keep b o n h), fun b h => y.live b (x.live b h)⟩
theorem But.of {A : List Addr} {H H' : Hp} (e : Same H H') : But A H H' := ⟨fun b o _ h => e b o h, fun b h z => by
  cases q : H b with
  | none => exact h q
  | some o =>
    rw [e b o q] at z
    cases z⟩
theorem But.upd {A : List Addr} {H : Hp} {b : Addr} {o : HO} (h : b ∈ A) : But A H (L2.upd H b o) := ⟨fun c u n e => by
  rw [upd_ne (fun z => n (by rw [z]; exact h))]
  exact e, fun c h z => by
  by_cases q : c = b
  · rw [q, upd_same] at z
    cases z
  · rw [upd_ne q] at z
    exact h z⟩
theorem But.free {A : List Addr} {H H' : Hp} {b : Addr} (x : But A H H') (n : H' b = none) : H b = none := by
  cases q : H b with
  | none => rfl
  | some o => exact absurd n (x.live b (by rw [q]; nofun))
theorem But.mono {A B : List Addr} {H H' : Hp} (x : But A H H') (h : ∀ b ∈ A, b ∈ B) : But B H H' := ⟨fun b o n => x.keep b o fun z => n (h b z), x.live⟩
/-- none of A is a list or a tuple -/
def NoSeq (A : List Addr) (H : Hp) : Prop := ∀ b ∈ A, ∀ o, H b = some o → isSeq o = false
theorem But.s {A : List Addr} {M : Ads} {H H' : Hp} (x : But A H H') (n : NoSeq A H) : SameS (hid M H) (hid M H') := fun b o h z => by
  obtain ⟨m, h⟩ := hid_some h
  refine (hid_out m).trans (x.keep b o (fun y => ?_) h)
  have := n b y o h
  rw [this] at z
  cases z
theorem But.lv {A : List Addr} {M : Ads} {H H' : Hp} (x : But A H H') (h : Lv M H) : Lv M H' := fun b m => x.live b (h b m)
theorem But.same {H H' : Hp} (x : But [] H H') : Same H H' := fun b o h => x.keep b o (by simp) h
theorem hid_noseq {M : Ads} {A : List Addr} {H : Hp} (n : NoSeq A H) : SameS (hid M H) (hid (M ++ A) H) := fun b o h z => by
  obtain ⟨m, h⟩ := hid_some h
  refine (hid_out fun y => Or.elim y m fun y => ?_).trans h
  have := n b y o h
  rw [this] at z
  cases z
/-! ### what is held -/
/-- something that stays as long as its own places, all tuples and what is seen stay; fp: its own places -/
structure Iv where
  fp : List Addr
  p : Ads → Hp → Prop
  up : ∀ {M N : Ads} {H H' : Hp} (Z : List Addr), (∀ b o, b ∉ Z → H b = some o → H' b = some o) → (∀ z ∈ Z, z ∉ fp ∧ (∀ xs, H z ≠ some (.tup xs)) ∧ ∀ o u, H z ≠ some (.frz o u)) → SameS (hid M H) (hid N H') → p M H → p N H'
  nol : ∀ {M : Ads} {H : Hp} (A : Ads), (∀ l ∈ A, l ∉ fp ∧ ∃ xs, H l = some (.lst xs)) → p M H → p (M ++ A) H
def Iv.nil : Iv := ⟨[], fun _ _ => True, fun _ _ _ _ _ => trivial, fun _ _ _ => trivial⟩
theorem Iv.same {Φ : Iv} {M N : Ads} {H H' : Hp} (e : Same H H') (s : SameS (hid M H) (hid N H')) (h : Φ.p M H) : Φ.p N H' := Φ.up [] (fun b o _ h => e b o h) (fun z hz => by cases hz) s h
/-- both -/
def Iv.and (Φ Ψ : Iv) : Iv := ⟨Φ.fp ++ Ψ.fp, fun M H => Φ.p M H ∧ Ψ.p M H, fun Z h1 h2 h3 h4 =>
  ⟨Φ.up Z h1 (fun z hz => ⟨fun y => (h2 z hz).1 (List.mem_append_left _ y), (h2 z hz).2⟩) h3 h4.1, Ψ.up Z h1 (fun z hz => ⟨fun y => (h2 z hz).1 (List.mem_append_right _ y), (h2 z hz).2⟩) h3 h4.2⟩,
  fun A h1 h2 => ⟨Φ.nol A (fun l hl => ⟨fun y => (h1 l hl).1 (List.mem_append_left _ y), (h1 l hl).2⟩) h2.1, Ψ.nol A (fun l hl => ⟨fun y => (h1 l hl).1 (List.mem_append_right _ y), (h1 l hl).2⟩) h2.2⟩⟩
/-- no lists in it -/
def noL : D → Bool
  | .list _ => false
  | .tuple ds => noLs ds
  | .dict _ => false
  | _ => true
where noLs : List D → Bool
  | [] => true
  | d :: ds => noL d && noLs ds
theorem Dt.nol {G G' : Hp} (h : ∀ a xs, G a = some (.tup xs) → G' a = some (.tup xs)) : ∀ {d : D} {v : V}, Dt G v d → noL d = true → Dt G' v d := by
  intro d v hd
  induction hd using Dt.rec (motive_2 := fun xs ds _ => noL.noLs ds = true → Paired (Dt G') xs ds) with
  | non => exact fun _ => .non
  | bl b => exact fun _ => .bl b
  | int i => exact fun _ => .int i
  | str x => exact fun _ => .str x
  | lst h1 h2 ih =>
    intro z
    simp [noL] at z
  | tup h1 h2 ih =>
    intro z
    exact .tup (h _ _ h1) (ih (by simpa [noL] using z))
  | nil => exact .nil
  | cons h1 h2 i1 i2 =>
    rename_i z
    simp only [noL.noLs, Bool.and_eq_true] at z
    exact .cons (i1 z.1) (i2 z.2)
/-! ### trees whose lists are one's own -/
def noLst : Option HO → Option HO
  | some (.lst _) => none
  | o => o
open Classical in
noncomputable def tgv (A : List Addr) (N : Ads) (H : Hp) : Hp := fun a => if a ∈ A then H a else if a ∈ N then none else noLst (H a)
theorem tgv_mono {A : List Addr} {N N2 : Ads} {H H2 : Hp} (k : ∀ l ∈ A, ∀ o, H l = some o → H2 l = some o) (s : SameS (hid N H) (hid N2 H2)) : SameS (tgv A N H) (tgv A N2 H2) := fun a o h z => by
  unfold tgv at *
  by_cases m : a ∈ A
  · rw [if_pos m] at h ⊢
    exact k a m o h
  · rw [if_neg m] at h ⊢
    by_cases n : a ∈ N
    · rw [if_pos n] at h
      cases h
    · rw [if_neg n] at h
      have hH : H a = some o ∧ ∀ xs, o ≠ .lst xs := by
        cases q : H a with
        | none =>
          rw [q] at h
          cases h
        | some u =>
          rw [q] at h
          cases u <;> first | (cases h; exact ⟨rfl, nofun⟩) | cases h
      have := s a o ((hid_out n).trans hH.1) z
      obtain ⟨n2, e2⟩ := hid_some this
      rw [if_neg n2, e2]
      cases o <;> first | rfl | exact absurd rfl (hH.2 _)
/-- .. as a tree of all -/
theorem tgv_le {A : List Addr} {N : Ads} {H : Hp} : Same (tgv A N H) (hid (fun a => a ∈ N ∧ a ∉ A) H) := fun a o h => by
  unfold tgv at h
  by_cases m : a ∈ A
  · rw [if_pos m] at h
    exact (hid_out (show ¬ (a ∈ N ∧ a ∉ A) from fun z => z.2 m)).trans h
  · rw [if_neg m] at h
    by_cases n : a ∈ N
    · rw [if_pos n] at h
      cases h
    · rw [if_neg n] at h
      refine (hid_out (show ¬ (a ∈ N ∧ a ∉ A) from fun z => n z.1)).trans ?_
      cases q : H a with
      | none =>
        rw [q] at h
        cases h
      | some u =>
        rw [q] at h
        cases u <;> first | exact h | cases h
theorem tgv_list {A : List Addr} {N : Ads} {H : Hp} {l : Addr} {xs : List V} (h : tgv A N H l = some (.lst xs)) : l ∈ A ∧ H l = some (.lst xs) := by
  unfold tgv at h
  by_cases m : l ∈ A
  · rw [if_pos m] at h
    exact ⟨m, h⟩
  · rw [if_neg m] at h
    split at h
    · cases h
    · cases q : H l with
      | none =>
        rw [q] at h
        cases h
      | some u =>
        rw [q] at h
        cases u <;> cases h
/-- the lists of a tree -/
theorem Dt.lists {N : Ads} {H : Hp} : ∀ {d : D} {v : V}, Dt (hid N H) v d → ∃ A : List Addr, A.Nodup ∧ (∀ l ∈ A, l ∉ N ∧ ∃ xs, H l = some (.lst xs)) ∧ ∀ B : List Addr, (∀ l ∈ A, l ∈ B) → Dt (tgv B N H) v d := by
  intro d v h
  have tup : ∀ {a : Addr} {xs : List V} (B : List Addr), hid N H a = some (.tup xs) → tgv B N H a = some (.tup xs) := fun {a xs} B h => by
    obtain ⟨m, h⟩ := hid_some h
    unfold tgv
    by_cases q : a ∈ B
    · rw [if_pos q]
      exact h
    · rw [if_neg q, if_neg m, h]
      rfl
  induction h using Dt.rec (motive_2 := fun xs ds _ => ∃ A : List Addr, A.Nodup ∧ (∀ l ∈ A, l ∉ N ∧ ∃ xs, H l = some (.lst xs)) ∧ ∀ B : List Addr, (∀ l ∈ A, l ∈ B) → Paired (Dt (tgv B N H)) xs ds) with
  | non => exact ⟨[], List.nodup_nil, nofun, fun _ _ => .non⟩
  | bl b => exact ⟨[], List.nodup_nil, nofun, fun _ _ => .bl b⟩
  | int i => exact ⟨[], List.nodup_nil, nofun, fun _ _ => .int i⟩
  | str x => exact ⟨[], List.nodup_nil, nofun, fun _ _ => .str x⟩
  | @lst a xs ds h1 h2 ih =>
    obtain ⟨A, nd, hA, k⟩ := ih
    obtain ⟨m, e⟩ := hid_some h1
    have at_ : ∀ B : List Addr, a ∈ B → tgv B N H a = some (.lst xs) := fun B hb => by
      unfold tgv
      rw [if_pos hb]
      exact e
    by_cases ha : a ∈ A
    · exact ⟨A, nd, hA, fun B hB => .lst (at_ B (hB a ha)) (k B hB)⟩
    · refine ⟨a :: A, List.nodup_cons.mpr ⟨ha, nd⟩, fun l hl => ?_, fun B hB => .lst (at_ B (hB a List.mem_cons_self)) (k B fun l hl => hB l (List.mem_cons_of_mem _ hl))⟩
      rcases List.mem_cons.mp hl with rfl | hl
      · exact ⟨m, _, e⟩
      · exact hA l hl
  | tup h1 h2 ih =>
    obtain ⟨A, nd, hA, k⟩ := ih
    exact ⟨A, nd, hA, fun B hB => .tup (tup B h1) (k B hB)⟩
  | nil => exact ⟨[], List.nodup_nil, nofun, fun _ _ => .nil⟩
  | cons h1 h2 i1 i2 =>
    obtain ⟨A1, nd1, hA1, k1⟩ := i1
    obtain ⟨A2, nd2, hA2, k2⟩ := i2
    obtain ⟨A3, nd3, h3, h4⟩ : ∃ A3 : List Addr, A3.Nodup ∧ (∀ l ∈ A3, l ∈ A1 ∨ l ∈ A2) ∧ ∀ l, l ∈ A1 ∨ l ∈ A2 → l ∈ A3 := by
      clear k1 k2 hA1 hA2
      induction A1 with
      | nil => exact ⟨A2, nd2, fun l h => .inr h, fun l h => h.elim nofun id⟩
      | cons x A1 ih =>
        obtain ⟨A3, nd3, h3, h4⟩ := ih (List.nodup_cons.mp nd1).2
        by_cases hx : x ∈ A3
        · refine ⟨A3, nd3, fun l hl => (h3 l hl).imp (List.mem_cons_of_mem _) id, fun l hl => ?_⟩
          rcases hl with hl | hl
          · rcases List.mem_cons.mp hl with rfl | hl
            · exact hx
            · exact h4 l (.inl hl)
          · exact h4 l (.inr hl)
        · refine ⟨x :: A3, List.nodup_cons.mpr ⟨hx, nd3⟩, fun l hl => ?_, fun l hl => ?_⟩
          · rcases List.mem_cons.mp hl with rfl | hl
            · exact .inl List.mem_cons_self
            · exact (h3 l hl).imp (List.mem_cons_of_mem _) id
          · rcases hl with hl | hl
            · rcases List.mem_cons.mp hl with rfl | hl
              · exact List.mem_cons_self
              · exact List.mem_cons_of_mem _ (h4 l (.inl hl))
            · exact List.mem_cons_of_mem _ (h4 l (.inr hl))
    exact ⟨A3, nd3, fun l hl => (h3 l hl).elim (hA1 l) (hA2 l), fun B hB => .cons (k1 B fun l hl => hB l (h4 l (.inl hl))) (k2 B fun l hl => hB l (h4 l (.inr hl)))⟩
end SD

set_option Elab.async false
set_option linter.all false
set_option maxRecDepth 100000
set_option maxHeartbeats 4000000
/-! What a def does that writes nothing of its caller's, told over trees: H0 is the heap at its entry, M what is hidden of it; lists of its own are owned by a name. -/
namespace SE
open PySem L2 SM SR SD
/-- what is known of a name -/
inductive Sl where
  | no
  | dat (d : D)
  | val (v : V)
  | own (ds : List D)
  | tre (d : D)
abbrev Gm := List Sl
abbrev Lo := List (Nat × Addr)
/-- a def's place: what it may change, what is hidden, the heap at its entry -/
structure Wd where
  A : List Addr
  M : Ads
  H0 : Hp
abbrev fnn (X : Wd) (Φ : Iv) : Ads := HAppend.hAppend X.M Φ.fp
abbrev hdn (X : Wd) (Φ : Iv) (L : Lo) : Ads := HAppend.hAppend (L.map (·.2)) (fnn X Φ)
noncomputable abbrev hd (X : Wd) (Φ : Iv) (L : Lo) (H : Hp) : Hp := hid (hdn X Φ L) H
structure Cur (X : Wd) (Φ : Iv) (L : Lo) (H : Hp) : Prop where
  but : But X.A X.H0 H
  lv : Lv (hdn X Φ L) H
  new : ∀ p ∈ L, X.H0 p.2 = none
  om : ∀ p ∈ L, p.2 ∉ X.M
  nd : (L.map (·.2)).Nodup
  dj : ∀ p ∈ L, p.2 ∉ Φ.fp
  at_ : Φ.p (hdn X Φ L) H
def SlOk (X : Wd) (Φ : Iv) (L : Lo) (H : Hp) (i : Nat) (x : Option (Option V)) : Sl → Prop
  | .no => True
  | .dat d => ∃ v, x = some (some v) ∧ Dt (hd X Φ L H) v d
  | .val v => x = some (some v)
  | .own ds => ∃ l vs, x = some (some (.ref l)) ∧ (i, l) ∈ L ∧ H l = some (.lst vs) ∧ Dts (hd X Φ L H) vs ds
  | .tre d => ∃ v A, x = some (some v) ∧ (∀ l ∈ A, (i, l) ∈ L) ∧ (∀ l ∈ A, ∃ xs, H l = some (.lst xs)) ∧ Dt (tgv A (hdn X Φ L) H) v d
structure EnvD (X : Wd) (Φ : Iv) (L : Lo) (H : Hp) (σ : L2.St) (Γ : Gm) : Prop where
  len : Γ.length = σ.length
  ok : ∀ i s, Γ[i]? = some s → SlOk X Φ L H i σ[i]? s
section
variable {X : Wd} {Φ : Iv} {H H1 H2 : Hp} {L L1 : Lo} {σ : L2.St} {Γ Γ' : Gm} {v : V} {d e : D} {i j : Nat}
theorem Cur.up (c : Cur X Φ L H) (e : Same H H1) : Cur X Φ L H1 := ⟨c.but.trans (But.of e), c.lv.mono e, c.new, c.om, c.nd, c.dj, Iv.same e (Same.s (Same.hid e)) c.at_⟩
theorem Cur.out (c : Cur X Φ L H) {p : Nat × Addr} (h : p ∈ L) : p.2 ∉ fnn X Φ := fun z => Or.elim z (c.om p h) (c.dj p h)
theorem SlOk.up (e : Same H H1) {x : Option (Option V)} : ∀ {s : Sl}, SlOk X Φ L H i x s → SlOk X Φ L H1 i x s
  | .no, _ => trivial
  | .dat d, ⟨v, h1, h2⟩ => ⟨v, h1, h2.mono (Same.s (Same.hid e))⟩
  | .val v, h => h
  | .own ds, ⟨l, vs, h1, h2, h3, h4⟩ => ⟨l, vs, h1, h2, e _ _ h3, h4.mono (Same.s (Same.hid e))⟩
  | .tre d, ⟨v, A, h1, h2, h4, h3⟩ => ⟨v, A, h1, h2, fun l hl => (h4 l hl).imp fun _ z => e _ _ z, h3.mono (tgv_mono (fun l _ o h => e l o h) (Same.s (Same.hid e)))⟩
theorem EnvD.up (g : EnvD X Φ L H σ Γ) (e : Same H H1) : EnvD X Φ L H1 σ Γ := ⟨g.len, fun i s h => (g.ok i s h).up e⟩
theorem EnvD.set (g : EnvD X Φ L H σ Γ) {s : Sl} (h : SlOk X Φ L H i (some (some v)) s) : EnvD X Φ L H (σ.set i (some v)) (Γ.set i s) := by
  refine ⟨by simp [g.len], fun j t e => ?_⟩
  by_cases hij : i = j
  · subst hij
    have hi : i < Γ.length := by
      have := (List.getElem?_eq_some_iff.mp e).1
      simpa using this
    rw [List.getElem?_set_self hi] at e
    cases e
    rw [List.getElem?_set_self (by rw [← g.len]; exact hi)]
    exact h
  · rw [List.getElem?_set_ne hij] at e
    rw [List.getElem?_set_ne hij]
    exact g.ok j t e
theorem EnvD.dat (g : EnvD X Φ L H σ Γ) (h : Dt (hd X Φ L H) v d) : EnvD X Φ L H (σ.set i (some v)) (Γ.set i (.dat d)) := g.set ⟨v, rfl, h⟩
/-! ### expressions -/
def Ev (X : Wd) (Φ : Iv) (te : TE) (Γ : Gm) (d : D) : Prop := ∀ L H σ, Cur X Φ L H → EnvD X Φ L H σ Γ → ∀ Q : VK, (∀ v H2, Same H H2 → Dt (hd X Φ L H2) v d → Q v H2) → te σ H Q
/-- a value itself -/
def EvV (X : Wd) (Φ : Iv) (te : TE) (Γ : Gm) (v : V) : Prop := ∀ L H σ, Cur X Φ L H → EnvD X Φ L H σ Γ → ∀ Q : VK, (∀ H2, Same H H2 → Q v H2) → te σ H Q
def EvA (X : Wd) (Φ : Iv) (ta : TA) (Γ : Gm) (ds : List D) : Prop := ∀ L H σ, Cur X Φ L H → EnvD X Φ L H σ Γ → ∀ Q : List V → Hp → Prop, (∀ vs H2, Same H H2 → Dts (hd X Φ L H2) vs ds → Q vs H2) → ta σ H Q
def EvT (X : Wd) (Φ : Iv) (tt : TT) (Γ : Gm) (b : Bool) : Prop := ∀ L H σ, Cur X Φ L H → EnvD X Φ L H σ Γ → ∀ Q : Bool → Hp → Prop, (∀ H2, Same H H2 → Q b H2) → tt σ H Q
def EvO (X : Wd) (Φ : Iv) (to : TO) (Γ : Gm) (o : Option Int) : Prop := ∀ L H σ, Cur X Φ L H → EnvD X Φ L H σ Γ → ∀ Q : Option Int → Hp → Prop, (∀ H2, Same H H2 → Q o H2) → to σ H Q
theorem ev_var (h : Γ[i]? = some (.dat d)) : Ev X Φ (tVar i) Γ d := fun L H σ c g Q q => by
  obtain ⟨v, h1, h2⟩ := g.ok i _ h
  exact ⟨v, h1, q v H (Same.refl H) h2⟩
theorem evv_var (h : Γ[i]? = some (.val v)) : EvV X Φ (tVar i) Γ v := fun L H σ c g Q q => ⟨v, g.ok i _ h, q H (Same.refl H)⟩
/-- a value that is no object -/
def flat : D → Option V
  | .none => some .non
  | .bool b => some (.bl b)
  | .int i => some (.int i)
  | .str x => some (.str x)
  | _ => none
theorem dt_flat {G : Hp} (h : Dt G v d) {u : V} (e : flat d = some u) : v = u := by
  cases h <;> first | (cases e; rfl) | cases e
theorem of_flat {G : Hp} {u : V} (e : flat d = some u) : Dt G u d := by
  cases d <;> first | cases e; done | (cases e; constructor)
theorem ev_c {u : V} (e : flat d = some u) : Ev X Φ (tC u) Γ d := fun L H σ c g Q q => q u H (Same.refl H) (of_flat e)
theorem ev_int (k : Int) : Ev X Φ (tC (.int k)) Γ (.int k) := ev_c rfl
theorem ev_str (k : Str) : Ev X Φ (tC (.str k)) Γ (.str k) := ev_c rfl
theorem ev_non : Ev X Φ (tC .non) Γ .none := ev_c rfl
theorem ev_bl (b : Bool) : Ev X Φ (tC (.bl b)) Γ (.bool b) := ev_c rfl
theorem evv_c {u : V} : EvV X Φ (tC u) Γ u := fun L H σ c g Q q => q H (Same.refl H)
theorem ev_eq {te : TE} (h : Ev X Φ te Γ d) (e' : d = e) : Ev X Φ te Γ e := e' ▸ h
theorem et_eq {tt : TT} {b c : Bool} (h : EvT X Φ tt Γ b) (e' : b = c) : EvT X Φ tt Γ c := e' ▸ h
theorem ev_flatV {te : TE} {u : V} (h : Ev X Φ te Γ d) (e' : flat d = some u) : EvV X Φ te Γ u := fun L H σ c g Q q => h L H σ c g Q fun v H2 s r => by
  rw [dt_flat r e']
  exact q H2 s
theorem ea_nil : EvA X Φ tNil Γ [] := fun L H σ c g Q q => q [] H (Same.refl H) .nil
theorem ea_cons {ta : TE} {tr : TA} {ds : List D} (h : Ev X Φ ta Γ d) (hr : EvA X Φ tr Γ ds) : EvA X Φ (tCons ta tr) Γ (d :: ds) := fun L H σ c g Q q =>
  h L H σ c g _ fun v H1 e1 r1 => hr L H1 σ (c.up e1) (g.up e1) _ fun vs H2 e2 r2 => q _ H2 (e1.trans e2) (.cons (r1.mono (Same.s (Same.hid e2))) r2)
theorem ev_tup {ta : TA} {ds : List D} (h : EvA X Φ ta Γ ds) (hl : ds.length ≤ 100000) : Ev X Φ (tTup ta) Γ (.tuple ds) := fun L H σ c g Q q =>
  h L H σ c g _ fun vs H1 e1 r1 => ⟨by rw [r1.len]; exact Nat.le_trans hl (by decide), fun p hp => by
    have cc := (c.up e1).lv
    exact q _ _ (e1.trans (new_same hp)) (.tup (new_at cc hp) (r1.mono (Same.s (Same.hid (new_same hp)))))⟩
theorem ev_lst {ta : TA} {ds : List D} (h : EvA X Φ ta Γ ds) (hl : ds.length ≤ 100000) : Ev X Φ (tLst ta) Γ (.list ds) := fun L H σ c g Q q =>
  h L H σ c g _ fun vs H1 e1 r1 => ⟨by rw [r1.len]; exact Nat.le_trans hl (by decide), fun p hp => by
    have cc := (c.up e1).lv
    exact q _ _ (e1.trans (new_same hp)) (.lst (new_at cc hp) (r1.mono (Same.s (Same.hid (new_same hp)))))⟩
/-! ### operations on trees -/
def OpD (r : R2) (d e f : D) : Prop := ∀ N H v u, Lv N H → Dt (hid N H) v d → Dt (hid N H) u e → ∀ Q : VK, (∀ z H2, Same H H2 → Dt (hid N H2) z f → Q z H2) → r v u H Q
theorem ev_op {r : R2} {ta tb : TE} {f : D} (ha : Ev X Φ ta Γ d) (hb : Ev X Φ tb Γ e) (h : OpD r d e f) : Ev X Φ (tOp r ta tb) Γ f := fun L H σ c g Q q =>
  ha L H σ c g _ fun v H1 e1 r1 => hb L H1 σ (c.up e1) (g.up e1) _ fun u H2 e2 r2 =>
    h _ H2 v u (c.up (e1.trans e2)).lv (r1.mono (Same.s (Same.hid e2))) r2 Q fun z H3 e3 r3 => q z H3 ((e1.trans e2).trans e3) r3
/-- two values that are no objects, and such an answer -/
theorem opd_flat {r : R2} {f : D} {x y z : V} (hx : flat d = some x) (hy : flat e = some y) (hz : flat f = some z) (h : ∀ H (Q : VK), Q z H → r x y H Q) : OpD r d e f := fun N H v u lv hv hu Q q => by
  rw [dt_flat hv hx, dt_flat hu hy]
  exact h H Q (q z H (Same.refl H) (of_flat hz))
theorem od_addI {K : PySem.W.Frag} {a b : Int} : OpD (rAddU K) (.int a) (.int b) (.int (a + b)) := opd_flat rfl rfl rfl fun H Q q => .inl ⟨a, b, rfl, rfl, q⟩
theorem od_subI {a b : Int} : OpD rSubI (.int a) (.int b) (.int (a - b)) := opd_flat rfl rfl rfl fun H Q q => ⟨a, b, rfl, rfl, q⟩
theorem od_mulI {K : PySem.W.Frag} {a b : Int} (h : CMul a b) : OpD (rMulU K) (.int a) (.int b) (.int (a * b)) := opd_flat rfl rfl rfl fun H Q q => .inl ⟨a, b, rfl, rfl, h, q⟩
theorem od_modI {a b : Int} (h : 0 < b) : OpD rModI (.int a) (.int b) (.int (a % b)) := opd_flat rfl rfl rfl fun H Q q => ⟨a, b, rfl, rfl, h, q⟩
theorem od_divI {a b : Int} (h : CDiv a b) : OpD rDivI (.int a) (.int b) (.int (a / b)) := opd_flat rfl rfl rfl fun H Q q => ⟨a, b, rfl, rfl, h, q⟩
theorem od_lt {a b : Int} : OpD rLtI (.int a) (.int b) (.bool (decide (a < b))) := opd_flat rfl rfl rfl fun H Q q => ⟨a, b, rfl, rfl, q⟩
theorem od_le {a b : Int} : OpD rLeI (.int a) (.int b) (.bool (decide (a ≤ b))) := opd_flat rfl rfl rfl fun H Q q => ⟨a, b, rfl, rfl, q⟩
theorem od_gt {a b : Int} : OpD rGtI (.int a) (.int b) (.bool (decide (b < a))) := opd_flat rfl rfl rfl fun H Q q => ⟨a, b, rfl, rfl, q⟩
theorem od_ge {a b : Int} : OpD rGeI (.int a) (.int b) (.bool (decide (b ≤ a))) := opd_flat rfl rfl rfl fun H Q q => ⟨a, b, rfl, rfl, q⟩
theorem od_addS {K : PySem.W.Frag} {a b : Str} (h : a.length + b.length ≤ 100000) : OpD (rAddU K) (.str a) (.str b) (.str (a ++ b)) := opd_flat rfl rfl rfl fun H Q q => .inr (.inl ⟨a, b, rfl, rfl, Nat.le_trans h (by decide), q⟩)
theorem sqT {K : PySem.W.Frag} {N : Ads} {a : Addr} {xs : List V} (h : hid N H a = some (.tup xs)) : SqT K H a xs := SqT.of (hid_le _ _ h)
theorem sqL {K : PySem.W.Frag} {N : Ads} {a : Addr} {xs : List V} (h : hid N H a = some (.lst xs)) : SqL K H a xs := SqL.of (hid_le _ _ h)
theorem od_addT {K : PySem.W.Frag} {xs ys : List D} (h : xs.length + ys.length ≤ 100000) : OpD (rAddU K) (.tuple xs) (.tuple ys) (.tuple (xs ++ ys)) := fun N H v u lv hv hu Q q => by
  cases hv with
  | @tup a vs _ ha hvs =>
    cases hu with
    | @tup b us _ hb hus =>
      have l1 := Dts.len hvs
      have l2 := Dts.len hus
      refine .inr (.inr (.inr ⟨a, b, vs, us, rfl, rfl, sqT ha, sqT hb, Nat.le_trans (by omega) (by decide : 100000 ≤ sizeLine), fun z => ?_, fun z y => ?_, fun z y p hp => ?_⟩))
      · subst z
        have e0 : xs = [] := List.length_eq_zero_iff.mp (by rw [← l1]; rfl)
        subst e0
        exact q _ H (Same.refl H) (.tup hb hus)
      · subst y
        have e0 : ys = [] := List.length_eq_zero_iff.mp (by rw [← l2]; rfl)
        subst e0
        rw [List.append_nil] at q
        exact q _ H (Same.refl H) (.tup ha hvs)
      · exact q _ _ (new_same hp) (.tup (new_at lv hp) ((Dts.app hvs hus).mono (Same.s (Same.hid (new_same hp)))))
theorem od_addL {K : PySem.W.Frag} {xs ys : List D} (h : xs.length + ys.length ≤ 100000) : OpD (rAddU K) (.list xs) (.list ys) (.list (xs ++ ys)) := fun N H v u lv hv hu Q q => by
  cases hv with
  | @lst a vs _ ha hvs =>
    cases hu with
    | @lst b us _ hb hus =>
      have l1 := Dts.len hvs
      have l2 := Dts.len hus
      refine .inr (.inr (.inl ⟨a, b, vs, us, rfl, rfl, hid_le _ _ ha, hid_le _ _ hb, Nat.le_trans (by omega) (by decide : 100000 ≤ sizeLine), fun p hp => ?_⟩))
      exact q _ _ (new_same hp) (.lst (new_at lv hp) ((Dts.app hvs hus).mono (Same.s (Same.hid (new_same hp)))))
theorem od_repL {K : PySem.W.Frag} {xs : List D} {k : Int} (h : xs.length * k.toNat ≤ 100000) (h1 : -(2 ^ 63) ≤ k) (h2 : k < 2 ^ 63) : OpD (rMulU K) (.list xs) (.int k) (.list (List.replicate k.toNat xs).flatten) := fun N H v u lv hv hu Q q => by
  cases hv with
  | @lst a vs _ ha hvs =>
    cases hu
    have l1 := Dts.len hvs
    refine .inr (.inl ⟨a, k, vs, rfl, rfl, hid_le _ _ ha, h1, h2, by rw [l1]; exact Nat.le_trans h (by decide), fun p hp => ?_⟩)
    exact q _ _ (new_same hp) (.lst (new_at lv hp) ((Dts.repl hvs _).mono (Same.s (Same.hid (new_same hp)))))
theorem dts_atI {G : Hp} {vs : List V} {ds : List D} {k : Int} (h : Dts G vs ds) (e' : atI ds k = some d) : ∃ v, L2.atI vs k = some v ∧ Dt G v d := by
  unfold L2.atI at *
  rw [h.len]
  cases q : ixN ds.length k with
  | none =>
    rw [q] at e'
    cases e'
  | some j =>
    rw [q] at e'
    exact h.get e'
theorem od_ixT {P : Program} {w : World} {K : PySem.W.Frag} {ds : List D} {k : Int} (h : atI ds k = some d) : OpD (rIxU P w K) (.tuple ds) (.int k) d := fun N H v u lv hv hu Q q => by
  cases hu
  cases hv with
  | tup h1 h2 =>
    obtain ⟨z, hz, r⟩ := dts_atI h2 h
    exact .inl (.inr (.inl ⟨_, _, k, z, rfl, rfl, sqT h1, hz, q z H (Same.refl H) r⟩))
theorem od_ixL {P : Program} {w : World} {K : PySem.W.Frag} {ds : List D} {k : Int} (h : atI ds k = some d) : OpD (rIxU P w K) (.list ds) (.int k) d := fun N H v u lv hv hu Q q => by
  cases hu
  cases hv with
  | lst h1 h2 =>
    obtain ⟨z, hz, r⟩ := dts_atI h2 h
    exact .inl (.inl ⟨_, _, k, z, rfl, rfl, sqL h1, hz, q z H (Same.refl H) r⟩)
theorem od_eq {K : PySem.W.Frag} (h1 : SeqAt.shaped d = true) (h2 : SeqAt.shaped e = true) : OpD (rEqD K) d e (.bool (PyData.eqv d e)) := fun N H v u lv hv hu Q q =>
  ⟨d, e, hv.dp (Same.s hid_le), hu.dp (Same.s hid_le), h1, h2, q _ H (Same.refl H) (.bl _)⟩
theorem od_ne {K : PySem.W.Frag} (h1 : SeqAt.shaped d = true) (h2 : SeqAt.shaped e = true) : OpD (rNeD K) d e (.bool (!PyData.eqv d e)) := fun N H v u lv hv hu Q q =>
  ⟨d, e, hv.dp (Same.s hid_le), hu.dp (Same.s hid_le), h1, h2, q _ H (Same.refl H) (.bl _)⟩
def isNone : D → Bool
  | .none => true
  | _ => false
theorem isNone_iff {G : Hp} (h : Dt G v d) : decide (v = .non) = isNone d := by
  cases h <;> first | rfl | exact decide_eq_false (fun z => nomatch z)
theorem od_isN : OpD rIsNone d .none (.bool (isNone d)) := fun N H v u lv hv hu Q q => by
  cases hu
  refine ⟨rfl, ?_⟩
  rw [isNone_iff hv]
  exact q _ H (Same.refl H) (.bl _)
theorem od_notN : OpD rNotNone d .none (.bool (!isNone d)) := fun N H v u lv hv hu Q q => by
  cases hu
  refine ⟨rfl, ?_⟩
  rw [isNone_iff hv]
  exact q _ H (Same.refl H) (.bl _)
theorem ev_neg {ta : TE} {a : Int} (h : Ev X Φ ta Γ (.int a)) : Ev X Φ (tUn rNegI ta) Γ (.int (-a)) := fun L H σ c g Q q =>
  h L H σ c g _ fun v H1 e1 r1 => by
    cases r1
    exact ⟨a, rfl, q _ H1 e1 (.int _)⟩
/-! ### slices -/
def cut (ds : List D) (lo hi : Option Int) : List D := (ds.drop (HT.sIx ds.length 0 lo)).take (HT.sIx ds.length ds.length hi - HT.sIx ds.length 0 lo)
theorem dts_cut {G : Hp} {vs : List V} {ds : List D} (h : Dts G vs ds) (lo hi : Option Int) : Dts G (cutV vs lo hi) (cut ds lo hi) := by
  unfold cutV cut
  rw [h.len]
  exact (h.drop _).take _
theorem eo_none : EvO X Φ tNoPart Γ none := fun L H σ c g Q q => q H (Same.refl H)
theorem eo_some {te : TE} {k : Int} (h : Ev X Φ te Γ (.int k)) : EvO X Φ (tPart te) Γ (some k) := fun L H σ c g Q q => h L H σ c g _ fun v H2 e2 r => by
  cases r
  exact ⟨k, rfl, q H2 e2⟩
theorem ev_slL {K : PySem.W.Frag} {te : TE} {tl th : TO} {ds : List D} {lo hi : Option Int} (h : Ev X Φ te Γ (.list ds)) (h1 : EvO X Φ tl Γ lo) (h2 : EvO X Φ th Γ hi) : Ev X Φ (tSl (rSlU K) te tl th) Γ (.list (cut ds lo hi)) := fun L H σ c g Q q =>
  h L H σ c g _ fun v Ha e1 r1 => h1 L Ha σ (c.up e1) (g.up e1) _ fun Hb e2 => h2 L Hb σ (c.up (e1.trans e2)) (g.up (e1.trans e2)) _ fun Hc e3 => by
    have cc := c.up ((e1.trans e2).trans e3)
    have r2 := r1.mono (Same.s (Same.hid (M := hdn X Φ L) (e2.trans e3)))
    cases r2 with
    | lst ha hvs => exact .inl ⟨_, _, rfl, sqL ha, fun p hp => q _ _ (((e1.trans e2).trans e3).trans (new_same hp)) (.lst (new_at cc.lv hp) ((dts_cut hvs lo hi).mono (Same.s (Same.hid (new_same hp)))))⟩
theorem cut_all (ds : List D) (lo hi : Option Int) (h : HT.sIx ds.length 0 lo = 0 ∧ HT.sIx ds.length ds.length hi = ds.length) : cut ds lo hi = ds := by
  unfold cut
  rw [h.1, h.2]
  simp
theorem ev_slT {K : PySem.W.Frag} {te : TE} {tl th : TO} {ds : List D} {lo hi : Option Int} (h : Ev X Φ te Γ (.tuple ds)) (h1 : EvO X Φ tl Γ lo) (h2 : EvO X Φ th Γ hi) : Ev X Φ (tSl (rSlU K) te tl th) Γ (.tuple (cut ds lo hi)) := fun L H σ c g Q q =>
  h L H σ c g _ fun v Ha e1 r1 => h1 L Ha σ (c.up e1) (g.up e1) _ fun Hb e2 => h2 L Hb σ (c.up (e1.trans e2)) (g.up (e1.trans e2)) _ fun Hc e3 => by
    have cc := c.up ((e1.trans e2).trans e3)
    have r2 := r1.mono (Same.s (Same.hid (M := hdn X Φ L) (e2.trans e3)))
    cases r2 with
    | tup ha hvs =>
      refine .inr (.inl ⟨_, _, rfl, sqT ha, fun w => ?_, fun w p hp => ?_⟩)
      · rw [Dts.len hvs] at w
        rw [cut_all ds lo hi w] at q
        exact q _ _ ((e1.trans e2).trans e3) (.tup ha hvs)
      · exact q _ _ (((e1.trans e2).trans e3).trans (new_same hp)) (.tup (new_at cc.lv hp) ((dts_cut hvs lo hi).mono (Same.s (Same.hid (new_same hp)))))
/-! ### calls of built-ins -/
def CbD (r : List V → Hp → VK → Prop) (ds : List D) (f : D) : Prop := ∀ N H vs, Lv N H → Dts (hid N H) vs ds → ∀ Q : VK, (∀ z H2, Same H H2 → Dt (hid N H2) z f → Q z H2) → r vs H Q
theorem ev_cb {r : List V → Hp → VK → Prop} {ta : TA} {ds : List D} {f : D} (h : EvA X Φ ta Γ ds) (hr : CbD r ds f) : Ev X Φ (tCB r ta) Γ f := fun L H σ c g Q q =>
  h L H σ c g _ fun vs H1 e1 r1 => hr _ H1 vs (c.up e1).lv r1 Q fun z H2 e2 r2 => q z H2 (e1.trans e2) r2
theorem cb_lenL {K : PySem.W.Frag} {ds : List D} : CbD (rLenU K) [.list ds] (.int ds.length) := fun N H vs lv h Q q => by
  cases h with
  | cons h1 h2 =>
    cases h2
    cases h1 with
    | lst ha hv => exact ⟨_, _, rfl, .inl ⟨_, sqL ha, rfl⟩, by rw [Dts.len hv]; exact q _ H (Same.refl H) (.int _)⟩
theorem cb_lenT {K : PySem.W.Frag} {ds : List D} : CbD (rLenU K) [.tuple ds] (.int ds.length) := fun N H vs lv h Q q => by
  cases h with
  | cons h1 h2 =>
    cases h2
    cases h1 with
    | tup ha hv => exact ⟨_, _, rfl, .inr ⟨_, sqT ha, rfl⟩, by rw [Dts.len hv]; exact q _ H (Same.refl H) (.int _)⟩
theorem cb_lenS {K : PySem.W.Frag} {x : Str} (hx : x.length ≤ 100000) : CbD (rLenU K) [.str x] (.int x.length) := fun N H vs lv h Q q => by
  cases h with
  | cons h1 h2 =>
    cases h2
    cases h1
    exact ⟨_, _, rfl, ⟨Nat.le_trans hx (by decide), rfl⟩, q _ H (Same.refl H) (.int _)⟩
theorem cb_listL {K : PySem.W.Frag} {ds : List D} : CbD (rListU K) [.list ds] (.list ds) := fun N H vs lv h Q q => by
  cases h with
  | cons h1 h2 =>
    cases h2
    cases h1 with
    | lst ha hv => exact ⟨_, _, rfl, .inl (sqL ha), fun p hp => q _ _ (new_same hp) (.lst (new_at lv hp) (Dts.mono (Same.s (Same.hid (new_same hp))) hv))⟩
theorem cb_listT {K : PySem.W.Frag} {ds : List D} : CbD (rListU K) [.tuple ds] (.list ds) := fun N H vs lv h Q q => by
  cases h with
  | cons h1 h2 =>
    cases h2
    cases h1 with
    | tup ha hv => exact ⟨_, _, rfl, .inr (sqT ha), fun p hp => q _ _ (new_same hp) (.lst (new_at lv hp) (Dts.mono (Same.s (Same.hid (new_same hp))) hv))⟩
theorem cb_tupL {K : PySem.W.Frag} {ds : List D} : CbD (rTupU K) [.list ds] (.tuple ds) := fun N H vs lv h Q q => by
  cases h with
  | cons h1 h2 =>
    cases h2
    cases h1 with
    | lst ha hv => exact ⟨_, _, rfl, .inl ⟨sqL ha, fun p hp => q _ _ (new_same hp) (.tup (new_at lv hp) (Dts.mono (Same.s (Same.hid (new_same hp))) hv))⟩⟩
theorem cb_tupT {K : PySem.W.Frag} {ds : List D} : CbD (rTupU K) [.tuple ds] (.tuple ds) := fun N H vs lv h Q q => by
  cases h with
  | cons h1 h2 =>
    cases h2
    cases h1 with
    | tup ha hv => exact ⟨_, _, rfl, .inr ⟨sqT ha, q _ H (Same.refl H) (.tup ha hv)⟩⟩
theorem cb_min2 {a b : Int} : CbD rMin2 [.int a, .int b] (.int (if b < a then b else a)) := fun N H vs lv h Q q => by
  cases h with
  | cons h1 h2 =>
    cases h2 with
    | cons h2 h3 =>
      cases h3
      cases h1
      cases h2
      exact ⟨a, b, rfl, q _ H (Same.refl H) (.int _)⟩
theorem cb_intI {a : Int} : CbD rIntU [.int a] (.int a) := fun N H vs lv h Q q => by
  cases h with
  | cons h1 h2 =>
    cases h2
    cases h1
    exact .inl ⟨a, rfl, q _ H (Same.refl H) (.int _)⟩
theorem cb_intB {a : Bool} : CbD rIntU [.bool a] (.int (if a then 1 else 0)) := fun N H vs lv h Q q => by
  cases h with
  | cons h1 h2 =>
    cases h2
    cases h1
    exact .inr ⟨a, rfl, q _ H (Same.refl H) (.int _)⟩
/-! ### tests -/
variable {t u : TT} {te : TE} {b : Bool}
theorem et_test (h : Ev X Φ te Γ (.bool b)) : EvT X Φ (tTest te) Γ b := fun L H σ c g Q q => h L H σ c g _ fun v H2 e r => by
  cases r
  exact ⟨b, rfl, q H2 e⟩
theorem et_B (h : Ev X Φ te Γ (.bool b)) : EvT X Φ (tB te) Γ b := fun L H σ c g Q q => h L H σ c g _ fun v H2 e r => by
  cases r
  exact ⟨b, rfl, q H2 e⟩
theorem et_and {a b : Bool} (h1 : EvT X Φ t Γ a) (h2 : a = true → EvT X Φ u Γ b) : EvT X Φ (tAnd t u) Γ (a && b) := fun L H σ c g Q q => h1 L H σ c g _ fun H2 e => by
  cases a with
  | true =>
    show u σ H2 Q
    exact h2 rfl L H2 σ (c.up e) (g.up e) Q fun H3 e3 => q H3 (e.trans e3)
  | false => exact q H2 e
theorem et_or {a b : Bool} (h1 : EvT X Φ t Γ a) (h2 : a = false → EvT X Φ u Γ b) : EvT X Φ (tOr t u) Γ (a || b) := fun L H σ c g Q q => h1 L H σ c g _ fun H2 e => by
  cases a with
  | true => exact q H2 e
  | false =>
    show u σ H2 Q
    exact h2 rfl L H2 σ (c.up e) (g.up e) Q fun H3 e3 => q H3 (e.trans e3)
theorem et_not {a : Bool} (h1 : EvT X Φ t Γ a) : EvT X Φ (tNot t) Γ (!a) := fun L H σ c g Q q => h1 L H σ c g _ fun H2 e => q H2 e
theorem ev_andV {ta tb : TE} {a b : Bool} (h1 : Ev X Φ ta Γ (.bool a)) (h2 : a = true → Ev X Φ tb Γ (.bool b)) : Ev X Φ (tAndV ta tb) Γ (.bool (a && b)) := fun L H σ c g Q q => h1 L H σ c g _ fun v H2 e r => by
  cases r
  refine ⟨a, rfl, ?_⟩
  cases a with
  | true =>
    show tb σ H2 Q
    exact h2 rfl L H2 σ (c.up e) (g.up e) Q fun z H3 e3 r3 => q z H3 (e.trans e3) r3
  | false => exact q _ H2 e (.bl _)
theorem ev_orV {ta tb : TE} {a b : Bool} (h1 : Ev X Φ ta Γ (.bool a)) (h2 : a = false → Ev X Φ tb Γ (.bool b)) : Ev X Φ (tOrV ta tb) Γ (.bool (a || b)) := fun L H σ c g Q q => h1 L H σ c g _ fun v H2 e r => by
  cases r
  refine ⟨a, rfl, ?_⟩
  cases a with
  | true => exact q _ H2 e (.bl _)
  | false =>
    show tb σ H2 Q
    exact h2 rfl L H2 σ (c.up e) (g.up e) Q fun z H3 e3 r3 => q z H3 (e.trans e3) r3
theorem ev_notV {ta : TE} {a : Bool} (h1 : Ev X Φ ta Γ (.bool a)) : Ev X Φ (tNotV ta) Γ (.bool (!a)) := fun L H σ c g Q q => h1 L H σ c g _ fun v H2 e r => by
  cases r
  exact ⟨a, rfl, q _ H2 e (.bl _)⟩
theorem ev_if {ta tb : TE} (h : EvT X Φ t Γ b) (h1 : b = true → Ev X Φ ta Γ d) (h2 : b = false → Ev X Φ tb Γ d) : Ev X Φ (tIf t ta tb) Γ d := fun L H σ c g Q q => h L H σ c g _ fun H2 e => by
  cases b with
  | true => exact h1 rfl L H2 σ (c.up e) (g.up e) Q fun z H3 e3 r3 => q z H3 (e.trans e3) r3
  | false => exact h2 rfl L H2 σ (c.up e) (g.up e) Q fun z H3 e3 r3 => q z H3 (e.trans e3) r3
/-- a < b < c -/
theorem ev_chain {r r' : R2} {ta tb tc : TE} {x y z : D} {b b' : Bool} (ha : Ev X Φ ta Γ x) (hb : Ev X Φ tb Γ y) (hc : Ev X Φ tc Γ z) (h1 : OpD r x y (.bool b)) (h2 : b = true → OpD r' y z (.bool b')) :
    Ev X Φ (tChain r r' ta tb tc) Γ (.bool (b && b')) := fun L H σ c g Q q =>
  ha L H σ c g _ fun v H1 e1 r1 => hb L H1 σ (c.up e1) (g.up e1) _ fun u H2 e2 r2 => h1 _ H2 v u (c.up (e1.trans e2)).lv (r1.mono (Same.s (Same.hid e2))) r2 _ fun k H3 e3 r3 => by
    cases r3
    refine ⟨b, rfl, ?_⟩
    cases b with
    | true =>
      show tc σ H3 _
      refine hc L H3 σ (c.up ((e1.trans e2).trans e3)) (g.up ((e1.trans e2).trans e3)) _ fun w H4 e4 r4 => ?_
      exact h2 rfl _ H4 u w (c.up (((e1.trans e2).trans e3).trans e4)).lv (r2.mono (Same.s (Same.hid (e3.trans e4)))) r4 Q fun z H5 e5 r5 => q z H5 ((((e1.trans e2).trans e3).trans e4).trans e5) r5
    | false => exact q _ H3 ((e1.trans e2).trans e3) (.bl _)
end
end SE

set_option Elab.async false
set_option linter.all false
set_option maxRecDepth 100000
set_option maxHeartbeats 4000000
/-! Statements, loops, comprehensions, calls over trees. -/
namespace SE
open PySem L2 SM SR SD
section
variable {X : Wd} {Φ : Iv} {H H1 H2 : Hp} {L L1 : Lo} {σ : L2.St} {Γ Γ' : Gm} {v : V} {d e : D} {i j : Nat}
/-- what is returned: a tree, or a value itself -/
inductive Ro where
  | dat (d : D)
  | val (v : V)
  | fr (H0 : Hp) (d : D)
def RoOk (N : Ads) (H : Hp) (v : V) : Ro → Prop
  | .dat d => Dt (hid N H) v d
  | .val u => v = u
  | .fr H0 d => ∃ A : List Addr, A.Nodup ∧ (∀ l ∈ A, H0 l = none) ∧ Dt (tgv A N H) v d
/-- a statement: Γ and Φ ahead of it, N behind it, R what it returns -/
def FW (X : Wd) (t : TS) (Γ : Gm) (Φ : Iv) (N : Gm → Iv → Prop) (R : Ro → Iv → Prop) : Prop := ∀ L H σ (D : Ends), Cur X Φ L H → EnvD X Φ L H σ Γ →
  (∀ L' H' σ' Γ' Φ', Cur X Φ' L' H' → SameS (hd X Φ L H) (hd X Φ' L' H') → EnvD X Φ' L' H' σ' Γ' → N Γ' Φ' → D.nx σ' H') → (∀ v r H' Φ', But X.A X.H0 H' → Φ'.p (fnn X Φ') H' → RoOk (fnn X Φ') H' v r → R r Φ' → D.rt v H') → t D σ H
/-- .. that leaves Φ -/
def SW (X : Wd) (Φ : Iv) (t : TS) (Γ : Gm) (N : Gm → Prop) (R : D → Prop) : Prop := FW X t Γ Φ (fun Γ' Φ' => Φ' = Φ ∧ N Γ') (fun r Φ' => Φ' = Φ ∧ ∃ d, r = .dat d ∧ R d)
variable {t u : TS} {N N1 : Gm → Iv → Prop} {R : Ro → Iv → Prop} {te : TE} {tt : TT} {b : Bool} {Φ' : Iv}
theorem Cur.sub (c : Cur X Φ L H) : Same (hd X Φ L H) (hid (fnn X Φ) H) := hid_sub fun a ha => Or.inr ha
theorem Cur.end_ (c : Cur X Φ L H) : Φ.p (fnn X Φ) H := Iv.same (Same.refl H) (Same.s c.sub) c.at_
theorem fw_mono (h : FW X t Γ Φ N1 R) (hn : ∀ Γ' Φ', N1 Γ' Φ' → N Γ' Φ') : FW X t Γ Φ N R := fun L H σ D c g k r => h L H σ D c g (fun L' H' σ' Γ' Φ' c' s' g' n => k L' H' σ' Γ' Φ' c' s' g' (hn Γ' Φ' n)) r
theorem fw_seq (h1 : FW X t Γ Φ N1 R) (h2 : ∀ Γ' Φ', N1 Γ' Φ' → FW X u Γ' Φ' N R) : FW X (tSeq t u) Γ Φ N R := fun L H σ D c g k r =>
  h1 L H σ { D with nx := u D } c g (fun L1 H1 σ1 Γ1 Φ1 c1 s1 g1 n1 => h2 Γ1 Φ1 n1 L1 H1 σ1 D c1 g1 (fun L2 H2 σ2 Γ2 Φ2 c2 s2 g2 n2 => k L2 H2 σ2 Γ2 Φ2 c2 (s1.trans s2) g2 n2) r) r
/-- one state behind the first -/
theorem fw_then (h1 : FW X t Γ Φ (fun Γ1 Φ1 => Γ1 = Γ' ∧ Φ1 = Φ') R) (h2 : FW X u Γ' Φ' N R) : FW X (tSeq t u) Γ Φ N R := fw_seq h1 fun _ _ ⟨e1, e2⟩ => e1 ▸ e2 ▸ h2
theorem fw_next (h : N Γ Φ) : FW X tNext Γ Φ N R := fun L H σ D c g k r => k L H σ Γ Φ c (SameS.refl _) g h
theorem fw_asg (h : Ev X Φ te Γ d) (n : N (Γ.set i (.dat d)) Φ) : FW X (tAsg te (gName i)) Γ Φ N R := fun L H σ D c g k r =>
  h L H σ c g _ fun v H1 e1 r1 => k L H1 _ _ Φ (c.up e1) (Same.s (Same.hid e1)) ((g.up e1).dat r1) n
theorem fw_asgV (h : EvV X Φ te Γ v) (n : N (Γ.set i (.val v)) Φ) : FW X (tAsg te (gName i)) Γ Φ N R := fun L H σ D c g k r =>
  h L H σ c g _ fun H1 e1 => k L H1 _ _ Φ (c.up e1) (Same.s (Same.hid e1)) ((g.up e1).set (s := .val v) rfl) n
theorem fw_ret (h : Ev X Φ te Γ d) (hr : R (.dat d) Φ) : FW X (tRet te) Γ Φ N R := fun L H σ D c g k r =>
  h L H σ c g _ fun v H1 e1 r1 => r v (.dat d) H1 Φ (c.up e1).but (c.up e1).end_ (r1.mono (Same.s (c.up e1).sub)) hr
theorem fw_retV (h : EvV X Φ te Γ v) (hr : R (.val v) Φ) : FW X (tRet te) Γ Φ N R := fun L H σ D c g k r =>
  h L H σ c g _ fun H1 e1 => r v (.val v) H1 Φ (c.up e1).but (c.up e1).end_ rfl hr
theorem fw_drop (h : Ev X Φ te Γ d) (n : N Γ Φ) : FW X (tDrop te) Γ Φ N R := fun L H σ D c g k r =>
  h L H σ c g _ fun v H1 e1 r1 => k L H1 σ Γ Φ (c.up e1) (Same.s (Same.hid e1)) (g.up e1) n
theorem fw_if (h : EvT X Φ tt Γ b) (h1 : b = true → FW X t Γ Φ N R) (h2 : b = false → FW X u Γ Φ N R) : FW X (tIfS tt t u) Γ Φ N R := fun L H σ D c g k r => h L H σ c g _ fun H1 e1 => by
  have k' : ∀ L' H' σ' Γ' Φ', Cur X Φ' L' H' → SameS (hd X Φ L H1) (hd X Φ' L' H') → EnvD X Φ' L' H' σ' Γ' → N Γ' Φ' → D.nx σ' H' := fun L' H' σ' Γ' Φ' c' s' => k L' H' σ' Γ' Φ' c' ((Same.s (Same.hid e1)).trans s')
  cases b with
  | true => exact h1 rfl L H1 σ D (c.up e1) (g.up e1) k' r
  | false => exact h2 rfl L H1 σ D (c.up e1) (g.up e1) k' r
/-! ### lists of one's own -/
theorem mem_cons_hdn {l a : Addr} : a ∈ hdn X Φ ((i, l) :: L) ↔ a = l ∨ a ∈ hdn X Φ L := by
  constructor
  · rintro (h | h)
    · rcases List.mem_cons.mp h with h | h
      · exact .inl h
      · exact .inr (Or.inl h)
    · exact .inr (Or.inr h)
  · rintro (h | h | h)
    · exact Or.inl (List.mem_cons.mpr (.inl h))
    · exact Or.inl (List.mem_cons.mpr (.inr h))
    · exact Or.inr h
theorem hd_cons {l : Addr} (n : H l = none) : hd X Φ ((i, l) :: L) H = hd X Φ L H := funext fun a => by
  show hid _ _ a = hid _ _ a
  by_cases m : a ∈ hdn X Φ L
  · rw [hid_in m, hid_in (mem_cons_hdn.mpr (.inr m))]
  · rw [hid_out m]
    by_cases h : a = l
    · rw [hid_in (mem_cons_hdn.mpr (.inl h)), h, n]
    · rw [hid_out fun z => (mem_cons_hdn.mp z).elim h m]
/-- a new list is owned by the name i -/
theorem own_new {l : Addr} {vs : List V} {ds : List D} (c : Cur X Φ L H) (g : EnvD X Φ L H σ Γ) (n : H l = none) (r : Dts (hd X Φ L H) vs ds) :
    Cur X Φ ((i, l) :: L) (upd H l (.lst vs)) ∧ SameS (hd X Φ L H) (hd X Φ ((i, l) :: L) (upd H l (.lst vs))) ∧ EnvD X Φ ((i, l) :: L) (upd H l (.lst vs)) (σ.set i (some (.ref l))) (Γ.set i (.own ds)) := by
  have nl : l ∉ hdn X Φ L := c.lv.out n
  have e : hd X Φ ((i, l) :: L) (upd H l (.lst vs)) = hd X Φ L H := by
    show hid _ _ = _
    rw [hid_upd (mem_cons_hdn.mpr (.inl rfl))]
    exact hd_cons (i := i) n
  have s0 : SameS (hd X Φ L H) (hd X Φ ((i, l) :: L) (upd H l (.lst vs))) := by
    rw [e]
    exact SameS.refl _
  have same := new_same (o := .lst vs) n
  have cc : Cur X Φ ((i, l) :: L) (upd H l (.lst vs)) := by
    refine ⟨c.but.trans (But.of same), fun a m z => ?_, fun p hp => ?_, (fun p hp => ?_), ?_, fun p hp => ?_, Iv.same same s0 c.at_⟩
    · rcases mem_cons_hdn.mp m with rfl | m
      · rw [upd_same] at z
        cases z
      · exact (c.lv.mono same) a m z
    · rcases List.mem_cons.mp hp with rfl | hp
      · exact c.but.free n
      · exact c.new p hp
    · rcases List.mem_cons.mp hp with rfl | hp
      · exact fun z => nl (Or.inr (Or.inl z))
      · exact c.om p hp
    · rw [List.map_cons, List.nodup_cons]
      exact ⟨fun z => nl (Or.inl z), c.nd⟩
    · rcases List.mem_cons.mp hp with rfl | hp
      · exact fun z => nl (Or.inr (Or.inr z))
      · exact c.dj p hp
  refine ⟨cc, s0, EnvD.set ⟨g.len, fun j s hj => ?_⟩ ⟨l, vs, rfl, List.mem_cons_self, upd_same, r.mono s0⟩⟩
  have q := g.ok j s hj
  cases s with
  | no => trivial
  | dat d =>
    obtain ⟨v, h1, h2⟩ := q
    exact ⟨v, h1, h2.mono s0⟩
  | val v => exact q
  | own ds =>
    obtain ⟨l', vs', h1, h2, h3, h4⟩ := q
    exact ⟨l', vs', h1, List.mem_cons_of_mem _ h2, same _ _ h3, h4.mono s0⟩
  | tre d =>
    obtain ⟨v, A, h1, h2, h4, h3⟩ := q
    exact ⟨v, A, h1, fun l hl => List.mem_cons_of_mem _ (h2 l hl), fun l hl => (h4 l hl).imp fun _ z => same _ _ z, h3.mono (tgv_mono (fun l _ o h => same l o h) s0)⟩
theorem fw_own0 (n : N (Γ.set i (.own [])) Φ) : FW X (tAsg (tLst tNil) (gName i)) Γ Φ N R := fun L H σ D c g k r =>
  ⟨by decide, fun p hp => by
    obtain ⟨c1, s1, g1⟩ := own_new (i := i) (vs := []) (ds := []) c g hp .nil
    exact k _ _ _ _ _ c1 s1 g1 n⟩
theorem nd_ne {l l' : Addr} : ∀ {L : Lo}, (L.map (·.2)).Nodup → (i, l) ∈ L → (j, l') ∈ L → i ≠ j → l ≠ l'
  | p :: L, nd, h1, h2, ne => by
    rw [List.map_cons, List.nodup_cons] at nd
    rcases List.mem_cons.mp h1 with e1 | h1 <;> rcases List.mem_cons.mp h2 with e2 | h2
    · rw [← e1] at e2
      cases e2
      exact absurd rfl ne
    · intro z
      refine nd.1 ?_
      rw [← e1, z]
      exact List.mem_map.mpr ⟨_, h2, rfl⟩
    · intro z
      refine nd.1 ?_
      rw [← e2, ← z]
      exact List.mem_map.mpr ⟨_, h1, rfl⟩
    · exact nd_ne nd.2 h1 h2 ne
/-- the owned list is rewritten -/
theorem own_put {l : Addr} {vs vs' : List V} {ds : List D} (c : Cur X Φ L H) (g : EnvD X Φ L H σ Γ) (hl : (i, l) ∈ L) (h : H l = some (.lst vs)) (hs : σ[i]? = some (some (.ref l))) (hi : i < Γ.length) (r : Dts (hd X Φ L H) vs' ds) :
    Cur X Φ L (upd H l (.lst vs')) ∧ SameS (hd X Φ L H) (hd X Φ L (upd H l (.lst vs'))) ∧ EnvD X Φ L (upd H l (.lst vs')) σ (Γ.set i (.own ds)) := by
  have ml : l ∈ hdn X Φ L := Or.inl (List.mem_map.mpr ⟨_, hl, rfl⟩)
  have e : hd X Φ L (upd H l (.lst vs')) = hd X Φ L H := hid_upd ml
  have s0 : SameS (hd X Φ L H) (hd X Φ L (upd H l (.lst vs'))) := by
    rw [e]
    exact SameS.refl _
  have k1 : ∀ b o, b ∉ [l] → H b = some o → upd H l (.lst vs') b = some o := fun b o nb q => by
    rw [upd_ne (by simpa using nb)]
    exact q
  have cc : Cur X Φ L (upd H l (.lst vs')) := by
    refine ⟨⟨fun a o n q => ?_, fun a q z => ?_⟩, fun a m z => ?_, c.new, c.om, c.nd, c.dj, Φ.up [l] k1 (fun z hz => ?_) s0 c.at_⟩
    · rw [upd_ne fun z => by
        have := c.new _ hl
        rw [← z, q] at this
        cases this]
      exact c.but.keep a o n q
    · by_cases e : a = l
      · rw [e, upd_same] at z
        cases z
      · rw [upd_ne e] at z
        exact c.but.live a q z
    · by_cases q : a = l
      · rw [q, upd_same] at z
        cases z
      · rw [upd_ne q] at z
        exact c.lv a m z
    · have : z = l := by simpa using hz
      rw [this, h]
      exact ⟨c.dj _ hl, (fun xs z => by cases z), fun o u z => by cases z⟩
  refine ⟨cc, s0, ⟨by rw [List.length_set]; exact g.len, fun j s hj => ?_⟩⟩
  by_cases hij : i = j
  · subst hij
    rw [List.getElem?_set_self hi] at hj
    cases hj
    exact ⟨l, vs', hs, hl, upd_same, r.mono s0⟩
  · rw [List.getElem?_set_ne hij] at hj
    have q := g.ok j s hj
    cases s with
    | no => trivial
    | dat d =>
      obtain ⟨v, h1, h2⟩ := q
      exact ⟨v, h1, h2.mono s0⟩
    | val v => exact q
    | own ds =>
      obtain ⟨l', vs2, h1, h2, h3, h4⟩ := q
      refine ⟨l', vs2, h1, h2, ?_, h4.mono s0⟩
      rw [upd_ne (nd_ne c.nd h2 hl (Ne.symm hij))]
      exact h3
    | tre d =>
      obtain ⟨v, A, h1, h2, h4, h3⟩ := q
      have kb : ∀ b ∈ A, ∀ o, H b = some o → upd H l (.lst vs') b = some o := fun b hb o e => by
        rw [upd_ne (nd_ne c.nd (h2 b hb) hl (Ne.symm hij))]
        exact e
      exact ⟨v, A, h1, h2, fun b hb => (h4 b hb).imp fun _ z => kb b hb _ z, h3.mono (tgv_mono kb s0)⟩
theorem own_at {ds : List D} (g : EnvD X Φ L H σ Γ) (h : Γ[i]? = some (.own ds)) : ∃ l vs, σ[i]? = some (some (.ref l)) ∧ (i, l) ∈ L ∧ H l = some (.lst vs) ∧ Dts (hd X Φ L H) vs ds ∧ i < Γ.length := by
  obtain ⟨l, vs, h1, h2, h3, h4⟩ := g.ok i _ h
  exact ⟨l, vs, h1, h2, h3, h4, (List.getElem?_eq_some_iff.mp h).1⟩
/-- name.append(e) -/
theorem fw_app {K : PySem.W.Frag} {ds : List D} (ho : Γ[i]? = some (.own ds)) (h : Ev X Φ te Γ d) (hz : ds.length < 100000) (n : N (Γ.set i (.own (ds ++ [d]))) Φ) : FW X (tDrop (tBM K "list" rAppend (tVar i) (tCons te tNil))) Γ Φ N R := fun L H σ D c g k r => by
  obtain ⟨l, vs, h1, h2, h3, h4, h5⟩ := own_at g ho
  refine ⟨_, h1, .inl ⟨rfl, vs, SqL.of h3⟩, h L H σ c g _ fun v H1 e1 r1 => ?_⟩
  have g1 := g.up e1
  obtain ⟨c2, s2, g2⟩ := own_put (vs' := vs ++ [v]) (ds := ds ++ [d]) (c.up e1) g1 h2 (e1 _ _ h3) h1 h5 ((h4.mono (Same.s (Same.hid e1))).app (.cons r1 .nil))
  exact ⟨l, vs, v, rfl, rfl, e1 _ _ h3, by rw [h4.len]; exact Nat.lt_of_lt_of_le hz (by decide), k _ _ _ _ _ c2 ((Same.s (Same.hid e1)).trans s2) g2 n⟩
/-- name.extend(e) -/
theorem fw_ext {K : PySem.W.Frag} {ds es : List D} (ho : Γ[i]? = some (.own ds)) (h : Ev X Φ te Γ (.list es)) (hz : ds.length + es.length ≤ 100000) (n : N (Γ.set i (.own (ds ++ es))) Φ) : FW X (tDrop (tBM K "list" rExtend (tVar i) (tCons te tNil))) Γ Φ N R := fun L H σ D c g k r => by
  obtain ⟨l, vs, h1, h2, h3, h4, h5⟩ := own_at g ho
  refine ⟨_, h1, .inl ⟨rfl, vs, SqL.of h3⟩, h L H σ c g _ fun v H1 e1 r1 => ?_⟩
  have g1 := g.up e1
  cases r1 with
  | @lst b us _ hb hus =>
    obtain ⟨c2, s2, g2⟩ := own_put (vs' := vs ++ us) (ds := ds ++ es) (c.up e1) g1 h2 (e1 _ _ h3) h1 h5 ((h4.mono (Same.s (Same.hid e1))).app hus)
    exact ⟨l, b, vs, us, rfl, rfl, e1 _ _ h3, hid_le _ _ hb, by rw [h4.len, Dts.len hus]; exact Nat.le_trans hz (by decide), k _ _ _ _ _ c2 ((Same.s (Same.hid e1)).trans s2) g2 n⟩
/-- return name -/
theorem fw_retOwn {ds : List D} (ho : Γ[i]? = some (.own ds)) (hr : R (.dat (.list ds)) Φ) : FW X (tRet (tVar i)) Γ Φ N R := fun L H σ D c g k r => by
  obtain ⟨l, vs, h1, h2, h3, h4, h5⟩ := own_at g ho
  refine ⟨_, h1, r _ (.dat (.list ds)) H Φ c.but c.end_ (.lst (xs := vs) ?_ (h4.mono (Same.s c.sub))) hr⟩
  rw [hid_out]
  · exact h3
  · exact c.out h2
/-- an owned list is let go: from now on it stays as it is -/
theorem freeze {ds : List D} (c : Cur X Φ L H) (g : EnvD X Φ L H σ Γ) (ho : Γ[i]? = some (.own ds)) : ∃ L', Cur X Φ L' H ∧ SameS (hd X Φ L H) (hd X Φ L' H) ∧ EnvD X Φ L' H σ (Γ.set i (.dat (.list ds))) := by
  obtain ⟨l, vs, h1, h2, h3, h4, h5⟩ := own_at g ho
  have sub : ∀ a ∈ hdn X Φ (L.filter fun p => decide (p.2 ≠ l)), a ∈ hdn X Φ L := fun a ha => by
    rcases ha with z | z
    · obtain ⟨p, hp, e⟩ := List.mem_map.mp z
      exact Or.inl (List.mem_map.mpr ⟨p, (List.mem_filter.mp hp).1, e⟩)
    · exact Or.inr z
  have s0 : SameS (hd X Φ L H) (hd X Φ (L.filter fun p => decide (p.2 ≠ l)) H) := Same.s (hid_sub sub)
  refine ⟨L.filter fun p => decide (p.2 ≠ l), ⟨c.but, fun a m => c.lv a (sub a m), fun p hp => c.new p (List.mem_filter.mp hp).1, fun p hp => c.om p (List.mem_filter.mp hp).1, c.nd.sublist (List.filter_sublist.map _), fun p hp => c.dj p (List.mem_filter.mp hp).1, Iv.same (Same.refl H) s0 c.at_⟩, s0, ?_⟩
  refine ⟨by rw [List.length_set]; exact g.len, fun j s hj => ?_⟩
  by_cases hij : i = j
  · subst hij
    rw [List.getElem?_set_self h5] at hj
    cases hj
    refine ⟨_, h1, .lst (xs := vs) ?_ (h4.mono s0)⟩
    refine (hid_out fun z => ?_).trans h3
    rcases z with z | z
    · obtain ⟨p, hp, e⟩ := List.mem_map.mp z
      exact of_decide_eq_true (List.mem_filter.mp hp).2 e
    · exact c.out h2 z
  · rw [List.getElem?_set_ne hij] at hj
    have q := g.ok j s hj
    cases s with
    | no => trivial
    | dat d =>
      obtain ⟨v, h1, h2⟩ := q
      exact ⟨v, h1, h2.mono s0⟩
    | val v => exact q
    | own ds =>
      obtain ⟨l', vs2, g1, g2, g3, g4⟩ := q
      refine ⟨l', vs2, g1, List.mem_filter.mpr ⟨g2, decide_eq_true ?_⟩, g3, g4.mono s0⟩
      exact nd_ne c.nd g2 h2 (Ne.symm hij)
    | tre d =>
      obtain ⟨v, A, g1, g2, g4, g3⟩ := q
      refine ⟨v, A, g1, fun b hb => List.mem_filter.mpr ⟨g2 b hb, decide_eq_true ?_⟩, g4, g3.mono (tgv_mono (fun _ _ _ h => h) s0)⟩
      exact nd_ne c.nd (g2 b hb) h2 (Ne.symm hij)
theorem fw_freeze {ds : List D} (ho : Γ[i]? = some (.own ds)) (h : FW X t (Γ.set i (.dat (.list ds))) Φ N R) : FW X t Γ Φ N R := fun L H σ D c g k r => by
  obtain ⟨L', c', s', g'⟩ := freeze c g ho
  exact h L' H σ D c' g' (fun L2 H2 σ2 Γ2 Φ2 c2 s2 g2 n2 => k L2 H2 σ2 Γ2 Φ2 c2 (s'.trans s2) g2 n2) r
/-! ### what is walked -/
/-- J walks the items ds, as long as the lists and tuples of hid N0 H stand -/
def Wk (N0 : Ads) (H : Hp) (J : It) (ds : List D) : Prop := ∀ N' H', SameS (hid N0 H) (hid N' H') → Lv N' H' →
  (∀ (i : Nat) d, ds[i]? = some d → J.go i H' ∧ ∀ x H'', J.yld i H' x H'' → Same H' H'' ∧ Dt (hid N' H'') x d) ∧ J.stop ds.length H'
def EvI (X : Wd) (Φ : Iv) (wi : TI) (Γ : Gm) (ds : List D) : Prop := ∀ L H σ, Cur X Φ L H → EnvD X Φ L H σ Γ → ∀ R : It → Hp → Prop, (∀ J H2, Same H H2 → Wk (hdn X Φ L) H2 J ds → R J H2) → wi σ H R
theorem wk_list {K : PySem.W.Frag} {N0 : Ads} {a : Addr} {vs : List V} {ds : List D} (h : hid N0 H a = some (.lst vs)) (r : Dts (hid N0 H) vs ds) : Wk N0 H (Itl K a) ds := fun N' H' s lv => by
  have ha : hid N' H' a = some (.lst vs) := s _ _ h rfl
  have r' := r.mono s
  refine ⟨fun i d hd => ?_, vs, sqL ha, by rw [r.len]; exact Nat.le_refl _⟩
  obtain ⟨v, h1, h2⟩ := r'.get hd
  refine ⟨⟨vs, v, sqL ha, h1⟩, fun x H'' y => ?_⟩
  obtain ⟨e, y⟩ := y
  subst e
  have := y vs (sqL ha)
  rw [h1] at this
  cases this
  exact ⟨Same.refl _, h2⟩
theorem wk_tup {K : PySem.W.Frag} {N0 : Ads} {a : Addr} {vs : List V} {ds : List D} (h : hid N0 H a = some (.tup vs)) (r : Dts (hid N0 H) vs ds) : Wk N0 H (Itt K a) ds := fun N' H' s lv => by
  have ha : hid N' H' a = some (.tup vs) := s _ _ h rfl
  have r' := r.mono s
  refine ⟨fun i d hd => ?_, vs, sqT ha, by rw [r.len]; exact Nat.le_refl _⟩
  obtain ⟨v, h1, h2⟩ := r'.get hd
  refine ⟨⟨vs, v, sqT ha, h1⟩, fun x H'' y => ?_⟩
  obtain ⟨e, y⟩ := y
  subst e
  have := y vs (sqT ha)
  rw [h1] at this
  cases this
  exact ⟨Same.refl _, h2⟩
/-- the rgD lo, lo + c, .. -/
def rgD (lo c : Int) (n : Nat) : List D := (List.range n).map fun k => .int (lo + (k : Nat) * c)
theorem wk_range {N0 : Ads} {lo : Int} {n : Nat} : Wk N0 H (Itr lo n) (rgD lo 1 n) := fun N' H' s lv => by
  refine ⟨fun i d hd => ?_, by show n ≤ (rgD lo 1 n).length; simp [rgD]⟩
  have hi : i < n := by
    have := (List.getElem?_eq_some_iff.mp hd).1
    simpa [rgD] using this
  refine ⟨hi, fun x H'' y => ?_⟩
  obtain ⟨e, y⟩ := y
  subst e y
  simp only [rgD, List.getElem?_map, List.getElem?_range hi, Option.map_some, Option.some.injEq] at hd
  subst hd
  rw [Int.mul_one]
  exact ⟨Same.refl _, .int _⟩
theorem wk_rangeC {N0 : Ads} {lo c : Int} {n : Nat} : Wk N0 H (Itc lo c n) (rgD lo c n) := fun N' H' s lv => by
  refine ⟨fun i d hd => ?_, by show n ≤ (rgD lo c n).length; simp [rgD]⟩
  have hi : i < n := by
    have := (List.getElem?_eq_some_iff.mp hd).1
    simpa [rgD] using this
  refine ⟨hi, fun x H'' y => ?_⟩
  obtain ⟨e, y⟩ := y
  subst e y
  simp only [rgD, List.getElem?_map, List.getElem?_range hi, Option.map_some, Option.some.injEq] at hd
  subst hd
  exact ⟨Same.refl _, .int _⟩
/-- the items with their numbers -/
def enumD (ds : List D) : List D := (List.range ds.length).map fun k => .tuple [.int (k : Nat), ds.getD k .none]
theorem wk_enum {K : PySem.W.Frag} {N0 : Ads} {a : Addr} {vs : List V} {ds : List D} (h : hid N0 H a = some (.lst vs)) (r : Dts (hid N0 H) vs ds) : Wk N0 H (Ite K a) (enumD ds) := fun N' H' s lv => by
  have ha : hid N' H' a = some (.lst vs) := s _ _ h rfl
  have r' := r.mono s
  refine ⟨fun i d hd => ?_, vs, sqL ha, by rw [r.len]; simp [enumD]⟩
  have hi : i < ds.length := by
    have := (List.getElem?_eq_some_iff.mp hd).1
    simpa [enumD] using this
  obtain ⟨v, h1, h2⟩ := r'.get (i := i) (d := ds[i]) (by simp [hi])
  refine ⟨⟨vs, v, sqL ha, h1⟩, fun x H'' y => ?_⟩
  obtain ⟨T, x', e, hT, eH, y⟩ := y
  subst e eH
  have := y vs (sqL ha)
  rw [h1] at this
  cases this
  refine ⟨new_same hT, ?_⟩
  simp only [enumD, List.getElem?_map, List.getElem?_range hi, Option.map_some, Option.some.injEq] at hd
  subst hd
  have e2 : ds.getD i .none = ds[i] := by simp [List.getD, hi]
  rw [e2]
  exact .tup (new_at lv hT) (.cons (.int _) (.cons (h2.mono (Same.s (Same.hid (new_same hT)))) .nil))
theorem ei_list {K : PySem.W.Frag} {ds : List D} (h : Ev X Φ te Γ (.list ds)) : EvI X Φ (iList K te) Γ ds := fun L H σ c g R q => h L H σ c g _ fun v H2 e2 r => by
  cases r with
  | lst ha hv => exact ⟨_, rfl, ⟨_, sqL ha⟩, q _ H2 e2 (wk_list ha hv)⟩
theorem ei_tup {K : PySem.W.Frag} {ds : List D} (h : Ev X Φ te Γ (.tuple ds)) : EvI X Φ (iTup K te) Γ ds := fun L H σ c g R q => h L H σ c g _ fun v H2 e2 r => by
  cases r with
  | tup ha hv => exact ⟨_, rfl, ⟨_, sqT ha⟩, q _ H2 e2 (wk_tup ha hv)⟩
theorem ei_enum {K : PySem.W.Frag} {ta : TA} {ds : List D} (h : EvA X Φ ta Γ [.list ds]) : EvI X Φ (iEnum K ta) Γ (enumD ds) := fun L H σ c g R q => h L H σ c g _ fun vs H2 e2 r => by
  cases r with
  | cons r r2 =>
    cases r2
    cases r with
    | lst ha hv => exact ⟨_, _, rfl, sqL ha, q _ H2 e2 (wk_enum ha hv)⟩
theorem ei_range1 {ta : TA} {n : Int} (h : EvA X Φ ta Γ [.int n]) (h1 : -(2 ^ 62) ≤ n) (h2 : n < 2 ^ 62) : EvI X Φ (iRng1 ta) Γ (rgD 0 1 n.toNat) := fun L H σ c g R q => h L H σ c g _ fun vs H2 e2 r => by
  cases r with
  | cons r r2 =>
    cases r2
    cases r
    exact ⟨n, rfl, h1, h2, q _ H2 e2 wk_range⟩
theorem ei_range2 {ta : TA} {m n : Int} (h : EvA X Φ ta Γ [.int m, .int n]) (h1 : -(2 ^ 62) ≤ m ∧ m < 2 ^ 62 ∧ -(2 ^ 62) ≤ n ∧ n < 2 ^ 62) : EvI X Φ (iRng2 ta) Γ (rgD m 1 (n - m).toNat) := fun L H σ c g R q => h L H σ c g _ fun vs H2 e2 r => by
  cases r with
  | cons r r2 =>
    cases r2 with
    | cons r2 r3 =>
      cases r3
      cases r
      cases r2
      exact ⟨m, n, rfl, h1, q _ H2 e2 wk_range⟩
theorem ei_range3 {ta : TA} {m n k : Int} {z : Nat} (h : EvA X Φ ta Γ [.int m, .int n, .int k]) (h1 : RgC m n k z) : EvI X Φ (iRng3 ta) Γ (rgD m k z) := fun L H σ c g R q => h L H σ c g _ fun vs H2 e2 r => by
  cases r with
  | cons r r2 =>
    cases r2 with
    | cons r2 r3 =>
      cases r3 with
      | cons r3 r4 =>
        cases r4
        cases r
        cases r2
        cases r3
        exact ⟨m, n, k, z, rfl, h1, q _ H2 e2 wk_rangeC⟩
/-! ### targets -/
def Tg (X : Wd) (Φ : Iv) (g : TG) (d : D) (Γ Γ' : Gm) : Prop := ∀ L H σ v, EnvD X Φ L H σ Γ → Dt (hd X Φ L H) v d → ∀ Q : L2.St → Hp → Prop, (∀ σ', EnvD X Φ L H σ' Γ' → Q σ' H) → g v σ H Q
theorem tg_name : Tg X Φ (gName i) d Γ (Γ.set i (.dat d)) := fun L H σ v g r Q q => q _ (g.dat r)
theorem tg_pair {K : PySem.W.Frag} {x y : D} : Tg X Φ (gTup K 2 (gCons (gName i) (gCons (gName j) gNil))) (.tuple [x, y]) Γ ((Γ.set i (.dat x)).set j (.dat y)) := fun L H σ v g r Q q => by
  cases r with
  | tup ha hv =>
    cases hv with
    | cons r1 hv =>
      cases hv with
      | cons r2 hv =>
        cases hv
        exact ⟨_, _, rfl, sqT ha, rfl, _, _, rfl, _, _, rfl, rfl, q _ ((g.dat r1).dat r2)⟩
theorem tg_three {K : PySem.W.Frag} {x y z : D} {k : Nat} : Tg X Φ (gTup K 3 (gCons (gName i) (gCons (gName j) (gCons (gName k) gNil)))) (.tuple [x, y, z]) Γ (((Γ.set i (.dat x)).set j (.dat y)).set k (.dat z)) := fun L H σ v g r Q q => by
  cases r with
  | tup ha hv =>
    cases hv with
    | cons r1 hv =>
      cases hv with
      | cons r2 hv =>
        cases hv with
        | cons r3 hv =>
          cases hv
          exact ⟨_, _, rfl, sqT ha, rfl, _, _, rfl, _, _, rfl, _, _, rfl, rfl, q _ (((g.dat r1).dat r2).dat r3)⟩
theorem fw_asgT {g : TG} (h : Ev X Φ te Γ d) (ht : Tg X Φ g d Γ Γ') (n : N Γ' Φ) : FW X (tAsg te g) Γ Φ N R := fun L H σ D c gg k r =>
  h L H σ c gg _ fun v H1 e1 r1 => ht L H1 σ v (gg.up e1) r1 _ fun σ' g' => k L H1 σ' Γ' Φ (c.up e1) (Same.s (Same.hid e1)) g' n
/-! ### for -/
theorem fw_for {wi : TI} {g : TG} {tb : TS} {ds : List D} (hi : EvI X Φ wi Γ ds) (I : Nat → Gm → Iv → Prop) (h0 : I 0 Γ Φ)
    (hs : ∀ (k : Nat) d Γ1 Φ1, ds[k]? = some d → I k Γ1 Φ1 → ∃ Γ2, Tg X Φ1 g d Γ1 Γ2 ∧ FW X tb Γ2 Φ1 (I (k + 1)) R) (hn : ∀ Γ1 Φ1, I ds.length Γ1 Φ1 → N Γ1 Φ1) : FW X (tFor wi g tb) Γ Φ N R := fun L H σ D c gg k r =>
  hi L H σ c gg _ fun J Ha e1 wk => by
    refine ⟨fun i m σ1 H1 => m = ds.length - i ∧ i ≤ ds.length ∧ ∃ L1 Γ1 Φ1, Cur X Φ1 L1 H1 ∧ SameS (hd X Φ L Ha) (hd X Φ1 L1 H1) ∧ EnvD X Φ1 L1 H1 σ1 Γ1 ∧ I i Γ1 Φ1, ⟨ds.length, by simp, Nat.zero_le _, L, Γ, Φ, c.up e1, SameS.refl _, gg.up e1, h0⟩, ?_⟩
    rintro i m σ1 H1 ⟨rfl, hle, L1, Γ1, Φ1, c1, s1, g1, i1⟩
    obtain ⟨go, stop⟩ := wk _ H1 s1 c1.lv
    by_cases hlt : i < ds.length
    · obtain ⟨y1, y2⟩ := go i ds[i] (by simp [hlt])
      obtain ⟨Γ2, ht, hb⟩ := hs i ds[i] Γ1 Φ1 (by simp [hlt]) i1
      refine .inr ⟨y1, fun σ' H' => ∃ L' Γ' Φ', Cur X Φ' L' H' ∧ SameS (hd X Φ L Ha) (hd X Φ' L' H') ∧ EnvD X Φ' L' H' σ' Γ' ∧ I (i + 1) Γ' Φ', fun σ' H' z => ⟨_, by omega, rfl, hlt, z⟩, fun x H' y => ?_⟩
      obtain ⟨e2, rx⟩ := y2 x H' y
      refine ht L1 H' σ1 x (g1.up e2) rx _ fun σ2 g2 => ?_
      refine hb L1 H' σ2 _ (c1.up e2) g2 (fun L3 H3 σ3 Γ3 Φ3 c3 s3 g3 n3 => ⟨L3, Γ3, Φ3, c3, (s1.trans (Same.s (Same.hid e2))).trans s3, g3, n3⟩) r
    · have e : i = ds.length := by omega
      subst e
      exact .inl ⟨stop, k L1 H1 σ1 Γ1 Φ1 c1 ((Same.s (Same.hid e1)).trans s1) g1 (hn Γ1 Φ1 i1)⟩
/-! ### while -/
theorem fw_while {tb : TS} (I : Nat → Gm → Iv → Prop) (m : Nat) (h0 : I m Γ Φ) (hs : ∀ m Γ1 Φ1, I m Γ1 Φ1 → ∃ b, EvT X Φ1 tt Γ1 b ∧ (b = true → FW X tb Γ1 Φ1 (fun Γ2 Φ2 => ∃ m', m' < m ∧ I m' Γ2 Φ2) R) ∧ (b = false → N Γ1 Φ1)) : FW X (tWhile tt tb) Γ Φ N R := fun L H σ D c gg k r => by
  refine ⟨fun m σ1 H1 => ∃ L1 Γ1 Φ1, Cur X Φ1 L1 H1 ∧ SameS (hd X Φ L H) (hd X Φ1 L1 H1) ∧ EnvD X Φ1 L1 H1 σ1 Γ1 ∧ I m Γ1 Φ1, ⟨m, L, Γ, Φ, c, SameS.refl _, gg, h0⟩, ?_⟩
  rintro m σ1 H1 ⟨L1, Γ1, Φ1, c1, s1, g1, i1⟩
  obtain ⟨b, ht, h1, h2⟩ := hs m Γ1 Φ1 i1
  refine ht L1 H1 σ1 c1 g1 _ fun H2 e2 => ?_
  have s2 := s1.trans (Same.s (Same.hid (M := hdn X Φ1 L1) e2))
  cases b with
  | true =>
    refine ⟨fun σ' H' => ∃ L' Γ' Φ', Cur X Φ' L' H' ∧ SameS (hd X Φ L H) (hd X Φ' L' H') ∧ EnvD X Φ' L' H' σ' Γ' ∧ ∃ m', m' < m ∧ I m' Γ' Φ', fun σ' H' z => ?_, ?_⟩
    · obtain ⟨L', Γ', Φ', a1, a2, a3, m', a4, a5⟩ := z
      exact ⟨m', a4, L', Γ', Φ', a1, a2, a3, a5⟩
    · exact h1 rfl L1 H2 σ1 _ (c1.up e2) (g1.up e2) (fun L3 H3 σ3 Γ3 Φ3 c3 s3 g3 n3 => ⟨L3, Γ3, Φ3, c3, s2.trans s3, g3, n3⟩) r
  | false => exact k L1 H2 σ1 Γ1 Φ1 (c1.up e2) s2 (g1.up e2) (h2 rfl)
/-! ### comprehensions -/
def wipeG (Γ : Gm) : List Nat → Gm
  | [] => Γ
  | v :: vs => (wipeG Γ vs).set v .no
theorem EnvD.drop (g : EnvD X Φ L H σ Γ) (i : Nat) : EnvD X Φ L H (σ.set i none) (Γ.set i .no) := by
  refine ⟨by simp [g.len], fun j s e => ?_⟩
  by_cases hij : i = j
  · subst hij
    have hi : i < Γ.length := by
      have := (List.getElem?_eq_some_iff.mp e).1
      simpa using this
    rw [List.getElem?_set_self hi] at e
    cases e
    trivial
  · rw [List.getElem?_set_ne hij] at e
    rw [List.getElem?_set_ne hij]
    exact g.ok j s e
theorem EnvD.wipe (g : EnvD X Φ L H σ Γ) : ∀ vs : List Nat, EnvD X Φ L H (wipe σ vs) (wipeG Γ vs)
  | [] => g
  | v :: vs => (EnvD.wipe g vs).drop v
/-- a target that stores the names vs alone -/
def TgW (X : Wd) (Φ : Iv) (g : TG) (vs : List Nat) (d : D) (Γ Γ' : Gm) : Prop := ∀ L H σ v, EnvD X Φ L H σ Γ → Dt (hd X Φ L H) v d → ∀ Q : L2.St → Hp → Prop, (∀ σ', EnvD X Φ L H σ' Γ' → wipe σ' vs = wipe σ vs → Q σ' H) → g v σ H Q
theorem wipe_set1 (σ : L2.St) (i : Nat) (x : Option V) : wipe (σ.set i x) [i] = wipe σ [i] := by
  show (σ.set i x).set i none = σ.set i none
  rw [List.set_set]
theorem tgw_name : TgW X Φ (gName i) [i] d Γ (Γ.set i (.dat d)) := fun L H σ v g r Q q => q _ (g.dat r) (wipe_set1 _ _ _)
theorem tgw_pair {K : PySem.W.Frag} {x y : D} : TgW X Φ (gTup K 2 (gCons (gName i) (gCons (gName j) gNil))) [i, j] (.tuple [x, y]) Γ ((Γ.set i (.dat x)).set j (.dat y)) := fun L H σ v g r Q q => by
  cases r with
  | tup ha hv =>
    cases hv with
    | cons r1 hv =>
      cases hv with
      | cons r2 hv =>
        cases hv
        refine ⟨_, _, rfl, sqT ha, rfl, _, _, rfl, _, _, rfl, rfl, q _ ((g.dat r1).dat r2) ?_⟩
        show (((σ.set i _).set j _).set j none).set i none = (σ.set j none).set i none
        rw [List.set_set]
        by_cases hij : i = j
        · subst hij
          rw [List.set_set, List.set_set, List.set_set]
        · rw [List.set_comm _ _ (Ne.symm hij), List.set_set, List.set_comm _ _ hij]
theorem ev_lc0 {α : Type} {wi : TI} {g : TG} {tt : TT} {te : TE} {vs : List Nat} {xs : List α} {enc : α → D} (p : α → Bool) (f : α → D) (hi : EvI X Φ wi Γ (xs.map enc)) (hz : xs.length < 100000)
    (hs : ∀ x ∈ xs, ∃ Γ2, TgW X Φ g vs (enc x) (wipeG Γ vs) Γ2 ∧ EvT X Φ tt Γ2 (p x) ∧ (p x = true → Ev X Φ te Γ2 (f x))) :
    ∀ L H σ, Cur X Φ L H → EnvD X Φ L H σ Γ → ∀ Q : VK, (∀ D us H1, Same H H1 → H D = none → D ∉ hdn X Φ L → H1 D = some (.lst us) → Dts (hd X Φ ((0, D) :: L) H1) us ((xs.filter p).map f) → Q (.ref D) H1) → tLc wi g tt te vs σ H Q := fun L H σ c gg Q q =>
  hi L H σ c gg _ fun J Ha e1 wk => by
    intro D hD
    have c1 := c.up e1
    have g1 := gg.up e1
    have nD : D ∉ hdn X Φ L := c1.lv.out hD
    refine ⟨fun i m H1 => m = xs.length - i ∧ i ≤ xs.length ∧ Same Ha H1 ∧ ∃ us, H1 D = some (.lst us) ∧ Dts (hd X Φ ((0, D) :: L) H1) us (((xs.take i).filter p).map f), ⟨xs.length, by simp, Nat.zero_le _, new_same hD, [], upd_same, by simpa using Paired.nil⟩, ?_⟩
    rintro i m H1 ⟨rfl, hle, s1, us, hus, rus⟩
    have up : Same (hd X Φ L Ha) (hd X Φ ((0, D) :: L) H1) := by
      rw [← hd_cons (X := X) (Φ := Φ) (L := L) (i := 0) hD]
      exact Same.hid s1
    have cD : Cur X Φ ((0, D) :: L) H1 := by
      refine ⟨c1.but.trans (But.of s1), fun a m z => ?_, fun p hp => ?_, (fun p hp => ?_), ?_, fun p hp => ?_, Iv.same s1 (Same.s up) c1.at_⟩
      · rcases mem_cons_hdn.mp m with rfl | m
        · rw [hus] at z
          cases z
        · exact (c1.lv.mono s1) a m z
      · rcases List.mem_cons.mp hp with rfl | hp
        · exact c1.but.free hD
        · exact c.new p hp
      · rcases List.mem_cons.mp hp with rfl | hp
        · exact fun z => nD (Or.inr (Or.inl z))
        · exact c.om p hp
      · rw [List.map_cons, List.nodup_cons]
        exact ⟨fun z => nD (Or.inl z), c.nd⟩
      · rcases List.mem_cons.mp hp with rfl | hp
        · exact fun z => nD (Or.inr (Or.inr z))
        · exact c.dj p hp
    have gD : EnvD X Φ ((0, D) :: L) H1 σ Γ := by
      refine ⟨g1.len, fun j s hj => ?_⟩
      have z := g1.ok j s hj
      cases s with
      | no => trivial
      | dat d =>
        obtain ⟨v, h1, h2⟩ := z
        exact ⟨v, h1, h2.mono (Same.s up)⟩
      | val v => exact z
      | own ds =>
        obtain ⟨l', vs2, g1, g2, g3, g4⟩ := z
        exact ⟨l', vs2, g1, List.mem_cons_of_mem _ g2, s1 _ _ g3, g4.mono (Same.s up)⟩
      | tre d =>
        obtain ⟨v, A, g1, g2, g4, g3⟩ := z
        exact ⟨v, A, g1, fun l hl => List.mem_cons_of_mem _ (g2 l hl), fun l hl => (g4 l hl).imp fun _ z => s1 _ _ z, g3.mono (tgv_mono (fun l _ o h => s1 l o h) (Same.s up))⟩
    obtain ⟨go, stop⟩ := wk _ H1 (Same.s up) cD.lv
    rw [List.length_map] at stop
    by_cases hlt : i < xs.length
    · obtain ⟨y1, y2⟩ := go i (enc xs[i]) (by simp [hlt])
      obtain ⟨Γ2, ht, ht2, ht3⟩ := hs xs[i] (List.getElem_mem hlt)
      have tk : xs.take (i + 1) = xs.take i ++ [xs[i]] := by rw [List.take_add_one]; simp [hlt]
      refine .inr ⟨y1, fun H' => Same Ha H' ∧ ∃ us, H' D = some (.lst us) ∧ Dts (hd X Φ ((0, D) :: L) H') us (((xs.take (i + 1)).filter p).map f), fun H' z => ⟨_, by omega, rfl, hlt, z⟩, fun x H' y => ?_⟩
      obtain ⟨e2, rx⟩ := y2 x H' y
      refine ht ((0, D) :: L) H' (L2.wipe σ vs) x ((gD.up e2).wipe vs) rx _ fun σ2 g2 w2 => ⟨?_, ?_⟩
      · rw [w2]
        exact wipe_wipe σ vs
      refine ht2 _ H' σ2 (cD.up e2) g2 _ fun H3 e3 => ?_
      cases hp : p xs[i] with
      | true =>
        show te σ2 H3 _
        refine ht3 hp _ H3 σ2 (cD.up (e2.trans e3)) (g2.up e3) _ fun y H4 e4 ry => ?_
        have e24 := (e2.trans e3).trans e4
        refine ⟨us, e24 _ _ hus, ?_, ?_, us ++ [y], upd_same, ?_⟩
        · have := rus.len
          have h3 : ((List.map f (List.filter p (List.take i xs))).length : Nat) ≤ xs.length := by
            rw [List.length_map]
            exact Nat.le_trans (List.length_filter_le _ _) (by simp; omega)
          exact Nat.lt_of_lt_of_le (by omega) (by decide : 100000 ≤ sizeLine)
        · intro a o ha
          rw [upd_ne (ne_of_none ha hD)]
          exact e24 _ _ (s1 _ _ ha)
        · have eq : hd X Φ ((0, D) :: L) (upd H4 D (.lst (us ++ [y]))) = hd X Φ ((0, D) :: L) H4 := hid_upd (mem_cons_hdn.mpr (.inl rfl))
          rw [eq, tk, List.filter_append, List.map_append]
          refine (rus.mono (Same.s (Same.hid e24))).app ?_
          rw [List.filter_cons, hp]
          exact .cons ry .nil
      | false =>
        show Same Ha H3 ∧ _
        refine ⟨(s1.trans e2).trans e3, us, (e2.trans e3) _ _ hus, ?_⟩
        rw [tk, List.filter_append, List.map_append, List.filter_cons, hp]
        have z : Dts (hd X Φ ((0, D) :: L) H3) us (((xs.take i).filter p).map f) := rus.mono (Same.s (Same.hid (e2.trans e3)))
        have e0 : ((xs.take i).filter p).map f ++ (if false = true then xs[i] :: List.filter p [] else List.filter p []).map f = ((xs.take i).filter p).map f := by simp
        rw [e0]
        exact z
    · have e : i = xs.length := by omega
      subst e
      rw [List.take_length] at rus
      exact .inl ⟨stop, q D us H1 (e1.trans s1) (e1.free hD) nD hus rus⟩
where
  wipe_wipe (σ : L2.St) : ∀ vs : List Nat, L2.wipe (L2.wipe σ vs) vs = L2.wipe σ vs := fun vs => by
    refine List.ext_getElem? fun k => ?_
    by_cases hk : k ∈ vs
    · rw [wiped (σ := L2.wipe σ vs) hk, wiped (σ := σ) hk, wipe_length]
    · rw [wipe_out hk]
  wiped {σ : L2.St} {k : Nat} : ∀ {vs : List Nat}, k ∈ vs → (L2.wipe σ vs)[k]? = if k < σ.length then some none else none
    | v :: vs, h => by
      show ((L2.wipe σ vs).set v none)[k]? = _
      by_cases e : v = k
      · subst e
        by_cases hl : v < σ.length
        · rw [if_pos hl, List.getElem?_set_self (by rw [wipe_length]; exact hl)]
        · rw [if_neg hl, List.getElem?_eq_none (by rw [List.length_set, wipe_length]; omega)]
      · rw [List.getElem?_set_ne e]
        exact wiped ((List.mem_cons.mp h).elim (fun z => absurd z.symm e) id)
theorem ev_lc {α : Type} {wi : TI} {g : TG} {tt : TT} {te : TE} {vs : List Nat} {xs : List α} {enc : α → D} (p : α → Bool) (f : α → D) (hi : EvI X Φ wi Γ (xs.map enc)) (hz : xs.length < 100000)
    (hs : ∀ x ∈ xs, ∃ Γ2, TgW X Φ g vs (enc x) (wipeG Γ vs) Γ2 ∧ EvT X Φ tt Γ2 (p x) ∧ (p x = true → Ev X Φ te Γ2 (f x))) : Ev X Φ (tLc wi g tt te vs) Γ (.list ((xs.filter p).map f)) := fun L H σ c gg Q q =>
  ev_lc0 p f hi hz hs L H σ c gg Q fun D us H1 e n nD h r => q _ H1 e (.lst ((hid_out nD).trans h) (r.mono (Same.s (hid_sub fun a ha => mem_cons_hdn.mpr (.inr ha)))))
theorem et_yes : EvT X Φ tYes Γ true := fun L H σ c g Q q => q H (Same.refl H)
/-- [e for x in xs] -/
theorem ev_lcm {α : Type} {wi : TI} {g : TG} {te : TE} {vs : List Nat} {xs : List α} {enc : α → D} (f : α → D) (hi : EvI X Φ wi Γ (xs.map enc)) (hz : xs.length < 100000)
    (hs : ∀ x ∈ xs, ∃ Γ2, TgW X Φ g vs (enc x) (wipeG Γ vs) Γ2 ∧ Ev X Φ te Γ2 (f x)) : Ev X Φ (tLc wi g tYes te vs) Γ (.list (xs.map f)) := by
  have h := ev_lc (tt := tYes) (p := fun _ => true) f hi hz fun x hx => by
    obtain ⟨Γ2, h1, h2⟩ := hs x hx
    exact ⟨Γ2, h1, et_yes, fun _ => h2⟩
  rwa [List.filter_eq_self.mpr fun _ _ => rfl] at h
theorem ei_seqL {K : PySem.W.Frag} {ds : List D} (h : Ev X Φ te Γ (.list ds)) : EvI X Φ (iSeqU K te) Γ ds := fun L H σ c g R q => .inl (ei_list h L H σ c g R q)
theorem ei_seqT {K : PySem.W.Frag} {ds : List D} (h : Ev X Φ te Γ (.tuple ds)) : EvI X Φ (iSeqU K te) Γ ds := fun L H σ c g R q => .inr (.inl (ei_tup h L H σ c g R q))
theorem ei_eq {wi : TI} {ds es : List D} (h : EvI X Φ wi Γ ds) (e' : ds = es) : EvI X Φ wi Γ es := e' ▸ h
/-! ### statements that leave Φ -/
section
variable {N N1 : Gm → Prop} {R : D → Prop}
theorem sw_mono (h : SW X Φ t Γ N1 R) (hn : ∀ Γ', N1 Γ' → N Γ') : SW X Φ t Γ N R := fw_mono h fun Γ' Φ' z => ⟨z.1, hn Γ' z.2⟩
theorem sw_seq (h1 : SW X Φ t Γ N1 R) (h2 : ∀ Γ', N1 Γ' → SW X Φ u Γ' N R) : SW X Φ (tSeq t u) Γ N R := fw_seq h1 fun Γ' Φ' ⟨e, n⟩ => by
  subst e
  exact h2 Γ' n
theorem sw_then (h1 : SW X Φ t Γ (· = Γ') R) (h2 : SW X Φ u Γ' N R) : SW X Φ (tSeq t u) Γ N R := sw_seq h1 fun _ e => e ▸ h2
theorem sw_next (h : N Γ) : SW X Φ tNext Γ N R := fw_next ⟨rfl, h⟩
theorem sw_asg (h : Ev X Φ te Γ d) : SW X Φ (tAsg te (gName i)) Γ (· = Γ.set i (.dat d)) R := fw_asg h ⟨rfl, rfl⟩
theorem sw_asgV (h : EvV X Φ te Γ v) : SW X Φ (tAsg te (gName i)) Γ (· = Γ.set i (.val v)) R := fw_asgV h ⟨rfl, rfl⟩
theorem sw_asgT {g : TG} (h : Ev X Φ te Γ d) (ht : Tg X Φ g d Γ Γ') : SW X Φ (tAsg te g) Γ (· = Γ') R := fw_asgT h ht ⟨rfl, rfl⟩
theorem sw_ret (h : Ev X Φ te Γ d) (hr : R d) : SW X Φ (tRet te) Γ N R := fw_ret h ⟨rfl, d, rfl, hr⟩
theorem sw_drop (h : Ev X Φ te Γ d) : SW X Φ (tDrop te) Γ (· = Γ) R := fw_drop h ⟨rfl, rfl⟩
theorem sw_if (h : EvT X Φ tt Γ b) (h1 : b = true → SW X Φ t Γ N R) (h2 : b = false → SW X Φ u Γ N R) : SW X Φ (tIfS tt t u) Γ N R := fw_if h h1 h2
theorem sw_own0 : SW X Φ (tAsg (tLst tNil) (gName i)) Γ (· = Γ.set i (.own [])) R := fw_own0 ⟨rfl, rfl⟩
theorem sw_app {K : PySem.W.Frag} {ds : List D} (ho : Γ[i]? = some (.own ds)) (h : Ev X Φ te Γ d) (hz : ds.length < 100000) : SW X Φ (tDrop (tBM K "list" rAppend (tVar i) (tCons te tNil))) Γ (· = Γ.set i (.own (ds ++ [d]))) R := fw_app ho h hz ⟨rfl, rfl⟩
theorem sw_ext {K : PySem.W.Frag} {ds es : List D} (ho : Γ[i]? = some (.own ds)) (h : Ev X Φ te Γ (.list es)) (hz : ds.length + es.length ≤ 100000) : SW X Φ (tDrop (tBM K "list" rExtend (tVar i) (tCons te tNil))) Γ (· = Γ.set i (.own (ds ++ es))) R := fw_ext ho h hz ⟨rfl, rfl⟩
theorem sw_retOwn {ds : List D} (ho : Γ[i]? = some (.own ds)) (hr : R (.list ds)) : SW X Φ (tRet (tVar i)) Γ N R := fw_retOwn ho ⟨rfl, _, rfl, hr⟩
theorem sw_freeze {ds : List D} (ho : Γ[i]? = some (.own ds)) (h : SW X Φ t (Γ.set i (.dat (.list ds))) N R) : SW X Φ t Γ N R := fw_freeze ho h
theorem sw_for {wi : TI} {g : TG} {tb : TS} {ds : List D} (hi : EvI X Φ wi Γ ds) (I : Nat → Gm → Prop) (h0 : I 0 Γ)
    (hs : ∀ (k : Nat) d Γ1, ds[k]? = some d → I k Γ1 → ∃ Γ2, Tg X Φ g d Γ1 Γ2 ∧ SW X Φ tb Γ2 (I (k + 1)) R) (hn : ∀ Γ1, I ds.length Γ1 → N Γ1) : SW X Φ (tFor wi g tb) Γ N R :=
  fw_for hi (fun k Γ1 Φ1 => Φ1 = Φ ∧ I k Γ1) ⟨rfl, h0⟩ (fun k d Γ1 Φ1 hk hI => by
    obtain ⟨rfl, hI⟩ := hI
    exact hs k d Γ1 hk hI) fun Γ1 Φ1 hI => ⟨hI.1, hn Γ1 hI.2⟩
theorem sw_while {tb : TS} (I : Gm → Prop) (μ : Gm → Nat) (h0 : I Γ) (hs : ∀ Γ1, I Γ1 → ∃ b, EvT X Φ tt Γ1 b ∧ (b = true → SW X Φ tb Γ1 (fun Γ2 => I Γ2 ∧ μ Γ2 < μ Γ1) R) ∧ (b = false → N Γ1)) : SW X Φ (tWhile tt tb) Γ N R :=
  fw_while (fun m Γ1 Φ1 => Φ1 = Φ ∧ I Γ1 ∧ m = μ Γ1) (μ Γ) ⟨rfl, h0, rfl⟩ fun m Γ1 Φ1 hI => by
    obtain ⟨rfl, hI, rfl⟩ := hI
    obtain ⟨b, h1, h2, h3⟩ := hs Γ1 hI
    exact ⟨b, h1, fun hb => fw_mono (h2 hb) fun Γ' Φ' z => ⟨μ Γ', z.2.2, z.1, z.2.1, rfl⟩, fun hb => ⟨rfl, h3 hb⟩⟩
end
end
end SE

set_option Elab.async false
set_option linter.all false
set_option maxRecDepth 100000
set_option maxHeartbeats 4000000
/-! Promises: defs over trees; the store; the file. -/
namespace Sp
open PySem L2 SM SR SD SE
/-- where the classes stand -/
structure Ad where
  (File Store SpillError BadFile BadRows BadKey BadWorth NoRow Full NoMark Stopped BadCount BadDeeds BadPicture BadStep BadText : Addr)
/-- what a def comes to -/
inductive Rs where
  | ok (d : D)
  | er (c : Addr)
  | ef (c : Addr) (f : Str) (n : Int)
/-- the ends that a result wishes for, what is hidden being M -/
def RsTo (M : Ads) (H : Hp) (Q : VK) (E : XK) : Option Rs → Prop
  | some (.ok d) => ∀ v H', Same H H' → Dt (hid M H') v d → Q v H'
  | some (.er c) => ∀ H', Same H H' → E (.ref c) none H'
  | some (.ef c f n) => ∀ b H', Same H H' → H' b = some (.xd [(f, .int n)]) → E (.ref c) (some b) H'
  | none => False
/-- a def that writes nothing of its caller's -/
def SpP (f : List D → Option Rs) : Sp := fun vs H Q E => ∃ M ds, Lv M H ∧ Dts (hid M H) vs ds ∧ RsTo M H Q E (f ds)
/-- .. a method of the object at o, of which At tells -/
def SpO {S : Type} (At : Ads → Hp → Addr → S → Prop) (f : S → List D → Option Rs) : Sp := fun vs H Q E => ∃ M o us s ds, vs = .ref o :: us ∧ Lv M H ∧ At M H o s ∧ Dts (hid M H) us ds ∧ RsTo M H Q E (f s ds)
def ErTo (E : XK) (H' : Hp) : Rs → Prop
  | .ok _ => True
  | .er c => E (.ref c) none H'
  | .ef c f n => ∀ b, H' b = some (.xd [(f, .int n)]) → E (.ref c) (some b) H'
theorem er_of {M : Ads} {H H' : Hp} {Q : VK} {E : XK} {r : Rs} (h : RsTo M H Q E (some r)) (x : But [] H H') : ErTo E H' r := by
  cases r with
  | ok d => trivial
  | er c => exact h H' x.same
  | ef c f n => exact fun b hb => h b H' x.same hb
section
variable {X : Wd} {Φ : Iv} {M : Ads} {H : Hp} {Γ : Gm} {L : Lo} {σ : L2.St} {d : D} {E : XK} {te to : TE} {ta : TA} {o C : Addr} {m : Str} {ds : List D} {r : Rs}
/-- an expression that may raise -/
def EvR (X : Wd) (Φ : Iv) (te : TE) (Γ : Gm) (E : XK) (r : Rs) : Prop := ∀ L H σ, Cur X Φ L H → EnvD X Φ L H σ Γ → ∀ Q : VK, RsTo (hdn X Φ L) H Q E (some r) → te σ H Q
theorem ev_ok (h : EvR X Φ te Γ E (.ok d)) : Ev X Φ te Γ d := fun L H σ c g Q q => h L H σ c g Q q
theorem er_callP {f : List D → Option Rs} (h : EvA X Φ ta Γ ds) (e : f ds = some r) : EvR X Φ (tCall (SpP f) [] E ta) Γ E r := fun L H σ c g Q q => h L H σ c g _ fun vs H1 e1 rr => by
  rw [List.append_nil]
  refine ⟨_, ds, (c.up e1).lv, rr, ?_⟩
  rw [e]
  cases r with
  | ok d => exact fun v H' e2 r2 => q v H' (e1.trans e2) r2
  | er z => exact fun H' e2 => q H' (e1.trans e2)
  | ef z x n => exact fun b H' e2 hb => q b H' (e1.trans e2) hb
theorem ev_callP {f : List D → Option Rs} (h : EvA X Φ ta Γ ds) (e : f ds = some (.ok d)) : Ev X Φ (tCall (SpP f) [] E ta) Γ d := ev_ok (er_callP h e)
/-- a method of an object that is told by At -/
theorem er_meth {S : Type} {At : Ads → Hp → Addr → S → Prop} {f : S → List D → Option Rs} {s : S} (ho : EvV X Φ to Γ (.ref o)) (hi : ∀ N G, Φ.p N G → ∃ dx fs, G o = some (.ins C dx fs) ∧ fs.lookup m = none)
    (hat : ∀ N G, Φ.p N G → At N G o s) (ha : EvA X Φ ta Γ ds) (e : f s ds = some r) : EvR X Φ (tMeth C m (SpO At f) [] E to ta) Γ E r := fun L H σ c g Q q =>
  ho L H σ c g _ fun H1 e1 => by
    obtain ⟨dx, fs, h1, h2⟩ := hi _ _ (c.up e1).at_
    refine ⟨o, dx, fs, rfl, h1, h2, ha L H1 σ (c.up e1) (g.up e1) _ fun vs H2 e2 rr => ?_⟩
    have cc := c.up (e1.trans e2)
    rw [List.append_nil]
    refine ⟨_, o, vs, s, ds, rfl, cc.lv, hat _ _ cc.at_, rr, ?_⟩
    rw [e]
    cases r with
    | ok d => exact fun v H' e3 r3 => q v H' ((e1.trans e2).trans e3) r3
    | er z => exact fun H' e3 => q H' ((e1.trans e2).trans e3)
    | ef z x n => exact fun b H' e3 hb => q b H' ((e1.trans e2).trans e3) hb
theorem rs_end {Q : VK} {N : Ads} {H' : Hp} (c : Cur X Φ L H) (hk : ∀ d, r = .ok d → ∀ v H', Same H H' → Dt (hid N H') v d → Q v H') (hx : ∀ L H', Cur X Φ L H' → ErTo E H' r) : RsTo N H Q E (some r) := by
  cases r with
  | ok d => exact hk d rfl
  | er z => exact fun H' e => hx L H' (c.up e)
  | ef z x n => exact fun b H' e hb => hx L H' (c.up e) b hb
theorem fw_dropR {N : Gm → Iv → Prop} {R : Ro → Iv → Prop} (h : EvR X Φ te Γ E r) (hn : ∀ d, r = .ok d → N Γ Φ) (hx : ∀ L H', Cur X Φ L H' → ErTo E H' r) : FW X (tDrop te) Γ Φ N R := fun L H σ D c g k _ =>
  h L H σ c g _ (rs_end (H' := H) c (fun d e v H' e2 r2 => k L H' σ Γ Φ (c.up e2) (Same.s (Same.hid e2)) (g.up e2) (hn d e)) hx)
theorem fw_retR {N : Gm → Iv → Prop} {R : Ro → Iv → Prop} (h : EvR X Φ te Γ E r) (hr : ∀ d, r = .ok d → R (.dat d) Φ) (hx : ∀ L H', Cur X Φ L H' → ErTo E H' r) : FW X (tRet te) Γ Φ N R := fun L H σ D c g _ k =>
  h L H σ c g _ (rs_end (H' := H) c (fun d e v H' e2 r2 => k v (.dat d) H' Φ (c.up e2).but (c.up e2).end_ (r2.mono (Same.s (c.up e2).sub)) (hr d e)) hx)
theorem fw_asgR {N : Gm → Iv → Prop} {R : Ro → Iv → Prop} {i : Nat} (h : EvR X Φ te Γ E r) (hn : ∀ d, r = .ok d → N (Γ.set i (.dat d)) Φ) (hx : ∀ L H', Cur X Φ L H' → ErTo E H' r) : FW X (tAsg te (gName i)) Γ Φ N R := fun L H σ D c g k _ =>
  h L H σ c g _ (rs_end (H' := H) c (fun d e v H' e2 r2 => k L H' _ _ Φ (c.up e2) (Same.s (Same.hid e2)) ((g.up e2).dat r2) (hn d e)) hx)
/-- raise X('..') -/
theorem fw_raise0 {N : Gm → Iv → Prop} {R : Ro → Iv → Prop} {c : Addr} (hx : ∀ L H', Cur X Φ L H' → E (.ref c) none H') : FW X (tRaise0 c E) Γ Φ N R := fun L H σ D cc g _ _ => hx L H cc
/-- raise X(n) -/
theorem fw_raiseF {N : Gm → Iv → Prop} {R : Ro → Iv → Prop} {c : Addr} {f : Str} {n : Int} (ha : EvA X Φ ta Γ [.int n]) (hn : n.natAbs.log2 < 1000) (hx : ∀ L H', Cur X Φ L H' → ErTo E H' (.ef c f n)) : FW X (tRaiseF c f E ta) Γ Φ N R := fun L H σ D cc g _ _ =>
  ha L H σ cc g _ fun vs H1 e1 r => by
    cases r with
    | cons r1 r2 =>
      cases r2
      cases r1
      exact ⟨n, rfl, hn, fun b H2 e2 _ hb => hx L H2 (cc.up (e1.trans e2)) b hb⟩
end
/-! ### defs that change nothing -/
section
variable {Φ : Iv} {M : Ads} {H : Hp} {Γ : Gm} {d : D} {E : XK} {te to : TE} {ta : TA} {r : Rs} {N : Gm → Prop} {R : D → Prop}
abbrev wd (M : Ads) (H : Hp) : Wd := ⟨[], M, H⟩
theorem er_cur {L : Lo} {H' : Hp} {Q : VK} (h : RsTo M H Q E (some r)) (c : Cur (wd M H) Φ L H') : ErTo E H' r := er_of h c.but
theorem sw_dropR (h : EvR (wd M H) Φ te Γ E r) (hn : ∀ d, r = .ok d → N Γ) (hx : (∀ d, r ≠ .ok d) → ∃ Q, RsTo M H Q E (some r)) : SW (wd M H) Φ (tDrop te) Γ N R := fw_dropR h (fun d e => ⟨rfl, hn d e⟩) fun L H' c => by
  cases r with
  | ok d => trivial
  | er z => exact er_cur (hx nofun).choose_spec c
  | ef z x n => exact er_cur (hx nofun).choose_spec c
theorem sw_retR (h : EvR (wd M H) Φ te Γ E r) (hr : ∀ d, r = .ok d → R d) (hx : (∀ d, r ≠ .ok d) → ∃ Q, RsTo M H Q E (some r)) : SW (wd M H) Φ (tRet te) Γ N R := fw_retR h (fun d e => ⟨rfl, d, rfl, hr d e⟩) fun L H' c => by
  cases r with
  | ok d => trivial
  | er z => exact er_cur (hx nofun).choose_spec c
  | ef z x n => exact er_cur (hx nofun).choose_spec c
theorem sw_raise0 {c : Addr} {Q : VK} (hr : RsTo M H Q E (some (.er c))) : SW (wd M H) Φ (tRaise0 c E) Γ N R := fw_raise0 fun L H' cc => er_cur (r := .er c) hr cc
theorem sw_raiseF {c : Addr} {f : Str} {n : Int} {Q : VK} (ha : EvA (wd M H) Φ ta Γ [.int n]) (hn : n.natAbs.log2 < 1000) (hr : RsTo M H Q E (some (.ef c f n))) : SW (wd M H) Φ (tRaiseF c f E ta) Γ N R := fw_raiseF ha hn fun L H' cc => er_cur hr cc
/-- what holds at the entry -/
structure At0 (Φ : Iv) (M : Ads) (H : Hp) : Prop where
  lv : ∀ b ∈ Φ.fp, H b ≠ none
  s : SameS (hid M H) (hid (HAppend.hAppend M Φ.fp) H)
  p : Φ.p M H
theorem At0.nil : At0 Iv.nil M H := ⟨nofun, fun b o h z => by
  obtain ⟨m, h⟩ := hid_some h
  exact (hid_out (show ¬ (b ∈ M ∨ b ∈ []) from fun y => y.elim m nofun)).trans h, trivial⟩
theorem At0.cur {A : List Addr} (h : At0 Φ M H) (lv : Lv M H) : Cur ⟨A, M, H⟩ Φ [] H := ⟨But.refl _ _, fun a m => by
  rcases m with m | m | m
  · cases m
  · exact lv a m
  · exact h.lv a m, nofun, nofun, List.nodup_nil, nofun, Iv.same (Same.refl H) (h.s.trans (Same.s (hid_sub fun a m => by
  rcases m with m | m
  · cases m
  · exact m))) h.p⟩
theorem start_s (h : At0 Φ M H) {A : List Addr} : SameS (hid M H) (hd ⟨A, M, H⟩ Φ [] H) := h.s.trans (Same.s (hid_sub fun a m => by
  rcases m with m | m
  · cases m
  · exact m))
/-- from the data's walk to the reading -/
theorem sw_fin {t : TS} {N : List Str} {vs : List V} {r : Option Rs} {Q : VK} (lv : Lv M H) (h0 : At0 Φ M H) (g : EnvD (wd M H) Φ [] H (L2.start N vs) Γ) (hs : SW (wd M H) Φ t Γ (fun _ => r = some (.ok .none)) (fun d => r = some (.ok d))) (hr : RsTo M H Q E r) :
    t { nx := fun _ H' => Q .non H', rt := Q } (L2.start N vs) H := by
  refine hs [] H (L2.start N vs) _ (h0.cur lv) g (fun L' H' σ' Γ' Φ' c' s' g' n => ?_) fun v ro H' Φ' b hp rd ed => ?_
  · obtain ⟨rfl, n⟩ := n
    subst n
    exact hr .non H' c'.but.same .non
  · obtain ⟨rfl, d, rfl, ed⟩ := ed
    subst ed
    exact hr v H' b.same (Dt.mono (Same.s (hid_sub fun a ha => Or.inl ha)) rd)
/-- the names at the entry -/
theorem env_start {A : List Addr} {N : List Str} {vs : List V} {ds : List D} (h0 : At0 Φ M H) (r : Dts (hid M H) vs ds) (hl : ds.length ≤ N.length) : EnvD ⟨A, M, H⟩ Φ [] H (L2.start N vs) (ds.map Sl.dat ++ List.replicate (N.length - ds.length) Sl.no) := by
  have hv := r.len
  refine ⟨by simp [L2.start, hv], fun i s e => ?_⟩
  by_cases hi : i < ds.length
  · rw [List.getElem?_append_left (by simpa using hi)] at e
    rw [List.getElem?_map] at e
    cases q : ds[i]? with
    | none =>
      rw [q] at e
      cases e
    | some d =>
      rw [q] at e
      cases e
      obtain ⟨v, h1, h2⟩ := r.get q
      refine ⟨v, ?_, h2.mono (start_s h0)⟩
      unfold L2.start
      rw [List.getElem?_append_left (by simp [hv, hi]), List.getElem?_map, h1]
      rfl
  · rw [List.getElem?_append_right (by simpa using hi)] at e
    have := List.mem_of_getElem? e
    rw [List.eq_of_mem_replicate this]
    trivial
theorem env_startO {A : List Addr} {N : List Str} {o : Addr} {vs : List V} {ds : List D} (h0 : At0 Φ M H) (r : Dts (hid M H) vs ds) (hl : ds.length + 1 ≤ N.length) : EnvD ⟨A, M, H⟩ Φ [] H (L2.start N (.ref o :: vs)) (Sl.val (.ref o) :: (ds.map Sl.dat ++ List.replicate (N.length - (ds.length + 1)) Sl.no)) := by
  have hv := r.len
  refine ⟨by simp [L2.start, hv], fun i s e => ?_⟩
  cases i with
  | zero =>
    cases e
    rfl
  | succ i =>
    rw [List.getElem?_cons_succ] at e
    have hs : (L2.start N (.ref o :: vs))[i + 1]? = (vs.map some ++ List.replicate (N.length - (ds.length + 1)) none)[i]? := by
      unfold L2.start
      rw [List.map_cons, List.cons_append, List.getElem?_cons_succ, List.length_cons, hv]
    by_cases hi : i < ds.length
    · rw [List.getElem?_append_left (by simpa using hi), List.getElem?_map] at e
      cases q : ds[i]? with
      | none =>
        rw [q] at e
        cases e
      | some d =>
        rw [q] at e
        cases e
        obtain ⟨v, h1, h2⟩ := r.get q
        refine ⟨v, ?_, h2.mono (start_s h0)⟩
        rw [hs, List.getElem?_append_left (by simp [hv, hi]), List.getElem?_map, h1]
        rfl
    · rw [List.getElem?_append_right (by simpa using hi)] at e
      have := List.mem_of_getElem? e
      rw [List.eq_of_mem_replicate this]
      trivial
end
end Sp

set_option Elab.async false
set_option linter.all false
set_option maxRecDepth 100000
set_option maxHeartbeats 4000000
/-! isinstance over trees; numbers, rows. -/
namespace Sp
open PySem L2 SM SR SD SE
def tyD : D → String
  | .none => "NoneType"
  | .bool _ => "bool"
  | .int _ => "int"
  | .str _ => "str"
  | .list _ => "list"
  | .tuple _ => "tuple"
  | .dict _ => "dict"
/-- isinstance(x, T) -/
def isTy (d : D) (T : String) : Bool := tyD d == T || (T == "int" && tyD d == "bool")
section
variable {X : Wd} {Φ : Iv} {H : Hp} {Γ : Gm} {L : Lo} {σ : L2.St} {d e : D} {v : V} {K : PySem.W.Frag}
theorem dt_ty {N : Ads} (h : Dt (hid N H) v d) : TyX K H v (.type (tyD d)) := by
  cases h with
  | non => exact .base .non
  | bl b => exact .base (.bl b)
  | int i => exact .base (.int i)
  | str x => exact .base (.str x)
  | lst h1 _ => exact .base (.lst (hid_le _ _ h1))
  | tup h1 _ => exact .base (.tup (hid_le _ _ h1))
theorem kit_names : ∀ s ∈ ["NoneType", "bool", "int", "str", "list", "tuple", "dict"], ∀ T ∈ ["int", "bool", "str", "tuple", "list"], kitB s T = some (s == T || (T == "int" && s == "bool")) := by decide +kernel
theorem kit_all {T : String} (hT : T = "int" ∨ T = "bool" ∨ T = "str" ∨ T = "tuple" ∨ T = "list") : kitB (tyD d) T = some (isTy d T) :=
  kit_names (tyD d) (by cases d <;> simp [tyD]) T (by simpa using hT)
theorem ev_isi {ta : TE} {T : String} (h : Ev X Φ ta Γ d) (hT : T = "int" ∨ T = "bool" ∨ T = "str" ∨ T = "tuple" ∨ T = "list" := by simp) : Ev X Φ (tCB (rIsU K) (tCons ta (tCons (tC (.ty T)) tNil))) Γ (.bool (isTy d T)) := fun L H σ c g Q q =>
  h L H σ c g _ fun v H1 e1 r1 => .inl ⟨v, .ty T, _, _, isTy d T, rfl, .ty T, dt_ty r1, kit_ty (kit_all hT), q _ H1 e1 (.bl _)⟩
theorem ev_isi2 {ta : TE} {T U : String} (h : Ev X Φ ta Γ d) (hT : T = "int" ∨ T = "bool" ∨ T = "str" ∨ T = "tuple" ∨ T = "list" := by simp) (hU : U = "int" ∨ U = "bool" ∨ U = "str" ∨ U = "tuple" ∨ U = "list" := by simp) :
    Ev X Φ (tCB (rIsU K) (tCons ta (tCons (tTup (tCons (tC (.ty T)) (tCons (tC (.ty U)) tNil))) tNil))) Γ (.bool (isTy d T || isTy d U)) := fun L H σ c g Q q =>
  h L H σ c g _ fun v H1 e1 r1 => ⟨by show 2 ≤ sizeLine; decide, fun p hp => .inr ⟨v, p, _, _, _, isTy d T || isTy d U, rfl, upd_same, .cons (.ty T) (.cons (.ty U) .nil), dt_ty (r1.mono (Same.s (Same.hid (new_same hp)))), by
      refine kitAny_cons (kit_ty (kit_all hT)) (fun e => ?_) (fun e => by rw [e]; rfl)
      rw [e, Bool.false_or]
      exact kitAny_cons (kit_ty (kit_all hU)) (fun e => by rw [e]; exact kitAny_nil) (fun e => e), q _ _ (e1.trans (new_same hp)) (.bl _)⟩⟩
end
/-- a number from lo to hi -/
def isNum (d : D) (lo hi : Int) : Bool := match d with
  | .int i => decide (lo ≤ i) && decide (i ≤ hi)
  | _ => false
def f_is_number : List D → Option Rs
  | [d, .int lo, .int hi] => some (.ok (.bool (isNum d lo hi)))
  | _ => none
def sp_is_number (P : Program) (w : World) (K : PySem.W.Frag) (a : Ad) : Sp := SpP f_is_number
def t_is_number (P : Program) (w : World) (K : PySem.W.Frag) (a : Ad) (E : XK) : TS :=
  (tRet (tAndV (tCB (rIsU K) (tCons (tVar 0) (tCons (tC (.ty "int")) tNil))) (tAndV (tNotV (tCB (rIsU K) (tCons (tVar 0) (tCons (tC (.ty "bool")) tNil)))) (tChain rLeI rLeI (tVar 1) (tVar 0) (tVar 2)))))
theorem pure_is_number {P : Program} {w : World} {K : PySem.W.Frag} {a : Ad} (vs : List V) (H : Hp) (Q : VK) (E : XK) (h : sp_is_number P w K a vs H Q E) :
    t_is_number P w K a E { nx := fun _ H' => Q .non H', rt := Q } (L2.start ["part", "low", "high"] vs) H := by
  obtain ⟨M, ds, lv, r, hr⟩ := h
  match ds, r, hr with
  | [d, .int lo, .int hi], r, hr =>
    refine sw_fin lv At0.nil (env_start At0.nil r (by simp)) ?_ hr
    have e : isNum d lo hi = (isTy d "int" && (!isTy d "bool" && isNum d lo hi)) := by
      cases d <;> simp [isNum, isTy, tyD]
    refine sw_ret (d := .bool (isNum d lo hi)) ?_ rfl
    rw [e]
    refine ev_andV (ev_isi (ev_var rfl)) fun h1 => ev_andV (ev_notV (ev_isi (ev_var rfl))) fun h2 => ?_
    cases d with
    | int i => exact ev_chain (ev_var rfl) (ev_var rfl) (ev_var rfl) od_le fun _ => od_le
    | bool b => simp [isTy, tyD] at h2
    | _ => simp [isTy, tyD] at h1
end Sp

set_option Elab.async false
set_option linter.all false
set_option maxRecDepth 100000
set_option maxHeartbeats 4000000
/-! Files as plain lists: definitions. -/
namespace Sp
abbrev Row := Int × Int
abbrev Pg := List Row × Option Nat
abbrev Cl := Row × Option Nat
structure FS where
  room : Nat
  spare : Nat
  which : Nat
  fences : List Int
  pages : List Pg
  spills : List (Option Cl)
  many : Int
  left : Option Int
  down : Bool
  marks : List (Int × Int)
  count : Nat
/-- a chain of spare cells -/
inductive Ch (sp : List (Option Cl)) : Option Nat → List Nat → Prop
  | nil : Ch sp none []
  | cons {n : Nat} {r : Row} {l : Option Nat} {ns : List Nat} : sp[n]? = some (some (r, l)) → Ch sp l ns → Ch sp (some n) (n :: ns)
def chainF (sp : List (Option Cl)) : Nat → Option Nat → List Nat
  | 0, _ => []
  | _, none => []
  | k + 1, some n => match sp[n]? with
    | some (some (_, l)) => n :: chainF sp k l
    | _ => []
def chainOf (S : FS) (pg : Pg) : List Nat := chainF S.spills (S.spills.length + 1) pg.2
/-- the chains of all pages come to an end, over cells that aren't free -/
structure WFc (S : FS) : Prop where
  ch : ∀ pg ∈ S.pages, Ch S.spills pg.2 (chainOf S pg)
  sz : ∀ pg ∈ S.pages, pg.1.length ≤ 4
  np : S.pages.length ≤ 1000
def cellRow (S : FS) (n : Nat) : Row := match S.spills[n]? with
  | some (some (r, _)) => r
  | _ => (0, 0)
def rowsOf (S : FS) (pg : Pg) : List Row := pg.1 ++ (chainOf S pg).map (cellRow S)
def allRows (S : FS) : List Row := S.pages.flatMap (rowsOf S)
def atP (fs : List Int) (key : Int) : Nat := (fs.filter fun f => decide (f < key)).length
def pageAt (S : FS) (key : Int) : Pg := S.pages.getD (atP S.fences key) ([], none)
/-- the last worth of a key -/
def lastVal (rs : List Row) (key : Int) : Option Int := rs.foldl (fun o r => if r.1 = key then some r.2 else o) none
def looksOf (S : FS) (key : Int) : Nat := match (pageAt S key).1.getLast? with
  | none => 1
  | some r => if key ≤ r.1 then 1 else
    1 + min (((chainOf S (pageAt S key)).filter fun n => decide ((cellRow S n).1 < key)).length + 1) (chainOf S (pageAt S key)).length
def manyLooks (S : FS) (pgs : List Pg) : Nat := (pgs.map fun pg => 1 + (chainOf S pg).length).sum
def freeCells (S : FS) : List Nat := (List.range S.spare).filter fun n => (S.spills.getD n none).isNone
/-- rows by so many to a page -/
def parts (n : Nat) : Nat → List Row → List (List Row)
  | 0, _ => []
  | _, [] => []
  | k + 1, r :: rs => (r :: rs).take n :: parts n k ((r :: rs).drop n)
def partsOf (fill : Nat) (rs : List Row) : List (List Row) := if rs = [] then [[]] else parts fill rs.length rs
def fencesOf (ps : List (List Row)) : List Int := ps.dropLast.map fun p => match p.getLast? with
  | some r => r.1
  | none => 0
/-- a new file -/
def mkFS (room fill spare : Nat) (rs : List Row) : FS := { room := room, spare := spare, which := 0, fences := fencesOf (partsOf fill rs), pages := (partsOf fill rs).map fun p => (p, none), spills := List.replicate spare none, many := 0, left := none, down := false, marks := [], count := 0 }
/-- rows as they are drawn -/
structure RowsOk (rs : List Row) : Prop where
  rise : rs.Pairwise fun x y => x.1 < y.1
  num : ∀ r ∈ rs, 0 ≤ r.1 ∧ r.1 ≤ 999 ∧ 0 ≤ r.2 ∧ r.2 ≤ 999
end Sp

set_option Elab.async false
set_option linter.all false
set_option maxRecDepth 100000
set_option maxHeartbeats 4000000
/-! The store and the file over the heap. -/
namespace Sp
open PySem L2 SM SR SD SE
abbrev dRow (r : Row) : D := .tuple [.int r.1, .int r.2]
abbrev dRows (rs : List Row) : D := .tuple (rs.map dRow)
abbrev dLink : Option Nat → D
  | none => .none
  | some n => .int (n : Nat)
abbrev dPage (p : Pg) : D := .tuple [dRows p.1, dLink p.2]
abbrev dCell : Option Cl → D
  | none => .none
  | some c => .tuple [dRow c.1, dLink c.2]
abbrev dRoot (w : Nat) (fs : List Int) : D := .tuple [.int (w : Nat), .tuple (fs.map .int)]
abbrev dPk (w n : Nat) : D := .tuple [.str "page", .int (w : Nat), .int (n : Nat)]
abbrev dSk (n : Nat) : D := .tuple [.str "spill", .int (n : Nat)]
abbrev kRoot : MKey := .inl "root"
abbrev kPage (w n : Nat) : MKey := .inr [.inr "page", .inl (w : Nat), .inl (n : Nat)]
abbrev kSpill (n : Nat) : MKey := .inr [.inr "spill", .inl (n : Nat)]
/-- a tree as a key -/
def keyI : D → Option Key
  | .int i => some (.inl i)
  | .str x => some (.inr x)
  | _ => none
def keyL : List D → Option (List Key)
  | [] => some []
  | d :: ds => match keyI d, keyL ds with
    | some k, some ks => some (k :: ks)
    | _, _ => none
def keyD : D → Option MKey
  | .str x => some (.inl x)
  | .tuple ds => (keyL ds).map .inr
  | _ => none
theorem keyI_v {G : Hp} {v : V} {d : D} {k : Key} (h : Dt G v d) (e : keyI d = some k) : v = kV k := by
  cases h <;> first | (cases e; rfl) | cases e
theorem keyL_v {G : Hp} : ∀ {vs : List V} {ds : List D} {ks : List Key}, Dts G vs ds → keyL ds = some ks → vs = ks.map kV
  | _, _, _, .nil, e => by
    cases e
    rfl
  | _, d :: ds, ks, .cons r t, e => by
    unfold keyL at e
    cases h1 : keyI d with
    | none =>
      rw [h1] at e
      cases e
    | some k =>
      cases h2 : keyL ds with
      | none =>
        rw [h1, h2] at e
        cases e
      | some ks' =>
        rw [h1, h2] at e
        cases e
        rw [List.map_cons, keyI_v r h1, keyL_v t h2]
theorem keyD_m {N : Ads} {H : Hp} {v : V} {d : D} {k : MKey} (h : Dt (hid N H) v d) (e : keyD d = some k) : mKey H k v := by
  cases h with
  | str x =>
    cases e
    rfl
  | @tup b vs ds h1 h2 =>
    have e : (keyL ds).map Sum.inr = some k := e
    cases q : keyL ds with
    | none =>
      rw [q] at e
      cases e
    | some ks =>
      rw [q] at e
      cases e
      rw [keyL_v h2 q] at h1
      exact ⟨_, rfl, hid_le _ _ h1⟩
  | _ => cases e
/-! ### the store -/
structure SS where
  cells : List (MKey × D)
  many : Int
  left : Option Int
  down : Bool
def cellAt (cs : List (MKey × D)) (k : MKey) : Option D := (cs.find? fun c => decide (c.1 = k)).map (·.2)
def putC (cs : List (MKey × D)) (k : MKey) (d : D) : List (MKey × D) :=
  if (cs.any fun c => decide (c.1 = k)) = true then cs.map (fun c => if c.1 = k then (c.1, d) else c) else cs ++ [(k, d)]
def oI : Option Int → V
  | none => .non
  | some i => .int i
def fS (c : Addr) (many : Int) (left : Option Int) (down : Bool) : List (Str × V) := [("cells", .ref c), ("many", .int many), ("left", oI left), ("down", .bl down)]
def fF (room spare : Int) (s mk : Addr) (count : Int) : List (Str × V) := [("room", .int room), ("spare", .int spare), ("store", .ref s), ("marks", .ref mk), ("count", .int count)]
abbrev CP (G : Hp) : List (MKey × V) → List (MKey × D) → Prop := Paired fun p q => p.1 = q.1 ∧ Dt G p.2 q.2
def StAt (P : Program) (w : World) (a : Ad) (M : Ads) (H : Hp) (s c : Addr) (S : SS) : Prop :=
  ∃ dx kvs, H s = some (.ins a.Store dx (fS c S.many S.left S.down)) ∧ DM P w H c kvs ∧ CP (hid M H) kvs S.cells
theorem CP.at_ {G : Hp} {kvs : List (MKey × V)} {cs : List (MKey × D)} (h : CP G kvs cs) {k : MKey} {d : D} (e : cellAt cs k = some d) : ∃ v, valV kvs k = some v ∧ Dt G v d := by
  induction h with
  | nil => cases e
  | @cons p q l m h t ih =>
    by_cases hk : p.1 = k
    · rw [valV_pos hk]
      have hq : q.1 = k := h.1 ▸ hk
      unfold cellAt at e
      rw [List.find?_cons, decide_eq_true hq] at e
      cases e
      exact ⟨_, rfl, h.2⟩
    · rw [valV_neg hk]
      have hq : ¬ q.1 = k := h.1 ▸ hk
      unfold cellAt at e
      rw [List.find?_cons, decide_eq_false hq] at e
      exact ih e
theorem CP.keys {G : Hp} {kvs : List (MKey × V)} {cs : List (MKey × D)} (h : CP G kvs cs) : kvs.map (·.1) = cs.map (·.1) := by
  induction h with
  | nil => rfl
  | cons h t ih => rw [List.map_cons, List.map_cons, ih, h.1]
theorem CP.any {G : Hp} {kvs : List (MKey × V)} {cs : List (MKey × D)} (h : CP G kvs cs) (k : MKey) : (kvs.any fun kv => decide (kv.1 = k)) = cs.any fun c => decide (c.1 = k) := by
  have e1 : (kvs.any fun kv => decide (kv.1 = k)) = (kvs.map (·.1)).any fun x => decide (x = k) := by rw [List.any_map]; rfl
  have e2 : (cs.any fun c => decide (c.1 = k)) = (cs.map (·.1)).any fun x => decide (x = k) := by rw [List.any_map]; rfl
  rw [e1, e2, h.keys]
theorem CP.put {G : Hp} {kvs : List (MKey × V)} {cs : List (MKey × D)} (h : CP G kvs cs) {k : MKey} {v : V} {d : D} (r : Dt G v d) : CP G (putK kvs k v) (putC cs k d) := by
  unfold putK putC
  rw [h.any]
  split
  · rename_i hs
    clear hs
    induction h with
    | nil => exact .nil
    | @cons p q l m h t ih =>
      rw [List.map_cons, List.map_cons]
      refine .cons ?_ ih
      by_cases e : p.1 = k
      · rw [if_pos e, if_pos (h.1 ▸ e)]
        exact ⟨h.1, r⟩
      · rw [if_neg e, if_neg (h.1 ▸ e)]
        exact h
  · exact app h (.cons ⟨rfl, r⟩ .nil)
where
  app : ∀ {a b : List (MKey × V)} {c e : List (MKey × D)}, CP G a c → CP G b e → CP G (a ++ b) (c ++ e)
    | _, _, _, _, .nil, s => s
    | _, _, _, _, .cons r t, s => .cons r (app t s)
theorem CP.mono {G G' : Hp} (e : SameS G G') {kvs : List (MKey × V)} {cs : List (MKey × D)} (h : CP G kvs cs) : CP G' kvs cs := Paired.mapP h fun _ _ z => ⟨z.1, z.2.mono e⟩
theorem dm_but {P : Program} {w : World} {A : List Addr} {H H' : Hp} {d : Addr} {kvs : List (MKey × V)} (x : But A H H') (n : NoSeq A H) (h : d ∉ A) (r : DM P w H d kvs) : DM P w H' d kvs := by
  obtain ⟨xs, h1, h2, h3⟩ := r
  refine ⟨xs, x.keep _ _ h h1, MPair.mono (fun b ys q => ?_) h2, h3⟩
  refine x.keep _ _ (fun y => ?_) q
  have := n b y _ q
  cases this
theorem StAt.noseq {P : Program} {w : World} {a : Ad} {M : Ads} {H : Hp} {s c : Addr} {S : SS} (h : StAt P w a M H s c S) : NoSeq [s, c] H := by
  obtain ⟨dx, kvs, h1, ⟨xs, h2, _⟩, _⟩ := h
  intro b hb o e
  rcases List.mem_cons.mp hb with rfl | hb
  · rw [h1] at e
    cases e
    rfl
  · have : b = c := by simpa using hb
    subst this
    rw [h2] at e
    cases e
    rfl
theorem StAt.up {P : Program} {w : World} {a : Ad} {M N : Ads} {H H' : Hp} {s c : Addr} {S : SS} (e : Same H H') (m : SameS (hid M H) (hid N H')) (h : StAt P w a M H s c S) : StAt P w a N H' s c S := by
  obtain ⟨dx, kvs, h1, h2, h3⟩ := h
  exact ⟨dx, kvs, e _ _ h1, h2.mono e, h3.mono m⟩
/-! ### the file -/
def keyOk (k : MKey) : Prop := k = kRoot ∨ (∃ w n : Nat, w < 2 ∧ n < 1100 ∧ k = kPage w n) ∨ ∃ n : Nat, n < 20 ∧ k = kSpill n
structure Rep (cs : List (MKey × D)) (S : FS) : Prop where
  root : cellAt cs kRoot = some (dRoot S.which S.fences)
  page : ∀ (n : Nat) pg, S.pages[n]? = some pg → cellAt cs (kPage S.which n) = some (dPage pg)
  spill : ∀ (n : Nat) cl, S.spills[n]? = some cl → cellAt cs (kSpill n) = some (dCell cl)
  np : S.pages.length = S.fences.length + 1
  ns : S.spills.length = S.spare
  sp : S.spare ≤ 20
  wh : S.which < 2
  keys : ∀ p ∈ cs, keyOk p.1
  nl : ∀ p ∈ cs, noL p.2 = true
  nd : (cs.map (·.1)).Nodup
/-- a file's places: itself, its store, the store's dict, its marks' dict -/
structure FA where
  (f s c m : Addr)
def FA.foot (F : FA) : List Addr := [F.f, F.s, F.c, F.m]
def FileAt (P : Program) (w : World) (a : Ad) (M : Ads) (H : Hp) (F : FA) (S : FS) : Prop :=
  ∃ dx cs, H F.f = some (.ins a.File dx (fF S.room S.spare F.s F.m S.count)) ∧ H F.m = some (.dK (S.marks.map fun m => (Sum.inl m.1, V.int m.2))) ∧ StAt P w a M H F.s F.c ⟨cs, S.many, S.left, S.down⟩ ∧ Rep cs S
theorem FileAt.up {P : Program} {w : World} {a : Ad} {M N : Ads} {H H' : Hp} {F : FA} {S : FS} (e : Same H H') (m : SameS (hid M H) (hid N H')) (h : FileAt P w a M H F S) : FileAt P w a N H' F S := by
  obtain ⟨dx, cs, h1, h2, h3, h4⟩ := h
  exact ⟨dx, cs, e _ _ h1, e _ _ h2, h3.up e m, h4⟩
theorem FileAt.noseq {P : Program} {w : World} {a : Ad} {M : Ads} {H : Hp} {F : FA} {S : FS} (h : FileAt P w a M H F S) : NoSeq F.foot H := by
  obtain ⟨dx, cs, h1, h2, h3, h4⟩ := h
  intro b hb o e
  have hb : b = F.f ∨ b = F.s ∨ b = F.c ∨ b = F.m := by simpa [FA.foot] using hb
  rcases hb with rfl | rfl | rfl | rfl
  · rw [h1] at e
    cases e
    rfl
  · exact h3.noseq _ (by simp) o e
  · exact h3.noseq _ (by simp) o e
  · rw [h2] at e
    cases e
    rfl
/-- other places are changed -/
theorem FileAt.but {P : Program} {w : World} {a : Ad} {M : Ads} {A : List Addr} {H H' : Hp} {F : FA} {S : FS} (x : But A H H') (m : SameS (hid M H) (hid M H')) (n : NoSeq A H) (d : ∀ b ∈ F.foot, b ∉ A) (h : FileAt P w a M H F S) : FileAt P w a M H' F S := by
  obtain ⟨dx, cs, h1, h2, ⟨dy, kvs, h3, h4, h5⟩, h6⟩ := h
  exact ⟨dx, cs, x.keep _ _ (d _ (by simp [FA.foot])) h1, x.keep _ _ (d _ (by simp [FA.foot])) h2, ⟨dy, kvs, x.keep _ _ (d _ (by simp [FA.foot])) h3, dm_but x n (d _ (by simp [FA.foot])) h4, h5.mono m⟩, h6⟩
/-! ### a file as something that is held -/
theorem dm_keep {P : Program} {w : World} {H H' : Hp} {Z : List Addr} {d : Addr} {kvs : List (MKey × V)} (k : ∀ b o, b ∉ Z → H b = some o → H' b = some o) (n : ∀ z ∈ Z, ∀ xs, H z ≠ some (.tup xs)) (h : d ∉ Z) (r : DM P w H d kvs) : DM P w H' d kvs := by
  obtain ⟨xs, h1, h2, h3⟩ := r
  exact ⟨xs, k _ _ h h1, MPair.mono (fun b ys q => k _ _ (fun y => n b y ys q) q) h2, h3⟩
theorem hid_tups {M A : Ads} {H : Hp} (n : ∀ l ∈ A, ∃ xs, H l = some (.lst xs)) : ∀ b xs, hid M H b = some (.tup xs) → hid (HAppend.hAppend M A) H b = some (.tup xs) := fun b xs h => by
  obtain ⟨m, h⟩ := hid_some h
  refine (hid_out ?_).trans h
  rintro (y | y)
  · exact m y
  · obtain ⟨ys, e⟩ := n b y
    rw [e] at h
    cases h
theorem CP.nol {M A : Ads} {H : Hp} {kvs : List (MKey × V)} {cs : List (MKey × D)} (n : ∀ l ∈ A, ∃ xs, H l = some (.lst xs)) (h : CP (hid M H) kvs cs) (z : ∀ p ∈ cs, noL p.2 = true) : CP (hid (HAppend.hAppend M A) H) kvs cs := by
  induction h with
  | nil => exact .nil
  | cons h t ih => exact .cons ⟨h.1, h.2.nol (hid_tups n) (z _ List.mem_cons_self)⟩ (ih fun p hp => z p (List.mem_cons_of_mem _ hp))
def ivF (P : Program) (w : World) (a : Ad) (F : FA) (S : FS) : Iv where
  fp := F.foot
  p := fun M H => FileAt P w a M H F S
  up := by
    intro M N H H' Z k n s h
    have out : ∀ b ∈ F.foot, b ∉ Z := fun b hb hz => (n b hz).1 hb
    obtain ⟨dx, cs, h1, h2, ⟨dy, kvs, h3, h4, h5⟩, h6⟩ := h
    exact ⟨dx, cs, k _ _ (out _ (by simp [FA.foot])) h1, k _ _ (out _ (by simp [FA.foot])) h2, ⟨dy, kvs, k _ _ (out _ (by simp [FA.foot])) h3, dm_keep k (fun z hz => (n z hz).2.1) (out _ (by simp [FA.foot])) h4, h5.mono s⟩, h6⟩
  nol := by
    intro M H A n h
    obtain ⟨dx, cs, h1, h2, ⟨dy, kvs, h3, h4, h5⟩, h6⟩ := h
    exact ⟨dx, cs, h1, h2, ⟨dy, kvs, h3, h4, h5.nol (fun l hl => (n l hl).2) h6.nl⟩, h6⟩
theorem FileAt.at0 {P : Program} {w : World} {a : Ad} {M : Ads} {H : Hp} {F : FA} {S : FS} (h : FileAt P w a M H F S) : At0 (ivF P w a F S) M H := by
  refine ⟨fun b hb => ?_, hid_noseq h.noseq, h⟩
  obtain ⟨dx, cs, h1, h2, ⟨dy, kvs, h3, ⟨xs, h4, _⟩, h5⟩, h6⟩ := h
  have hb : b = F.f ∨ b = F.s ∨ b = F.c ∨ b = F.m := by simpa [ivF, FA.foot] using hb
  rcases hb with rfl | rfl | rfl | rfl
  · rw [h1]; nofun
  · rw [h3]; nofun
  · rw [h4]; nofun
  · rw [h2]; nofun
end Sp

set_option Elab.async false
set_option linter.all false
set_option maxRecDepth 100000
set_option maxHeartbeats 4000000
/-! Promises of words.py and store.py. -/
namespace Sp
open PySem L2 SM SR SD SE
def shapeOk (r f s : D) : Bool := match r with
  | .int i => isNum r 1 4 && isNum f 1 i && isNum s 0 20
  | _ => false
def f_need_shape (a : Ad) : List D → Option Rs
  | [r, f, s] => some (if shapeOk r f s then .ok .none else .er a.BadFile)
  | _ => none
def sp_need_shape (P : Program) (w : World) (K : PySem.W.Frag) (a : Ad) : Sp := SpP (f_need_shape a)
def isRow (d : D) : Bool := match d with
  | .tuple [k, w] => isNum k 0 999 && isNum w 0 999
  | _ => false
def f_is_row : List D → Option Rs
  | [d] => some (.ok (.bool (isRow d)))
  | _ => none
def sp_is_row (P : Program) (w : World) (K : PySem.W.Frag) (a : Ad) : Sp := SpP f_is_row
/-- the first that is no row, or whose key does not rise -/
def keyOfRow : D → Int
  | .tuple (.int k :: _) => k
  | _ => 0
def badRowAt (ds : List D) (i : Nat) : Bool := decide (40 ≤ i) || !isRow (ds.getD i .none) || (decide (0 < i) && decide (keyOfRow (ds.getD i .none) ≤ keyOfRow (ds.getD (i - 1) .none)))
def badRow (ds : List D) : Option Nat := (List.range ds.length).find? (badRowAt ds)
def f_need_rows (a : Ad) : List D → Option Rs
  | [.list ds] => some (match badRow ds with
    | none => .ok .none
    | some i => .ef a.BadRows "number" i)
  | _ => none
def sp_need_rows (P : Program) (w : World) (K : PySem.W.Frag) (a : Ad) : Sp := SpP (f_need_rows a)
def f_need_key (a : Ad) : List D → Option Rs
  | [d] => some (if isNum d 0 999 then .ok .none else .er a.BadKey)
  | _ => none
def sp_need_key (P : Program) (w : World) (K : PySem.W.Frag) (a : Ad) : Sp := SpP (f_need_key a)
def f_need_worth (a : Ad) : List D → Option Rs
  | [d] => some (if isNum d 0 999 then .ok .none else .er a.BadWorth)
  | _ => none
def sp_need_worth (P : Program) (w : World) (K : PySem.W.Frag) (a : Ad) : Sp := SpP (f_need_worth a)
def f_need_count (a : Ad) : List D → Option Rs
  | [d, .int lo, .int hi] => some (if isNum d lo hi then .ok .none else .er a.BadCount)
  | _ => none
def sp_need_count (P : Program) (w : World) (K : PySem.W.Frag) (a : Ad) : Sp := SpP (f_need_count a)
/-! ### the store -/
def AtS (P : Program) (w : World) (a : Ad) (M : Ads) (H : Hp) (o : Addr) (S : SS) : Prop := ∃ c, StAt P w a M H o c S
def f_read (S : SS) : List D → Option Rs
  | [kd] => match keyD kd with
    | some k => match cellAt S.cells k with
      | some d => if (S.cells.any fun c => match c.1 with | .inr _ => true | _ => false) then some (.ok d) else none
      | none => none
    | none => none
  | _ => none
def sp_Store_read (P : Program) (w : World) (K : PySem.W.Frag) (a : Ad) : Sp := SpO (AtS P w a) f_read
def f_need_up (a : Ad) (S : SS) : List D → Option Rs
  | [] => some (if S.down then .er a.Stopped else .ok .none)
  | _ => none
def sp_Store_need_up (P : Program) (w : World) (K : PySem.W.Frag) (a : Ad) : Sp := SpO (AtS P w a) (f_need_up a)
/-- a write: stopped, or done -/
def sp_Store_write (P : Program) (w : World) (K : PySem.W.Frag) (a : Ad) : Sp := fun vs H Q E => ∃ M s c S n u kd k d, vs = [.ref s, n, u] ∧ Lv M H ∧ StAt P w a M H s c S ∧ Dt (hid M H) n kd ∧ keyD kd = some k ∧ Dt (hid M H) u d ∧
  ((∃ x, k = .inl x) → ∃ p ∈ S.cells, ∃ ks, p.1 = .inr ks) ∧ S.cells.length ≤ 90000 ∧
  (S.down = true → ∀ H', Same H H' → E (.ref a.Stopped) none H') ∧
  (S.down = false → S.left = some 0 → ∀ H', But [s, c] H H' → StAt P w a M H' s c { S with down := true, left := none } → E (.ref a.Stopped) none H') ∧
  (S.down = false → S.left ≠ some 0 → ∀ H', But [s, c] H H' → StAt P w a M H' s c { S with cells := putC S.cells k d, many := S.many + 1, left := S.left.map (· - 1) } → Q .non H')
def sp_Store_stop_after (P : Program) (w : World) (K : PySem.W.Frag) (a : Ad) : Sp := fun vs H Q E => ∃ M s c S n, vs = [.ref s, .int n] ∧ Lv M H ∧ StAt P w a M H s c S ∧ ∀ H', But [s] H H' → StAt P w a M H' s c { S with left := some n } → Q .non H'
def sp_Store_come_up (P : Program) (w : World) (K : PySem.W.Frag) (a : Ad) : Sp := fun vs H Q E => ∃ M s c S, vs = [.ref s] ∧ Lv M H ∧ StAt P w a M H s c S ∧ ∀ H', But [s] H H' → StAt P w a M H' s c { S with left := none, down := false } → Q .non H'
/-- a new store -/
def sp_Store___init (P : Program) (w : World) (K : PySem.W.Frag) (a : Ad) : Sp := fun vs H Q E => ∃ s dx, vs = [.ref s] ∧ H s = some (.ins a.Store dx []) ∧ ∀ c H', H c = none → But [s] H H' → (∀ M, Lv M H → StAt P w a M H' s c ⟨[], 0, none, false⟩) → Q .non H'
end Sp

set_option Elab.async false
set_option linter.all false
set_option maxRecDepth 100000
set_option maxHeartbeats 4000000
/-! What a file's readers tell, over plain lists. -/
namespace Sp
open PySem L2 SM SR SD SE
def pageNo (S : FS) : D → Option Nat
  | .tuple [.str p, .int w, .int n] => if p = "page" ∧ w = S.which ∧ 0 ≤ n ∧ n < S.pages.length then some n.toNat else none
  | _ => none
def pagesOf (S : FS) : List D → Option (List Pg)
  | [] => some []
  | d :: ds => match pageNo S d, pagesOf S ds with
    | some n, some ps => some (S.pages.getD n ([], none) :: ps)
    | _, _ => none
abbrev dInt (n : Nat) : D := .int (n : Nat)
abbrev dO : Option Int → D
  | none => .none
  | some i => .int i
abbrev dList (rs : List Row) : D := .list (rs.map dRow)
/-! ### the promises -/
def AtF (P : Program) (w : World) (a : Ad) (M : Ads) (H : Hp) (o : Addr) (S : FS) : Prop := ∃ F, F.f = o ∧ FileAt P w a M H F S ∧ WFc S
def f_page_of (S : FS) : List D → Option Rs
  | [.int k] => some (.ok (dPk S.which (atP S.fences k)))
  | _ => none
def sp_File_page_of (P : Program) (w : World) (K : PySem.W.Frag) (a : Ad) : Sp := SpO (AtF P w a) f_page_of
def f_pages (S : FS) : List D → Option Rs
  | [] => some (.ok (.list ((List.range (S.fences.length + 1)).map (dPk S.which))))
  | _ => none
def sp_File_pages (P : Program) (w : World) (K : PySem.W.Frag) (a : Ad) : Sp := SpO (AtF P w a) f_pages
def f_chain (S : FS) : List D → Option Rs
  | [d] => (pageNo S d).map fun n => .ok (.list ((chainOf S (S.pages.getD n ([], none))).map dInt))
  | _ => none
def sp_File_chain (P : Program) (w : World) (K : PySem.W.Frag) (a : Ad) : Sp := SpO (AtF P w a) f_chain
def f_spilled (S : FS) : List D → Option Rs
  | [.int n] => if 0 ≤ n then (match S.spills[n.toNat]? with
    | some (some (r, _)) => some (.ok (dRow r))
    | _ => none) else none
  | _ => none
def sp_File_spilled (P : Program) (w : World) (K : PySem.W.Frag) (a : Ad) : Sp := SpO (AtF P w a) f_spilled
def f_rows_at (S : FS) : List D → Option Rs
  | [d] => (pageNo S d).map fun n => .ok (dList (rowsOf S (S.pages.getD n ([], none))))
  | _ => none
def sp_File_rows_at (P : Program) (w : World) (K : PySem.W.Frag) (a : Ad) : Sp := SpO (AtF P w a) f_rows_at
/-- Stopped, then a key that is none, then what is told -/
def asked (a : Ad) (S : FS) (d : D) (r : Int → Rs) : Rs := if S.down then .er a.Stopped else match d with
  | .int k => if isNum d 0 999 then r k else .er a.BadKey
  | _ => .er a.BadKey
def f_found (a : Ad) (S : FS) : List D → Option Rs
  | [d] => some (asked a S d fun k => .ok (dO (lastVal (rowsOf S (pageAt S k)) k)))
  | _ => none
def sp_File_found (P : Program) (w : World) (K : PySem.W.Frag) (a : Ad) : Sp := SpO (AtF P w a) (f_found a)
def f_looks (a : Ad) (S : FS) : List D → Option Rs
  | [d] => some (asked a S d fun k => .ok (dInt (looksOf S k)))
  | _ => none
def sp_File_looks (P : Program) (w : World) (K : PySem.W.Frag) (a : Ad) : Sp := SpO (AtF P w a) (f_looks a)
def f_rows (S : FS) : List D → Option Rs
  | [] => some (.ok (dList (allRows S)))
  | _ => none
def sp_File_rows (P : Program) (w : World) (K : PySem.W.Frag) (a : Ad) : Sp := SpO (AtF P w a) f_rows
def f_many_looks (S : FS) : List D → Option Rs
  | [.list ds] => if ds.length < 100000 then (pagesOf S ds).map fun ps => .ok (dInt (manyLooks S ps)) else none
  | _ => none
def sp_File_many_looks (P : Program) (w : World) (K : PySem.W.Frag) (a : Ad) : Sp := SpO (AtF P w a) f_many_looks
def f_walk (a : Ad) (S : FS) : List D → Option Rs
  | [] => some (if S.down then .er a.Stopped else .ok (.tuple [dList (allRows S), dInt (manyLooks S S.pages)]))
  | _ => none
def sp_File_walk (P : Program) (w : World) (K : PySem.W.Frag) (a : Ad) : Sp := SpO (AtF P w a) (f_walk a)
def f_writes (S : FS) : List D → Option Rs
  | [] => some (.ok (.int S.many))
  | _ => none
def sp_File_writes (P : Program) (w : World) (K : PySem.W.Frag) (a : Ad) : Sp := SpO (AtF P w a) f_writes
abbrev dPic (S : FS) : D := .tuple [.tuple (S.fences.map .int), .tuple (S.pages.map dPage), .tuple (S.spills.map dCell)]
def f_picture (S : FS) : List D → Option Rs
  | [] => some (.ok (dPic S))
  | _ => none
def sp_File_picture (P : Program) (w : World) (K : PySem.W.Frag) (a : Ad) : Sp := SpO (AtF P w a) f_picture
/-! ### laying -/
def rowD : D → Option Row
  | .tuple [.int k, .int w] => some (k, w)
  | _ => none
def rowsD : List D → Option (List Row)
  | [] => some []
  | d :: ds => match rowD d, rowsD ds with
    | some r, some rs => some (r :: rs)
    | _, _ => none
def f_parted : List D → Option Rs
  | [.list ds, .int fill] => if 1 ≤ fill ∧ fill ≤ 1000 ∧ ds.length ≤ 1000 then (rowsD ds).map fun rs => .ok (.list ((partsOf fill.toNat rs).map dRows)) else none
  | _ => none
def sp_parted (P : Program) (w : World) (K : PySem.W.Frag) (a : Ad) : Sp := SpP f_parted
end Sp

set_option Elab.async false
set_option linter.all false
set_option maxRecDepth 100000
set_option maxHeartbeats 4000000
/-! Calls of methods over trees; the file's fields and cells. -/
namespace Sp
open PySem L2 SM SR SD SE
/-- what the written part says of the two classes -/
structure Kc (K : PySem.W.Frag) (a : Ad) : Prop where
  ne : a.File ≠ a.Store
  fc : Cls K a.File
  sc : Cls K a.Store
  room : NoAttr K a.File "room"
  spare : NoAttr K a.File "spare"
  store : NoAttr K a.File "store"
  marks : NoAttr K a.File "marks"
  count : NoAttr K a.File "count"
  cells : NoAttr K a.Store "cells"
  many : NoAttr K a.Store "many"
  left : NoAttr K a.Store "left"
  down : NoAttr K a.Store "down"
section
variable {P : Program} {w : World} {K : PySem.W.Frag} {a : Ad} {X : Wd} {Φ : Iv} {H : Hp} {Γ : Gm} {L : Lo} {σ : L2.St} {d : D} {E : XK} {te to : TE} {ta : TA} {o C : Addr} {m : Str} {ds : List D} {r : Rs}
/-! ### the file -/
variable {F : FA} {S : FS}
/-- Φ holds the file -/
abbrev FIn (P : Program) (w : World) (a : Ad) (Φ : Iv) (F : FA) (S : FS) : Prop := ∀ N G, Φ.p N G → FileAt P w a N G F S
theorem ev_store (kc : Kc K a) (h : FIn P w a Φ F S) (hv : Γ[0]? = some (.val (.ref F.f))) : EvV X Φ (tFld K (tVar 0) "store") Γ (.ref F.s) := fun L H σ c g Q q => by
  obtain ⟨dx, cs, h1, h2, h3, h4⟩ := h _ _ c.at_
  exact ⟨_, g.ok 0 _ hv, F.f, a.File, dx, _, .ref F.s, rfl, h1, kc.fc, kc.store, rfl, q H (Same.refl H)⟩
theorem ev_room (kc : Kc K a) (h : FIn P w a Φ F S) (hv : Γ[0]? = some (.val (.ref F.f))) : Ev X Φ (tFld K (tVar 0) "room") Γ (dInt S.room) := fun L H σ c g Q q => by
  obtain ⟨dx, cs, h1, h2, h3, h4⟩ := h _ _ c.at_
  exact ⟨_, g.ok 0 _ hv, F.f, a.File, dx, _, .int S.room, rfl, h1, kc.fc, kc.room, rfl, q _ H (Same.refl H) (.int _)⟩
theorem ev_spare (kc : Kc K a) (h : FIn P w a Φ F S) (hv : Γ[0]? = some (.val (.ref F.f))) : Ev X Φ (tFld K (tVar 0) "spare") Γ (dInt S.spare) := fun L H σ c g Q q => by
  obtain ⟨dx, cs, h1, h2, h3, h4⟩ := h _ _ c.at_
  exact ⟨_, g.ok 0 _ hv, F.f, a.File, dx, _, .int S.spare, rfl, h1, kc.fc, kc.spare, rfl, q _ H (Same.refl H) (.int _)⟩
theorem ev_count (kc : Kc K a) (h : FIn P w a Φ F S) (hv : Γ[0]? = some (.val (.ref F.f))) : Ev X Φ (tFld K (tVar 0) "count") Γ (dInt S.count) := fun L H σ c g Q q => by
  obtain ⟨dx, cs, h1, h2, h3, h4⟩ := h _ _ c.at_
  exact ⟨_, g.ok 0 _ hv, F.f, a.File, dx, _, .int S.count, rfl, h1, kc.fc, kc.count, rfl, q _ H (Same.refl H) (.int _)⟩
theorem ev_many (kc : Kc K a) (h : FIn P w a Φ F S) (hv : Γ[0]? = some (.val (.ref F.f))) : Ev X Φ (tFld K (tFld K (tVar 0) "store") "many") Γ (.int S.many) := fun L H σ c g Q q =>
  ev_store kc h hv L H σ c g _ fun H1 e1 => by
    obtain ⟨dx, cs, h1, h2, ⟨dy, kvs, h3, _⟩, h4⟩ := h _ _ c.at_
    exact ⟨F.s, a.Store, dy, _, .int S.many, rfl, e1 _ _ h3, kc.sc, kc.many, rfl, q _ H1 e1 (.int _)⟩
/-- what the cell of a name holds -/
def RdC (S : FS) (kd d : D) : Prop := ∃ k, keyD kd = some k ∧ ∀ cs, Rep cs S → cellAt cs k = some d
theorem rd_root : RdC S (.str "root") (dRoot S.which S.fences) := ⟨kRoot, rfl, fun cs h => h.root⟩
theorem rd_page {n : Nat} {pg : Pg} (h : S.pages[n]? = some pg) : RdC S (dPk S.which n) (dPage pg) := ⟨kPage S.which n, rfl, fun cs r => r.page n pg h⟩
theorem rd_spill {n : Nat} {cl : Option Cl} (h : S.spills[n]? = some cl) : RdC S (dSk n) (dCell cl) := ⟨kSpill n, rfl, fun cs r => r.spill n cl h⟩
theorem Rep.any {cs : List (MKey × D)} (r : Rep cs S) : (cs.any fun c => match c.1 with | .inr _ => true | _ => false) = true := by
  have hl : 0 < S.pages.length := by rw [r.np]; omega
  have h0 : S.pages[0]? = some (S.pages[0]'hl) := by simp
  have := r.page 0 _ h0
  unfold cellAt at this
  cases q : cs.find? fun c => decide (c.1 = kPage S.which 0) with
  | none =>
    rw [q] at this
    cases this
  | some c =>
    rw [List.any_eq_true]
    have hc := List.find?_some q
    refine ⟨c, List.mem_of_find?_eq_some q, ?_⟩
    have hc : c.1 = kPage S.which 0 := of_decide_eq_true hc
    rw [hc]
theorem FIn.store (h : FIn P w a Φ F S) (N : Ads) (G : Hp) (p : Φ.p N G) : ∃ cs dy, Rep cs S ∧ G F.s = some (.ins a.Store dy (fS F.c S.many S.left S.down)) ∧ StAt P w a N G F.s F.c ⟨cs, S.many, S.left, S.down⟩ := by
  obtain ⟨dx, cs, h1, h2, h3, h4⟩ := h N G p
  obtain ⟨dy, kvs, h5, h6, h7⟩ := id h3
  exact ⟨cs, dy, h4, h5, h3⟩
theorem ev_read {kd : D} (kc : Kc K a) (h : FIn P w a Φ F S) (hv : Γ[0]? = some (.val (.ref F.f))) (ha : EvA X Φ ta Γ [kd]) (hk : RdC S kd d) :
    Ev X Φ (tMeth a.Store "read" (sp_Store_read P w K a) [] E (tFld K (tVar 0) "store") ta) Γ d := fun L H σ c g Q q =>
  ev_store kc h hv L H σ c g _ fun H1 e1 => by
    obtain ⟨cs, dy, h4, h5, _⟩ := h.store _ _ (c.up e1).at_
    refine ⟨F.s, dy, _, rfl, h5, rfl, ha L H1 σ (c.up e1) (g.up e1) _ fun vs H2 e2 rr => ?_⟩
    have cc := c.up (e1.trans e2)
    obtain ⟨cs, dy, h4, h5, h3⟩ := h.store _ _ cc.at_
    obtain ⟨k, k1, k2⟩ := hk
    refine ⟨_, F.s, vs, ⟨cs, S.many, S.left, S.down⟩, [kd], by rw [List.append_nil], cc.lv, ⟨F.c, h3⟩, rr, ?_⟩
    have e : f_read ⟨cs, S.many, S.left, S.down⟩ [kd] = some (.ok d) := by
      unfold f_read
      simp only [k1, k2 cs h4]
      exact if_pos h4.any
    rw [e]
    exact fun v H' e3 r3 => q v H' ((e1.trans e2).trans e3) r3
theorem er_up (kc : Kc K a) (h : FIn P w a Φ F S) (hv : Γ[0]? = some (.val (.ref F.f))) :
    EvR X Φ (tMeth a.Store "need_up" (sp_Store_need_up P w K a) [] E (tFld K (tVar 0) "store") tNil) Γ E (if S.down then .er a.Stopped else .ok .none) := fun L H σ c g Q q =>
  ev_store kc h hv L H σ c g _ fun H1 e1 => by
    obtain ⟨cs, dy, h4, h5, h3⟩ := h.store _ _ (c.up e1).at_
    refine ⟨F.s, dy, _, rfl, h5, rfl, _, F.s, [], ⟨cs, S.many, S.left, S.down⟩, [], rfl, (c.up e1).lv, ⟨F.c, h3⟩, .nil, ?_⟩
    show RsTo _ _ _ _ (some (if S.down then .er a.Stopped else .ok .none))
    cases hd : S.down with
    | true =>
      rw [hd] at q
      exact fun H' e2 => q H' (e1.trans e2)
    | false =>
      rw [hd] at q
      exact fun v H' e2 r => q v H' (e1.trans e2) r
/-- self.m(..) -/
theorem er_self {f : FS → List D → Option Rs} (h : FIn P w a Φ F S) (wf : WFc S) (hv : Γ[0]? = some (.val (.ref F.f))) (ha : EvA X Φ ta Γ ds) (e : f S ds = some r) (hm : (fF S.room S.spare F.s F.m S.count).lookup m = none := by rfl) :
    EvR X Φ (tMeth a.File m (SpO (AtF P w a) f) [] E (tVar 0) ta) Γ E r :=
  er_meth (evv_var hv) (fun N G p => by
    obtain ⟨dx, cs, h1, h2, h3, h4⟩ := h N G p
    exact ⟨dx, _, h1, hm⟩) (fun N G p => ⟨F, rfl, h N G p, wf⟩) ha e
theorem ev_self {f : FS → List D → Option Rs} (h : FIn P w a Φ F S) (wf : WFc S) (hv : Γ[0]? = some (.val (.ref F.f))) (ha : EvA X Φ ta Γ ds) (e : f S ds = some (.ok d)) (hm : (fF S.room S.spare F.s F.m S.count).lookup m = none := by rfl) :
    Ev X Φ (tMeth a.File m (SpO (AtF P w a) f) [] E (tVar 0) ta) Γ d := ev_ok (er_self h wf hv ha e hm)
end
/-! ### shapes -/
def Shd (k : Nat) (d : D) : Prop := PyData.canLay0 d = true ∧ PyData.depth d ≤ k
theorem Shd.mono {j k : Nat} {d : D} (h : Shd j d) (e : j ≤ k) : Shd k d := ⟨h.1, Nat.le_trans h.2 e⟩
theorem Shd.ok {k : Nat} {d : D} (h : Shd k d) (e : k ≤ 64 := by decide) : SeqAt.shaped d = true := by
  unfold SeqAt.shaped
  rw [h.1, decide_eq_true (Nat.le_trans h.2 e)]
  rfl
theorem shd_int {k : Nat} {i : Int} : Shd k (.int i) := ⟨by simp [PyData.canLay0], by simp [PyData.depth]⟩
theorem shd_non {k : Nat} : Shd k .none := ⟨by simp [PyData.canLay0], by simp [PyData.depth]⟩
theorem shd_bl {k : Nat} {b : Bool} : Shd k (.bool b) := ⟨by simp [PyData.canLay0], by simp [PyData.depth]⟩
theorem shd_all {k : Nat} : ∀ {ds : List D}, (∀ d ∈ ds, Shd k d) → PyData.canLayAll0 ds = true ∧ PyData.depthAll ds ≤ k
  | [], _ => ⟨by simp [PyData.canLayAll0], by simp [PyData.depthAll]⟩
  | d :: ds, h => by
    have h1 := h d List.mem_cons_self
    have h2 := shd_all (ds := ds) fun x m => h x (List.mem_cons_of_mem _ m)
    exact ⟨by simp [PyData.canLayAll0, h1.1, h2.1], by simp only [PyData.depthAll]; exact Nat.max_le.mpr ⟨h1.2, h2.2⟩⟩
theorem shd_tup {k : Nat} {ds : List D} (h : ∀ d ∈ ds, Shd k d) : Shd (k + 1) (.tuple ds) := ⟨by simp [PyData.canLay0, (shd_all h).1], by simp only [PyData.depth]; exact Nat.succ_le_succ (shd_all h).2⟩
theorem shd_lst {k : Nat} {ds : List D} (h : ∀ d ∈ ds, Shd k d) : Shd (k + 1) (.list ds) := ⟨by simp [PyData.canLay0, (shd_all h).1], by simp only [PyData.depth]; exact Nat.succ_le_succ (shd_all h).2⟩
theorem shd_row {r : Row} : Shd 1 (dRow r) := shd_tup fun d h => by
  rcases List.mem_cons.mp h with rfl | h
  · exact shd_int
  · rcases List.mem_cons.mp h with rfl | h
    · exact shd_int
    · cases h
theorem shd_rows {rs : List Row} : Shd 2 (dRows rs) := shd_tup fun d h => by
  obtain ⟨r, _, rfl⟩ := List.mem_map.mp h
  exact shd_row
theorem eqv_int {i j : Int} : PyData.eqv (.int i) (.int j) = decide (i = j) := by
  simp only [PyData.eqv]
  rfl
theorem eqv_nilT {ds : List D} : PyData.eqv (.tuple ds) (.tuple []) = ds.isEmpty := by cases ds <;> simp [PyData.eqv, PyData.eqvAll]
theorem eqv_nilL {ds : List D} : PyData.eqv (.list ds) (.list []) = ds.isEmpty := by cases ds <;> simp [PyData.eqv, PyData.eqvAll]
end Sp

set_option Elab.async false
set_option linter.all false
set_option maxRecDepth 100000
set_option maxHeartbeats 4000000
/-! Readings, printed by gen.py. -/
namespace Sp
open PySem L2 SM SR SD SE
def t_need_shape (P : Program) (w : World) (K : PySem.W.Frag) (a : Ad) (E : XK) : TS :=
  (tIfS (tOr (tNot (tB (tCall (sp_is_number P w K a) [] E (tCons (tVar 0) (tCons (tC (.int 1)) (tCons (tC (.int 4)) tNil)))))) (tOr (tNot (tB (tCall (sp_is_number P w K a) [] E (tCons (tVar 1) (tCons (tC (.int 1)) (tCons (tVar 0) tNil)))))) (tNot (tB (tCall (sp_is_number P w K a) [] E (tCons (tVar 2) (tCons (tC (.int 0)) (tCons (tC (.int 20)) tNil)))))))) (tRaise0 a.BadFile E) tNext)
abbrev n_need_shape : List Str := ["room", "fill", "spare"]
def t_is_row (P : Program) (w : World) (K : PySem.W.Frag) (a : Ad) (E : XK) : TS :=
  (tSeq (tIfS (tOr (tNot (tB (tCB (rIsU K) (tCons (tVar 0) (tCons (tC (.ty "tuple")) tNil))))) (tTest (tOp (rNeD K) (tCB (rLenU K) (tCons (tVar 0) tNil)) (tC (.int 2))))) (tRet (tC (.bl false))) tNext) (tRet (tAndV (tCall (sp_is_number P w K a) [] E (tCons (tOp (rIxU P w K) (tVar 0) (tC (.int 0))) (tCons (tC (.int 0)) (tCons (tC (.int 999)) tNil)))) (tCall (sp_is_number P w K a) [] E (tCons (tOp (rIxU P w K) (tVar 0) (tC (.int 1))) (tCons (tC (.int 0)) (tCons (tC (.int 999)) tNil)))))))
abbrev n_is_row : List Str := ["part"]
def t_need_rows (P : Program) (w : World) (K : PySem.W.Frag) (a : Ad) (E : XK) : TS :=
  (tFor (iEnum K (tCons (tVar 0) tNil)) (gTup K 2 (gCons (gName 1) (gCons (gName 2) gNil))) (tIfS (tOr (tTest (tOp rGeI (tVar 1) (tC (.int 40)))) (tOr (tNot (tB (tCall (sp_is_row P w K a) [] E (tCons (tVar 2) tNil)))) (tAnd (tTest (tOp rGtI (tVar 1) (tC (.int 0)))) (tTest (tOp rLeI (tOp (rIxU P w K) (tVar 2) (tC (.int 0))) (tOp (rIxU P w K) (tOp (rIxU P w K) (tVar 0) (tOp rSubI (tVar 1) (tC (.int 1)))) (tC (.int 0)))))))) (tRaiseF a.BadRows "number" E (tCons (tVar 1) tNil)) tNext))
abbrev n_need_rows : List Str := ["rows", "number", "row"]
def t_need_key (P : Program) (w : World) (K : PySem.W.Frag) (a : Ad) (E : XK) : TS :=
  (tIfS (tNot (tB (tCall (sp_is_number P w K a) [] E (tCons (tVar 0) (tCons (tC (.int 0)) (tCons (tC (.int 999)) tNil)))))) (tRaise0 a.BadKey E) tNext)
abbrev n_need_key : List Str := ["key"]
def t_Store_need_up (P : Program) (w : World) (K : PySem.W.Frag) (a : Ad) (E : XK) : TS :=
  (tIfS (tB (tFld K (tVar 0) "down")) (tRaise0 a.Stopped E) tNext)
abbrev n_Store_need_up : List Str := ["self"]
def t_Store_read (P : Program) (w : World) (K : PySem.W.Frag) (a : Ad) (E : XK) : TS :=
  (tRet (tOp (rIxU P w K) (tFld K (tVar 0) "cells") (tVar 1)))
abbrev n_Store_read : List Str := ["self", "name"]
def t_Store_write (P : Program) (w : World) (K : PySem.W.Frag) (a : Ad) (E : XK) : TS :=
  (tSeq (tDrop (tMeth a.Store "need_up" (sp_Store_need_up P w K a) [] E (tVar 0) tNil)) (tSeq (tIfS (tTest (tOp (rEqD K) (tFld K (tVar 0) "left") (tC (.int 0)))) (tSeq (sFld K (tVar 0) (tC (.bl true)) "down") (tSeq (sFld K (tVar 0) (tC .non) "left") (tRaise0 a.Stopped E))) tNext) (tSeq (tIfS (tTest (tOp rNotNone (tFld K (tVar 0) "left") (tC .non))) (sFld K (tVar 0) (tOp rSubI (tFld K (tVar 0) "left") (tC (.int 1))) "left") tNext) (tSeq (tAsg (tVar 2) (gSub (tFld K (tVar 0) "cells") (tVar 1) (rSetU P w))) (sFld K (tVar 0) (tOp (rAddU K) (tFld K (tVar 0) "many") (tC (.int 1))) "many")))))
abbrev n_Store_write : List Str := ["self", "name", "what"]
def t_Store___init (P : Program) (w : World) (K : PySem.W.Frag) (a : Ad) (E : XK) : TS :=
  (tSeq (sFld K (tVar 0) (tDNewM P w) "cells") (tSeq (sFld K (tVar 0) (tC (.int 0)) "many") (tSeq (sFld K (tVar 0) (tC .non) "left") (sFld K (tVar 0) (tC (.bl false)) "down"))))
abbrev n_Store___init : List Str := ["self"]
def t_parted (P : Program) (w : World) (K : PySem.W.Frag) (a : Ad) (E : XK) : TS :=
  (tRet (tIf (tTest (tOp (rNeD K) (tVar 0) (tLst tNil))) (tLc (iRng3 (tCons (tC (.int 0)) (tCons (tCB (rLenU K) (tCons (tVar 0) tNil)) (tCons (tVar 1) tNil)))) (gName 2) tYes (tCB (rTupU K) (tCons (tSl (rSlU K) (tVar 0) (tPart (tVar 2)) (tPart (tOp (rAddU K) (tVar 2) (tVar 1)))) tNil)) [2]) (tLst (tCons (tTup tNil) tNil))))
abbrev n_parted : List Str := ["rows", "fill", "begin"]
def t_File_page_of (P : Program) (w : World) (K : PySem.W.Frag) (a : Ad) (E : XK) : TS :=
  (tSeq (tAsg (tMeth a.Store "read" (sp_Store_read P w K a) [] E (tFld K (tVar 0) "store") (tCons (tC (.str "root")) tNil)) (gTup K 2 (gCons (gName 2) (gCons (gName 3) gNil)))) (tRet (tTup (tCons (tC (.str "page")) (tCons (tVar 2) (tCons (tCB (rLenU K) (tCons (tLc (iSeqU K (tVar 3)) (gName 4) (tTest (tOp rLtI (tVar 4) (tVar 1))) (tVar 4) [4]) tNil)) tNil))))))
abbrev n_File_page_of : List Str := ["self", "key", "which", "fences", "fence"]
def t_File_pages (P : Program) (w : World) (K : PySem.W.Frag) (a : Ad) (E : XK) : TS :=
  (tSeq (tAsg (tMeth a.Store "read" (sp_Store_read P w K a) [] E (tFld K (tVar 0) "store") (tCons (tC (.str "root")) tNil)) (gTup K 2 (gCons (gName 1) (gCons (gName 2) gNil)))) (tRet (tLc (iRng1 (tCons (tOp (rAddU K) (tCB (rLenU K) (tCons (tVar 2) tNil)) (tC (.int 1))) tNil)) (gName 3) tYes (tTup (tCons (tC (.str "page")) (tCons (tVar 1) (tCons (tVar 3) tNil)))) [3])))
abbrev n_File_pages : List Str := ["self", "which", "fences", "number"]
def t_File_chain (P : Program) (w : World) (K : PySem.W.Frag) (a : Ad) (E : XK) : TS :=
  (tSeq (tAsg (tLst tNil) (gName 2)) (tSeq (tAsg (tOp (rIxU P w K) (tMeth a.Store "read" (sp_Store_read P w K a) [] E (tFld K (tVar 0) "store") (tCons (tVar 1) tNil)) (tC (.int 1))) (gName 3)) (tSeq (tWhile (tTest (tOp rNotNone (tVar 3) (tC .non))) (tSeq (tDrop (tBM K "list" rAppend (tVar 2) (tCons (tVar 3) tNil))) (tAsg (tOp (rIxU P w K) (tMeth a.Store "read" (sp_Store_read P w K a) [] E (tFld K (tVar 0) "store") (tCons (tTup (tCons (tC (.str "spill")) (tCons (tVar 3) tNil))) tNil)) (tC (.int 1))) (gName 3)))) (tRet (tVar 2)))))
abbrev n_File_chain : List Str := ["self", "page", "found", "number"]
def t_File_spilled (P : Program) (w : World) (K : PySem.W.Frag) (a : Ad) (E : XK) : TS :=
  (tRet (tOp (rIxU P w K) (tMeth a.Store "read" (sp_Store_read P w K a) [] E (tFld K (tVar 0) "store") (tCons (tTup (tCons (tC (.str "spill")) (tCons (tVar 1) tNil))) tNil)) (tC (.int 0))))
abbrev n_File_spilled : List Str := ["self", "number"]
def t_File_rows_at (P : Program) (w : World) (K : PySem.W.Frag) (a : Ad) (E : XK) : TS :=
  (tRet (tOp (rAddU K) (tCB (rListU K) (tCons (tOp (rIxU P w K) (tMeth a.Store "read" (sp_Store_read P w K a) [] E (tFld K (tVar 0) "store") (tCons (tVar 1) tNil)) (tC (.int 0))) tNil)) (tLc (iSeqU K (tMeth a.File "chain" (sp_File_chain P w K a) [] E (tVar 0) (tCons (tVar 1) tNil))) (gName 2) tYes (tMeth a.File "spilled" (sp_File_spilled P w K a) [] E0 (tVar 0) (tCons (tVar 2) tNil)) [2])))
abbrev n_File_rows_at : List Str := ["self", "page", "number"]
def t_File_found (P : Program) (w : World) (K : PySem.W.Frag) (a : Ad) (E : XK) : TS :=
  (tSeq (tDrop (tMeth a.Store "need_up" (sp_Store_need_up P w K a) [] E (tFld K (tVar 0) "store") tNil)) (tSeq (tDrop (tCall (sp_need_key P w K a) [] E (tCons (tVar 1) tNil))) (tRet (tDGet1 (tCB (rDictU K) (tCons (tMeth a.File "rows_at" (sp_File_rows_at P w K a) [] E (tVar 0) (tCons (tMeth a.File "page_of" (sp_File_page_of P w K a) [] E (tVar 0) (tCons (tVar 1) tNil)) tNil)) tNil)) (tVar 1)))))
abbrev n_File_found : List Str := ["self", "key"]
def t_File_looks (P : Program) (w : World) (K : PySem.W.Frag) (a : Ad) (E : XK) : TS :=
  (tSeq (tDrop (tMeth a.Store "need_up" (sp_Store_need_up P w K a) [] E (tFld K (tVar 0) "store") tNil)) (tSeq (tDrop (tCall (sp_need_key P w K a) [] E (tCons (tVar 1) tNil))) (tSeq (tAsg (tMeth a.File "page_of" (sp_File_page_of P w K a) [] E (tVar 0) (tCons (tVar 1) tNil)) (gName 2)) (tSeq (tAsg (tOp (rIxU P w K) (tMeth a.Store "read" (sp_Store_read P w K a) [] E (tFld K (tVar 0) "store") (tCons (tVar 2) tNil)) (tC (.int 0))) (gName 3)) (tSeq (tIfS (tOr (tTest (tOp (rEqD K) (tVar 3) (tTup tNil))) (tTest (tOp rLeI (tVar 1) (tOp (rIxU P w K) (tOp (rIxU P w K) (tVar 3) (tUn rNegI (tC (.int 1)))) (tC (.int 0)))))) (tRet (tC (.int 1))) tNext) (tSeq (tAsg (tLc (iSeqU K (tMeth a.File "chain" (sp_File_chain P w K a) [] E (tVar 0) (tCons (tVar 2) tNil))) (gName 5) (tTest (tOp rLtI (tOp (rIxU P w K) (tMeth a.File "spilled" (sp_File_spilled P w K a) [] E0 (tVar 0) (tCons (tVar 5) tNil)) (tC (.int 0))) (tVar 1))) (tVar 5) [5]) (gName 4)) (tRet (tOp (rAddU K) (tC (.int 1)) (tCB rMin2 (tCons (tOp (rAddU K) (tCB (rLenU K) (tCons (tVar 4) tNil)) (tC (.int 1))) (tCons (tCB (rLenU K) (tCons (tMeth a.File "chain" (sp_File_chain P w K a) [] E (tVar 0) (tCons (tVar 2) tNil)) tNil)) tNil)))))))))))
abbrev n_File_looks : List Str := ["self", "key", "page", "rows", "some", "number"]
def t_File_rows (P : Program) (w : World) (K : PySem.W.Frag) (a : Ad) (E : XK) : TS :=
  (tSeq (tAsg (tLst tNil) (gName 1)) (tSeq (tFor (iSeqU K (tMeth a.File "pages" (sp_File_pages P w K a) [] E (tVar 0) tNil)) (gName 2) (tDrop (tBM K "list" rExtend (tVar 1) (tCons (tMeth a.File "rows_at" (sp_File_rows_at P w K a) [] E (tVar 0) (tCons (tVar 2) tNil)) tNil)))) (tRet (tVar 1))))
abbrev n_File_rows : List Str := ["self", "found", "page"]
def t_File_walk (P : Program) (w : World) (K : PySem.W.Frag) (a : Ad) (E : XK) : TS :=
  (tSeq (tDrop (tMeth a.Store "need_up" (sp_Store_need_up P w K a) [] E (tFld K (tVar 0) "store") tNil)) (tRet (tTup (tCons (tMeth a.File "rows" (sp_File_rows P w K a) [] E (tVar 0) tNil) (tCons (tMeth a.File "many_looks" (sp_File_many_looks P w K a) [] E (tVar 0) (tCons (tMeth a.File "pages" (sp_File_pages P w K a) [] E (tVar 0) tNil) tNil)) tNil)))))
abbrev n_File_walk : List Str := ["self"]
def t_File_many_looks (P : Program) (w : World) (K : PySem.W.Frag) (a : Ad) (E : XK) : TS :=
  (tRet (tCB (rSum K) (tCons (tLc (iSeqU K (tVar 1)) (gName 2) tYes (tOp (rAddU K) (tC (.int 1)) (tCB (rLenU K) (tCons (tMeth a.File "chain" (sp_File_chain P w K a) [] E0 (tVar 0) (tCons (tVar 2) tNil)) tNil))) [2]) tNil)))
abbrev n_File_many_looks : List Str := ["self", "pages", "page"]
def t_File_writes (P : Program) (w : World) (K : PySem.W.Frag) (a : Ad) (E : XK) : TS :=
  (tRet (tFld K (tFld K (tVar 0) "store") "many"))
abbrev n_File_writes : List Str := ["self"]
def t_File_picture (P : Program) (w : World) (K : PySem.W.Frag) (a : Ad) (E : XK) : TS :=
  (tSeq (tAsg (tCB (rTupU K) (tCons (tLc (iSeqU K (tMeth a.File "pages" (sp_File_pages P w K a) [] E (tVar 0) tNil)) (gName 3) tYes (tMeth a.Store "read" (sp_Store_read P w K a) [] E0 (tFld K (tVar 0) "store") (tCons (tVar 3) tNil)) [3]) tNil)) (gName 1)) (tSeq (tAsg (tCB (rTupU K) (tCons (tLc (iRng1 (tCons (tFld K (tVar 0) "spare") tNil)) (gName 4) tYes (tMeth a.Store "read" (sp_Store_read P w K a) [] E0 (tFld K (tVar 0) "store") (tCons (tTup (tCons (tC (.str "spill")) (tCons (tVar 4) tNil))) tNil)) [4]) tNil)) (gName 2)) (tRet (tTup (tCons (tOp (rIxU P w K) (tMeth a.Store "read" (sp_Store_read P w K a) [] E (tFld K (tVar 0) "store") (tCons (tC (.str "root")) tNil)) (tC (.int 1))) (tCons (tVar 1) (tCons (tVar 2) tNil)))))))
abbrev n_File_picture : List Str := ["self", "pages", "spills", "page", "number"]
end Sp

set_option Elab.async false
set_option linter.all false
set_option maxRecDepth 100000
set_option maxHeartbeats 4000000
/-! words.py: what its defs come to. -/
namespace Sp
open PySem L2 SM SR SD SE
local macro_rules | `(tactic| walk_at "sp ev") => `(tactic| (repeat' (first | exact ea_nil | refine ea_cons ?_ ?_ | exact ev_var rfl | exact ev_int _ | exact ev_str _ | exact ev_non | exact ev_bl _ | exact ev_isi (ev_var rfl) | refine ev_tup ?_ (by decide) | refine ev_neg ?_ | refine ev_op ?_ ?_ ?_ | exact od_addI | exact od_subI | exact od_lt | exact od_le | exact od_gt | exact od_ge | exact od_isN | exact od_notN | exact od_ixT rfl)))
/-! ### small facts -/
theorem row_form {x : D} (h : isRow x = true) : ∃ k v, x = .tuple [.int k, .int v] := by
  unfold isRow at h
  split at h
  · rename_i p q
    rw [Bool.and_eq_true] at h
    cases p <;> first | (simp [isNum] at h; done) | skip
    cases q <;> first | (simp [isNum] at h; done) | skip
    exact ⟨_, _, rfl⟩
  · cases h
theorem atI_nat {l : List D} {i : Int} {n : Nat} (h : i = (n : Nat)) (hl : n < l.length) : L2.atI l i = l[n]? := by
  subst h
  unfold L2.atI ixN
  rw [if_pos (by omega), if_pos (by omega)]
  simp
theorem find_range {p : Nat → Bool} {n k : Nat} (hk : k < n) (h : p k = true) (hI : ∀ j, j < k → p j = false) : (List.range n).find? p = some k := by
  rw [List.find?_range_eq_some]
  exact ⟨h, List.mem_range.mpr hk, fun j hj => by simp [hI j hj]⟩
theorem log_small {n : Int} (h : n.natAbs < 2 ^ 900) : n.natAbs.log2 < 1000 := by
  rcases Nat.eq_zero_or_pos n.natAbs with e | e
  · rw [e]
    decide
  · have := (Nat.log2_lt (by omega)).mpr h
    omega
section
variable {P : Program} {w : World} {K : PySem.W.Frag} {a : Ad}
theorem ev_num {X : Wd} {Φ : Iv} {Γ : Gm} {E : XK} {te tl th : TE} {d : D} {lo hi : Int} (h : Ev X Φ te Γ d) (hl : Ev X Φ tl Γ (.int lo)) (hh : Ev X Φ th Γ (.int hi)) : Ev X Φ (tCall (sp_is_number P w K a) [] E (tCons te (tCons tl (tCons th tNil)))) Γ (.bool (isNum d lo hi)) :=
  ev_callP (ea_cons h (ea_cons hl (ea_cons hh ea_nil))) rfl
theorem pure_need_shape (vs : List V) (H : Hp) (Q : VK) (E : XK) (h : sp_need_shape P w K a vs H Q E) : t_need_shape P w K a E { nx := fun _ H' => Q .non H', rt := Q } (L2.start n_need_shape vs) H := by
  obtain ⟨M, ds, lv, r, hr⟩ := h
  match ds, r, hr with
  | [x, y, z], r, hr =>
    refine sw_fin lv At0.nil (env_start At0.nil r (by simp)) ?_ hr
    have key : EvT (wd M H) Iv.nil (tOr (tNot (tB (tCall (sp_is_number P w K a) [] E (tCons (tVar 0) (tCons (tC (.int 1)) (tCons (tC (.int 4)) tNil)))))) (tOr (tNot (tB (tCall (sp_is_number P w K a) [] E (tCons (tVar 1) (tCons (tC (.int 1)) (tCons (tVar 0) tNil)))))) (tNot (tB (tCall (sp_is_number P w K a) [] E (tCons (tVar 2) (tCons (tC (.int 0)) (tCons (tC (.int 20)) tNil)))))))) ([Sl.dat x, Sl.dat y, Sl.dat z]) (!shapeOk x y z) := by
      cases hx : isNum x 1 4 with
      | false =>
        have e : (!shapeOk x y z) = (!isNum x 1 4 || true) := by
          cases x <;> simp_all [shapeOk]
        rw [e]
        exact et_or (et_not (et_B (ev_num (ev_var rfl) (ev_int _) (ev_int _)))) fun z => by simp [hx] at z
      | true =>
        cases x with
        | int i =>
          have e : (!shapeOk (.int i) y z) = (!isNum (.int i) 1 4 || (!isNum y 1 i || !isNum z 0 20)) := by
            simp [shapeOk, hx]
          rw [e]
          exact et_or (et_not (et_B (ev_num (ev_var rfl) (ev_int _) (ev_int _)))) fun _ => et_or (et_not (et_B (ev_num (ev_var rfl) (ev_int _) (ev_var rfl)))) fun _ => et_not (et_B (ev_num (ev_var rfl) (ev_int _) (ev_int _)))
        | _ => simp [isNum] at hx
    refine sw_if key (fun hb => ?_) fun hb => sw_next ?_
    · have : f_need_shape a [x, y, z] = some (.er a.BadFile) := by
        simp at hb
        simp [f_need_shape, hb]
      rw [this] at hr
      exact sw_raise0 hr
    · simp at hb
      simp [f_need_shape, hb]
theorem pure_is_row (vs : List V) (H : Hp) (Q : VK) (E : XK) (h : sp_is_row P w K a vs H Q E) : t_is_row P w K a E { nx := fun _ H' => Q .non H', rt := Q } (L2.start n_is_row vs) H := by
  obtain ⟨M, ds, lv, r, hr⟩ := h
  match ds, r, hr with
  | [x], r, hr =>
    refine sw_fin lv At0.nil (env_start At0.nil r (by simp)) ?_ hr
    by_cases ht : ∃ l, x = .tuple l
    · obtain ⟨l, rfl⟩ := ht
      refine sw_seq (N1 := fun Γ => Γ = [Sl.dat (.tuple l)] ∧ l.length = 2) (sw_if (b := !decide (l.length = 2)) ?_ (fun hb => ?_) fun hb => ?_) fun Γ' e => ?_
      · refine et_eq (et_or (et_not (et_B (ev_isi (ev_var rfl)))) fun _ => et_test (ev_op (ev_cb (ea_cons (ev_var rfl) ea_nil) cb_lenT) (ev_int _) (od_ne (by rfl) (by rfl)))) ?_
        rw [eqv_int]
        simp [isTy, tyD]
        omega
      · refine sw_ret (ev_bl false) ?_
        have : ¬ l.length = 2 := by simpa using hb
        simp only [f_is_row, isRow]
        match l with
        | [] => rfl
        | [_] => rfl
        | [_, _] => exact absurd rfl this
        | _ :: _ :: _ :: _ => rfl
      · refine sw_next ⟨rfl, by simpa using hb⟩
      · obtain ⟨rfl, e2⟩ := e
        match l, e2 with
        | [p, q], _ =>
          refine sw_ret (d := .bool (isRow (.tuple [p, q]))) ?_ rfl
          exact ev_andV (ev_num (ev_op (ev_var rfl) (ev_int _) (od_ixT rfl)) (ev_int _) (ev_int _)) fun _ => ev_num (ev_op (ev_var rfl) (ev_int _) (od_ixT rfl)) (ev_int _) (ev_int _)
    · refine sw_seq (N1 := fun _ => False) (sw_if (b := true) ?_ (fun _ => sw_ret (ev_bl false) ?_) fun z => by cases z) fun _ z => z.elim
      · refine et_eq (et_or (b := true) (et_not (et_B (ev_isi (ev_var rfl)))) fun z => ?_) ?_
        · cases x <;> simp_all [isTy, tyD]
        · simp
      · cases x <;> simp_all [f_is_row, isRow]
theorem pure_need_key (vs : List V) (H : Hp) (Q : VK) (E : XK) (h : sp_need_key P w K a vs H Q E) : t_need_key P w K a E { nx := fun _ H' => Q .non H', rt := Q } (L2.start n_need_key vs) H := by
  obtain ⟨M, ds, lv, r, hr⟩ := h
  match ds, r, hr with
  | [x], r, hr =>
    refine sw_fin lv At0.nil (env_start At0.nil r (by simp)) ?_ hr
    refine sw_if (et_not (et_B (ev_num (ev_var rfl) (ev_int _) (ev_int _)))) (fun hb => ?_) fun hb => sw_next ?_
    · have hb : isNum x 0 999 = false := by simpa using hb
      have : f_need_key a [x] = some (.er a.BadKey) := by simp [f_need_key, hb]
      rw [this] at hr
      exact sw_raise0 hr
    · have hb : isNum x 0 999 = true := by simpa using hb
      simp [f_need_key, hb]
theorem pure_need_rows (vs : List V) (H : Hp) (Q : VK) (E : XK) (h : sp_need_rows P w K a vs H Q E) : t_need_rows P w K a E { nx := fun _ H' => Q .non H', rt := Q } (L2.start n_need_rows vs) H := by
  obtain ⟨M, ds, lv, r, hr⟩ := h
  match ds, r, hr with
  | [.list ds], r, hr =>
    refine sw_fin lv At0.nil (env_start At0.nil r (by simp)) ?_ hr
    refine sw_for (ei_enum (ea_cons (ev_var rfl) ea_nil)) (fun k Γ => (∃ s1 s2, Γ = [Sl.dat (.list ds), s1, s2]) ∧ ∀ j, j < k → badRowAt ds j = false) ⟨⟨_, _, rfl⟩, fun j h => absurd h (by omega)⟩ (fun k d Γ1 hk hI => ?_) fun Γ1 hI => ?_
    · obtain ⟨⟨s1, s2, rfl⟩, hI⟩ := hI
      have hkl : k < ds.length := by
        have := (List.getElem?_eq_some_iff.mp hk).1
        simpa [enumD] using this
      have hd : d = .tuple [.int (k : Nat), ds.getD k .none] := by
        simp only [enumD, List.getElem?_map, List.getElem?_range hkl, Option.map_some, Option.some.injEq] at hk
        exact hk.symm
      subst hd
      refine ⟨_, tg_pair, ?_⟩
      generalize hx : ds.getD k .none = x
      show SW (wd M H) Iv.nil _ [Sl.dat (.list ds), Sl.dat (.int (k : Nat)), Sl.dat x] _ _
      have key : EvT (wd M H) Iv.nil (tOr (tTest (tOp rGeI (tVar 1) (tC (.int 40)))) (tOr (tNot (tB (tCall (sp_is_row P w K a) [] E (tCons (tVar 2) tNil)))) (tAnd (tTest (tOp rGtI (tVar 1) (tC (.int 0)))) (tTest (tOp rLeI (tOp (rIxU P w K) (tVar 2) (tC (.int 0))) (tOp (rIxU P w K) (tOp (rIxU P w K) (tVar 0) (tOp rSubI (tVar 1) (tC (.int 1)))) (tC (.int 0)))))))) [Sl.dat (.list ds), Sl.dat (.int (k : Nat)), Sl.dat x] (badRowAt ds k) := by
        have e : badRowAt ds k = (decide ((40 : Int) ≤ (k : Nat)) || (!isRow x || (decide ((0 : Int) < (k : Nat)) && decide (keyOfRow x ≤ keyOfRow (ds.getD (k - 1) .none))))) := by
          unfold badRowAt
          rw [hx, Bool.or_assoc]
          have e1 : decide (40 ≤ k) = decide ((40 : Int) ≤ (k : Nat)) := decide_eq_decide.mpr (by omega)
          have e2 : decide (0 < k) = decide ((0 : Int) < (k : Nat)) := decide_eq_decide.mpr (by omega)
          rw [e1, e2]
        rw [e]
        refine et_or (et_test (ev_op (ev_var rfl) (ev_int _) od_ge)) fun _ => et_or (et_not (et_B (ev_callP (f := f_is_row) (ea_cons (ev_var rfl) ea_nil) rfl))) fun hrow => et_and (et_test (ev_op (ev_var rfl) (ev_int _) od_gt)) fun hpos => et_test ?_
        have hrow : isRow x = true := by simpa using hrow
        have hpos : 0 < k := by
          have := of_decide_eq_true hpos
          omega
        have hb := hI (k - 1) (by omega)
        have hprev : isRow (ds.getD (k - 1) .none) = true := by
          unfold badRowAt at hb
          simp only [Bool.or_eq_false_iff, Bool.not_eq_false'] at hb
          exact hb.1.2
        obtain ⟨k1, w1, hx1⟩ := row_form hrow
        obtain ⟨k2, w2, hx2⟩ := row_form hprev
        have hg : ds[k - 1]? = some (ds.getD (k - 1) .none) := by
          rw [List.getD_eq_getElem?_getD, List.getElem?_eq_getElem (by omega)]
          rfl
        have hat : L2.atI ds ((k : Nat) - 1 : Int) = some (.tuple [.int k2, .int w2]) := by
          rw [atI_nat (n := k - 1) (by omega) (by omega), hg, hx2]
        rw [hx1, hx2]
        refine ev_op (ev_op (ev_var rfl) (ev_int _) (od_ixT rfl)) (ev_op (ev_op (ev_var rfl) (ev_op (ev_var rfl) (ev_int _) od_subI) (od_ixL hat)) (ev_int _) (od_ixT rfl)) od_le
      refine sw_if key (fun hb => ?_) fun hb => sw_next ⟨⟨_, _, rfl⟩, fun j hj => ?_⟩
      · have hf : badRow ds = some k := find_range hkl hb hI
        have he : f_need_rows a [.list ds] = some (.ef a.BadRows "number" k) := by simp [f_need_rows, hf]
        rw [he] at hr
        have hk40 : k ≤ 40 := by
          rcases Nat.lt_or_ge 40 k with h | h
          · have := hI 40 h
            simp [badRowAt] at this
          · exact h
        exact sw_raiseF (ea_cons (ev_var rfl) ea_nil) (log_small (by omega)) hr
      · rcases Nat.lt_or_ge j k with h | h
        · exact hI j h
        · have : j = k := by omega
          rw [this]
          exact hb
    · obtain ⟨_, hI⟩ := hI
      have hf : badRow ds = none := by
        unfold badRow
        rw [List.find?_eq_none]
        intro j hj
        have := hI j (by simpa [enumD] using hj)
        simp [this]
      simp [f_need_rows, hf]
end
end Sp

set_option Elab.async false
set_option linter.all false
set_option maxRecDepth 100000
set_option maxHeartbeats 4000000
/-! store.py. -/
namespace Sp
open PySem L2 SM SR SD SE
section
variable {P : Program} {w : World} {K : PySem.W.Frag} {a : Ad}
theorem mixK_cp {G : Hp} {kvs : List (MKey × V)} {cs : List (MKey × D)} {k : MKey} (h : CP G kvs cs) (m : (∃ x, k = .inl x) → ∃ p ∈ cs, ∃ ks, p.1 = .inr ks) : MixK kvs k := fun x e => by
  obtain ⟨p, hp, ks, e2⟩ := m ⟨x, e⟩
  have : p.1 ∈ kvs.map (·.1) := by
    rw [h.keys]
    exact List.mem_map.mpr ⟨p, hp, rfl⟩
  obtain ⟨y, hy, e3⟩ := List.mem_map.mp this
  exact ⟨y, hy, ks, by rw [e3, e2]⟩
theorem pure_Store_read (kc : Kc K a) (vs : List V) (H : Hp) (Q : VK) (E : XK) (h : sp_Store_read P w K a vs H Q E) : t_Store_read P w K a E { nx := fun _ H' => Q .non H', rt := Q } (L2.start n_Store_read vs) H := by
  obtain ⟨M, s, us, S, ds, rfl, lv, ⟨c, dx, kvs, h1, h2, h3⟩, r, hr⟩ := h
  match ds, r, hr with
  | [kd], .cons rk .nil, hr =>
    unfold f_read at hr
    cases e1 : keyD kd with
    | none => simp [e1, RsTo] at hr
    | some k =>
      simp only [e1] at hr
      cases e2 : cellAt S.cells k with
      | none => simp [e2, RsTo] at hr
      | some d =>
        simp only [e2] at hr
        split at hr
        · rename_i ha
          obtain ⟨u, hu, ru⟩ := h3.at_ e2
          refine ⟨_, rfl, s, a.Store, dx, _, .ref c, rfl, h1, kc.sc, kc.cells, rfl, _, rfl, .inr (.inr ⟨c, kvs, k, u, rfl, h2, keyD_m rk e1, mixK_cp h3 fun _ => ?_, hu, hr u H (Same.refl H) ru⟩)⟩
          obtain ⟨p, hp, z⟩ := List.any_eq_true.mp ha
          refine ⟨p, hp, ?_⟩
          cases q : p.1 with
          | inl x =>
            rw [q] at z
            cases z
          | inr ks => exact ⟨ks, rfl⟩
        · exact hr.elim
theorem pure_Store_need_up (kc : Kc K a) (vs : List V) (H : Hp) (Q : VK) (E : XK) (h : sp_Store_need_up P w K a vs H Q E) : t_Store_need_up P w K a E { nx := fun _ H' => Q .non H', rt := Q } (L2.start n_Store_need_up vs) H := by
  obtain ⟨M, s, us, S, ds, rfl, lv, ⟨c, dx, kvs, h1, h2, h3⟩, r, hr⟩ := h
  match ds, r, hr with
  | [], .nil, hr =>
    refine ⟨_, rfl, s, a.Store, dx, _, .bl S.down, rfl, h1, kc.sc, kc.down, rfl, S.down, rfl, ?_⟩
    cases hd : S.down with
    | true =>
      have hr : RsTo M H Q E (some (.er a.Stopped)) := by simpa [f_need_up, hd] using hr
      exact hr H (Same.refl H)
    | false =>
      have hr : RsTo M H Q E (some (.ok .none)) := by simpa [f_need_up, hd] using hr
      exact hr .non H (Same.refl H) .non
theorem stAt_upd {M : Ads} {H : Hp} {s c : Addr} {kvs : List (MKey × V)} {cells : List (MKey × D)} {o : HO} (n1 : NoSeq [s] H) (ne : c ≠ s) (h2 : DM P w H c kvs) (h3 : CP (hid M H) kvs cells) : DM P w (upd H s o) c kvs ∧ CP (hid M (upd H s o)) kvs cells := by
  have b : But [s] H (upd H s o) := But.upd (by simp)
  exact ⟨dm_but b n1 (by simpa using ne) h2, h3.mono (b.s n1)⟩
theorem oI_dp {H : Hp} : ∀ o : Option Int, Dp K H (oI o) (dO o)
  | none => .non
  | some i => .int i
theorem pure_Store_write (kc : Kc K a) (vs : List V) (H : Hp) (Q : VK) (E : XK) (h : sp_Store_write P w K a vs H Q E) : t_Store_write P w K a E { nx := fun _ H' => Q .non H', rt := Q } (L2.start n_Store_write vs) H := by
  obtain ⟨M, s, c, S, n, u, kd, k, d, rfl, lv, hst, rn, hk, ru, hmx, hz, q1, q2, q3⟩ := h
  obtain ⟨dx, kvs, h1, h2, h3⟩ := id hst
  refine ⟨_, rfl, s, dx, _, rfl, h1, rfl, M, s, [], S, [], rfl, lv, ⟨c, hst⟩, .nil, ?_⟩
  cases hd : S.down with
  | true =>
    have : f_need_up a S [] = some (.er a.Stopped) := by simp [f_need_up, hd]
    rw [this]
    exact q1 hd
  | false =>
    have : f_need_up a S [] = some (.ok .none) := by simp [f_need_up, hd]
    rw [this]
    intro v H1 e1 _
    have hst1 : StAt P w a M H1 s c S := hst.up e1 (Same.s (Same.hid e1))
    have rn := rn.mono (Same.s (Same.hid e1))
    have ru := ru.mono (Same.s (Same.hid e1))
    have lv1 := lv.mono e1
    have b0 : But [s, c] H H1 := But.of e1
    clear hst h1 h2 h3
    obtain ⟨dx, kvs, h1, h2, h3⟩ := id hst1
    have ne : c ≠ s := fun z => by
      obtain ⟨xs, h4, _⟩ := h2
      rw [z, h1] at h4
      cases h4
    have n1 : NoSeq [s] H1 := fun b hb o e => hst1.noseq b (by simp at hb; simp [hb]) o e
    have rest : ∀ H2 left', But [s, c] H H2 → Lv M H2 → Dt (hid M H2) n kd → Dt (hid M H2) u d → StAt P w a M H2 s c { S with left := left' } → (S.left ≠ some 0 → left' = S.left.map (· - 1)) → S.left ≠ some 0 →
        tSeq (tAsg (tVar 2) (gSub (tFld K (tVar 0) "cells") (tVar 1) (rSetU P w))) (sFld K (tVar 0) (tOp (rAddU K) (tFld K (tVar 0) "many") (tC (.int 1))) "many") { nx := fun _ H' => Q .non H', rt := Q } (L2.start n_Store_write [.ref s, n, u]) H2 := by
      intro H2 left' b2 lv2 rn2 ru2 hst2 hl hl0
      obtain ⟨dx, kvs, h1, h2, h3⟩ := id hst2
      refine ⟨_, rfl, _, rfl, s, a.Store, dx, _, .ref c, rfl, h1, kc.sc, kc.cells, rfl, n, rfl, .inr (.inr ⟨c, kvs, k, rfl, h2, keyD_m rn2 hk, mixK_cp h3 hmx, ?_, ?_⟩)⟩
      · have := h3.keys
        have e : kvs.length = S.cells.length := by
          have := congrArg List.length this
          simpa using this
        omega
      · intro H3 k1 k2 hdm
        have ne : c ≠ s := fun z => by
          obtain ⟨xs, h4, _⟩ := h2
          rw [z, h1] at h4
          cases h4
        have b3 : But [s, c] H2 H3 := ⟨fun b o nb e => k1 b o (fun z => nb (by simp [z])) e, fun b hb z => by
          by_cases q : b = c
          · subst q
            obtain ⟨xs, h4, _⟩ := hdm
            rw [h4] at z
            cases z
          · cases q2 : H2 b with
            | none => exact hb q2
            | some o =>
              rw [k1 b o q q2] at z
              cases z⟩
        have h1' : H3 s = some (.ins a.Store dx (fS c S.many left' S.down)) := k1 s _ (Ne.symm ne) h1
        have ss := b3.s (M := M) hst2.noseq
        refine ⟨_, rfl, s, a.Store, dx, _, .int S.many, rfl, h1', kc.sc, kc.many, rfl, .inl ⟨S.many, 1, rfl, rfl, ?_⟩⟩
        refine ⟨_, rfl, s, a.Store, dx, _, rfl, h1', kc.sc, kc.many, by show 4 < 1000; decide, ?_⟩
        have n3 : NoSeq [s] H3 := fun b hb o e => by
          have hb : b = s := by simpa using hb
          subst hb
          rw [h1'] at e
          cases e
          rfl
        have b4 : But [s, c] H3 (upd H3 s (.ins a.Store dx (fS c (S.many + 1) left' S.down))) := But.upd (by simp)
        have h4 := stAt_upd (o := .ins a.Store dx (fS c (S.many + 1) left' S.down)) n3 ne hdm (M := M) (cells := putC S.cells k d) (((h3.put ru2 (k := k)).mono ss))
        have := hl hl0
        subst this
        refine q3 hd hl0 _ ((b2.trans b3).trans b4) ⟨dx, _, upd_same, h4.1, h4.2⟩
    refine ⟨_, rfl, s, a.Store, dx, _, oI S.left, rfl, h1, kc.sc, kc.left, rfl, dO S.left, .int 0, oI_dp _, .int 0, ?_, by rfl, PyData.eqv (dO S.left) (.int 0), rfl, ?_⟩
    · cases S.left with
      | none => rfl
      | some i => rfl
    cases hl : S.left with
    | none =>
      rw [hl] at h1
      rw [if_neg (by simp [PyData.eqv])]
      refine ⟨_, rfl, s, a.Store, dx, _, .non, rfl, h1, kc.sc, kc.left, rfl, rfl, _, rfl, ?_⟩
      show if (!decide (V.non = V.non)) = true then _ else _
      rw [if_neg (by simp)]
      refine rest H1 none b0 lv1 rn ru ?_ (fun _ => by rw [hl]; rfl) (by rw [hl]; simp)
      have : ({ S with left := none } : SS) = S := by
        cases S
        simp_all
      rw [this]
      exact hst1
    | some i =>
      rw [hl] at h1
      by_cases hi : i = 0
      · subst hi
        rw [if_pos (by simp [PyData.eqv])]
        refine ⟨_, rfl, s, a.Store, dx, _, rfl, h1, kc.sc, kc.down, by show 4 < 1000; decide, _, rfl, s, a.Store, dx, _, rfl, upd_same, kc.sc, kc.left, by show 4 < 1000; decide, ?_⟩
        have h4 := stAt_upd (o := .ins a.Store dx (fS c S.many (some 0) true)) n1 ne h2 h3
        have n2 : NoSeq [s] (upd H1 s (.ins a.Store dx (fS c S.many (some 0) true))) := fun b hb o e => by
          have hb : b = s := by simpa using hb
          subst hb
          rw [upd_same] at e
          cases e
          rfl
        have h5 := stAt_upd (o := .ins a.Store dx (fS c S.many none true)) n2 ne h4.1 h4.2
        exact q2 hd hl _ ((b0.trans (But.upd (by simp))).trans (But.upd (by simp))) ⟨dx, kvs, upd_same, h5.1, h5.2⟩
      · rw [if_neg (by rw [show dO (some i) = .int i from rfl, eqv_int]; simpa using hi)]
        refine ⟨_, rfl, s, a.Store, dx, _, .int i, rfl, h1, kc.sc, kc.left, rfl, rfl, _, rfl, ?_⟩
        show if (!decide (V.int i = V.non)) = true then _ else _
        rw [if_pos (by simp)]
        refine ⟨_, rfl, s, a.Store, dx, _, .int i, rfl, h1, kc.sc, kc.left, rfl, i, 1, rfl, rfl, _, rfl, s, a.Store, dx, _, rfl, h1, kc.sc, kc.left, by show 4 < 1000; decide, ?_⟩
        have h4 := stAt_upd (o := .ins a.Store dx (fS c S.many (some (i - 1)) S.down)) n1 ne h2 h3
        have b1 : But [s] H1 (upd H1 s (.ins a.Store dx (fS c S.many (some (i - 1)) S.down))) := But.upd (by simp)
        have hs0 := b1.s (M := M) n1
        exact rest _ (some (i - 1)) (b0.trans (b1.mono (by simp))) (b1.lv lv1) (rn.mono hs0) (ru.mono hs0) ⟨dx, kvs, upd_same, h4.1, h4.2⟩ (fun _ => by rw [hl]; rfl) (by rw [hl]; simpa using hi)
theorem pure_Store___init (kc : Kc K a) (vs : List V) (H : Hp) (Q : VK) (E : XK) (h : sp_Store___init P w K a vs H Q E) : t_Store___init P w K a E { nx := fun _ H' => Q .non H', rt := Q } (L2.start n_Store___init vs) H := by
  obtain ⟨s, dx, rfl, h1, q⟩ := h
  intro c H1 hc k1 k2 hdm
  have ne : s ≠ c := ne_of_none h1 hc
  have h1' := k1 s _ ne h1
  have n0 : ∀ (G : Hp) o, NoSeq [s] (upd G s (.ins a.Store dx o)) := fun G o b hb u e => by
    have hb : b = s := by simpa using hb
    subst hb
    rw [upd_same] at e
    cases e
    rfl
  refine ⟨_, rfl, s, a.Store, dx, _, rfl, h1', kc.sc, kc.cells, by show 0 < 1000; decide, _, rfl, s, a.Store, dx, _, rfl, upd_same, kc.sc, kc.many, by show 1 < 1000; decide, _, rfl, s, a.Store, dx, _, rfl, upd_same, kc.sc, kc.left, by show 2 < 1000; decide, _, rfl, s, a.Store, dx, _, rfl, upd_same, kc.sc, kc.down, by show 3 < 1000; decide, ?_⟩
  have b1 : But [s] H H1 := ⟨fun b o nb e => k1 b o (ne_of_none e hc) e, fun b hb z => by
    cases q : H b with
    | none => exact hb q
    | some o =>
      rw [k1 b o (ne_of_none q hc) q] at z
      cases z⟩
  refine q c _ hc ((((b1.trans (But.upd (by simp))).trans (But.upd (by simp))).trans (But.upd (by simp))).trans (But.upd (by simp))) fun M lv => ⟨dx, [], upd_same, ?_, .nil⟩
  have n1 : NoSeq [s] H1 := fun b hb u e => by
    have hb : b = s := by simpa using hb
    subst hb
    rw [h1'] at e
    cases e
    rfl
  exact dm_but (A := [s]) (But.upd (by simp)) (n0 _ _) (by simpa using Ne.symm ne) (dm_but (A := [s]) (But.upd (by simp)) (n0 _ _) (by simpa using Ne.symm ne) (dm_but (A := [s]) (But.upd (by simp)) (n0 _ _) (by simpa using Ne.symm ne) (dm_but (A := [s]) (But.upd (by simp)) n1 (by simpa using Ne.symm ne) hdm)))
end
end Sp

set_option Elab.async false
set_option linter.all false
set_option maxRecDepth 100000
set_option maxHeartbeats 4000000
/-! files.py: what the readers tell. -/
namespace Sp
open PySem L2 SM SR SD SE
section
variable {P : Program} {w : World} {K : PySem.W.Frag} {a : Ad}
def ownLen (Γ : Gm) (i : Nat) : Nat := match Γ[i]? with
  | some (.own l) => l.length
  | _ => 0
theorem chainF_len (sp : List (Option Cl)) : ∀ (k : Nat) (l : Option Nat), (chainF sp k l).length ≤ k
  | 0, _ => by simp [chainF]
  | k + 1, none => by simp [chainF]
  | k + 1, some n => by
    unfold chainF
    split
    · simp only [List.length_cons]
      exact Nat.succ_le_succ (chainF_len sp k _)
    · simp
theorem FileAt.rep {M : Ads} {H : Hp} {F : FA} {S : FS} (h : FileAt P w a M H F S) : ∃ cs, Rep cs S := by
  obtain ⟨dx, cs, _, _, _, h4⟩ := h
  exact ⟨cs, h4⟩
theorem FileAt.np {M : Ads} {H : Hp} {F : FA} {S : FS} (h : FileAt P w a M H F S) : S.pages.length = S.fences.length + 1 := let ⟨_, r⟩ := h.rep; r.np
theorem FileAt.ns {M : Ads} {H : Hp} {F : FA} {S : FS} (h : FileAt P w a M H F S) : S.spills.length ≤ 20 := let ⟨_, r⟩ := h.rep; by rw [r.ns]; exact r.sp
theorem chain_len {M : Ads} {H : Hp} {F : FA} {S : FS} (h : FileAt P w a M H F S) (pg : Pg) : (chainOf S pg).length ≤ 21 := by
  have := chainF_len S.spills (S.spills.length + 1) pg.2
  have := h.ns
  unfold chainOf
  omega
theorem pageNo_at {S : FS} {d : D} {n : Nat} (h : pageNo S d = some n) : ∃ pg, S.pages[n]? = some pg ∧ S.pages.getD n ([], none) = pg ∧ pg ∈ S.pages ∧ d = dPk S.which n := by
  unfold pageNo at h
  split at h
  · rename_i p v m
    split at h
    · rename_i hc
      obtain ⟨h1, h2, h3, h4⟩ := hc
      simp only [Option.some.injEq] at h
      subst h1 h2 h
      have hl : m.toNat < S.pages.length := by omega
      refine ⟨S.pages[m.toNat], by simp [hl], by simp [hl], List.getElem_mem hl, ?_⟩
      show _ = PyData.tuple [.str "page", .int (S.which : Nat), .int (m.toNat : Nat)]
      rw [Int.toNat_of_nonneg h3]
    · cases h
  · cases h
theorem pure_File_page_of (kc : Kc K a) (vs : List V) (H : Hp) (Q : VK) (E : XK) (h : sp_File_page_of P w K a vs H Q E) : t_File_page_of P w K a E { nx := fun _ H' => Q .non H', rt := Q } (L2.start n_File_page_of vs) H := by
  obtain ⟨M, o, us, S, ds, rfl, lv, ⟨F, rfl, hF, wf⟩, r, hr⟩ := h
  have hI : FIn P w a (ivF P w a F S) F S := fun _ _ h => h
  match ds, r, hr with
  | [.int k], r, hr =>
    refine sw_fin lv hF.at0 (env_startO hF.at0 r (by simp)) ?_ hr
    refine sw_then (sw_asgT (ev_read kc hI rfl (ea_cons (ev_str _) ea_nil) rd_root) tg_pair) ?_
    have hl := hF.np
    have hn := wf.np
    refine sw_ret (ev_tup (ea_cons (ev_str _) (ea_cons (ev_var rfl) (ea_cons (ev_cb (ea_cons (ev_lc (xs := S.fences) (enc := PyData.int) (fun f => decide (f < k)) PyData.int (ei_seqT (ev_var rfl)) (by omega) fun x hx => ⟨_, tgw_name, et_test (ev_op (ev_var rfl) (ev_var rfl) od_lt), fun _ => ev_var rfl⟩) ea_nil) cb_lenL) ea_nil))) (by simp)) ?_
    show some (Rs.ok (dPk S.which (atP S.fences k))) = _
    simp [atP]
theorem pure_File_pages (kc : Kc K a) (vs : List V) (H : Hp) (Q : VK) (E : XK) (h : sp_File_pages P w K a vs H Q E) : t_File_pages P w K a E { nx := fun _ H' => Q .non H', rt := Q } (L2.start n_File_pages vs) H := by
  obtain ⟨M, o, us, S, ds, rfl, lv, ⟨F, rfl, hF, wf⟩, r, hr⟩ := h
  have hI : FIn P w a (ivF P w a F S) F S := fun _ _ h => h
  match ds, r, hr with
  | [], r, hr =>
    refine sw_fin lv hF.at0 (env_startO hF.at0 r (by simp)) ?_ hr
    refine sw_then (sw_asgT (ev_read kc hI rfl (ea_cons (ev_str _) ea_nil) rd_root) tg_pair) ?_
    have hl := hF.np
    have hn := wf.np
    refine sw_ret (ev_lcm (xs := List.range (S.fences.length + 1)) (enc := dInt) (dPk S.which) (ei_eq (ei_range1 (ea_cons (ev_op (ev_cb (ea_cons (ev_var rfl) ea_nil) cb_lenT) (ev_int _) od_addI) ea_nil) (by omega) (by simp; omega)) ?_) (by simp; omega) fun x hx => ⟨_, tgw_name, ev_tup (ea_cons (ev_str _) (ea_cons (ev_var rfl) (ea_cons (ev_var rfl) ea_nil))) (by simp)⟩) rfl
    rw [List.length_map]
    have e : ((S.fences.length : Nat) + 1 : Int).toNat = S.fences.length + 1 := by omega
    rw [e]
    simp [rgD]
theorem pure_File_chain (kc : Kc K a) (vs : List V) (H : Hp) (Q : VK) (E : XK) (h : sp_File_chain P w K a vs H Q E) : t_File_chain P w K a E { nx := fun _ H' => Q .non H', rt := Q } (L2.start n_File_chain vs) H := by
  obtain ⟨M, o, us, S, ds, rfl, lv, ⟨F, rfl, hF, wf⟩, r, hr⟩ := h
  have hI : FIn P w a (ivF P w a F S) F S := fun _ _ h => h
  match ds, r, hr with
  | [d], r, hr =>
    cases hp : pageNo S d with
    | none => simp [f_chain, hp, RsTo] at hr
    | some n =>
      obtain ⟨pg, h1, h2, h3, rfl⟩ := pageNo_at hp
      refine sw_fin lv hF.at0 (env_startO hF.at0 r (by simp)) ?_ hr
      have hc := wf.ch pg h3
      have hlen := chain_len hF pg
      have ef : f_chain S [dPk S.which n] = some (.ok (.list ((chainOf S pg).map dInt))) := by simp [f_chain, hp, h1]
      rw [ef]
      generalize chainOf S pg = ch at hc hlen
      refine sw_then sw_own0 (sw_then (sw_asg (ev_op (ev_read kc hI rfl (ea_cons (ev_var rfl) ea_nil) (rd_page h1)) (ev_int _) (od_ixT rfl))) ?_)
      refine sw_seq (N1 := fun Γ => Γ = [Sl.val (.ref F.f), Sl.dat (dPk S.which n), Sl.own (ch.map dInt), Sl.dat .none]) (sw_while (fun Γ => ∃ done rest l, ch = done ++ rest ∧ Ch S.spills l rest ∧ Γ = [Sl.val (.ref F.f), Sl.dat (dPk S.which n), Sl.own (done.map dInt), Sl.dat (dLink l)])
        (fun Γ => ch.length - ownLen Γ 2) ⟨[], ch, pg.2, rfl, hc, rfl⟩ fun Γ1 hI => ?_) fun Γ1 e => ?_
      · obtain ⟨done, rest, l, e1, e2, rfl⟩ := hI
        cases e2 with
        | nil =>
          refine ⟨false, et_test (ev_op (ev_var rfl) ev_non od_notN), nofun, fun _ => ?_⟩
          rw [List.append_nil] at e1
          rw [e1]
        | @cons m rw_ l' ns h4 h5 =>
          have hd : done.length < 21 := by
            rw [e1] at hlen
            simp at hlen
            omega
          refine ⟨true, et_test (ev_op (ev_var rfl) ev_non od_notN), fun _ => ?_, nofun⟩
          refine sw_then (sw_app (d := dInt m) rfl (ev_var rfl) (by simp; omega)) ?_
          refine sw_mono (sw_asg (d := dLink l') (ev_op (ev_read kc hI rfl (ea_cons (ev_tup (ea_cons (ev_str _) (ea_cons (ev_var rfl) ea_nil)) (by simp)) ea_nil) (rd_spill h4)) (ev_int _) (od_ixT rfl))) fun Γ' e => ?_
          subst e
          refine ⟨⟨done ++ [m], ns, l', by simp [e1], h5, by simp⟩, ?_⟩
          simp [e1, ownLen]
          omega
      · subst e
        exact sw_retOwn rfl rfl
theorem pure_File_spilled (kc : Kc K a) (vs : List V) (H : Hp) (Q : VK) (E : XK) (h : sp_File_spilled P w K a vs H Q E) : t_File_spilled P w K a E { nx := fun _ H' => Q .non H', rt := Q } (L2.start n_File_spilled vs) H := by
  obtain ⟨M, o, us, S, ds, rfl, lv, ⟨F, rfl, hF, wf⟩, r, hr⟩ := h
  have hI : FIn P w a (ivF P w a F S) F S := fun _ _ h => h
  match ds, r, hr with
  | [.int k], r, hr =>
    unfold f_spilled at hr
    by_cases hk : 0 ≤ k
    · simp only [if_pos hk] at hr
      obtain ⟨n, rfl⟩ := Int.eq_ofNat_of_zero_le hk
      rw [Int.toNat_natCast] at hr
      split at hr
      · rename_i rw_ l e
        refine sw_fin lv hF.at0 (env_startO hF.at0 r (by simp)) ?_ hr
        exact sw_ret (ev_op (ev_read kc hI rfl (ea_cons (ev_tup (ea_cons (ev_str _) (ea_cons (ev_var rfl) ea_nil)) (by simp)) ea_nil) (rd_spill e)) (ev_int _) (od_ixT rfl)) rfl
      · exact hr.elim
    · simp only [if_neg hk] at hr
      exact hr.elim
theorem ch_cell {S : FS} : ∀ {l : Option Nat} {ns : List Nat}, Ch S.spills l ns → ∀ n ∈ ns, f_spilled S [.int (n : Nat)] = some (.ok (dRow (cellRow S n)))
  | _, _, .nil, n, h => by cases h
  | _, _, .cons (n := m) h1 h2, n, h => by
    rcases List.mem_cons.mp h with rfl | h
    · simp [f_spilled, cellRow, h1]
    · exact ch_cell h2 n h
theorem ev_chain_ {X : Wd} {Φ : Iv} {F : FA} {S : FS} {Γ : Gm} {E : XK} {ta : TA} {n : Nat} {pg : Pg} (hI : FIn P w a Φ F S) (wf : WFc S) (hv : Γ[0]? = some (.val (.ref F.f))) (ha : EvA X Φ ta Γ [dPk S.which n]) (hp : S.pages[n]? = some pg) :
    Ev X Φ (tMeth a.File "chain" (sp_File_chain P w K a) [] E (tVar 0) ta) Γ (.list ((chainOf S pg).map dInt)) := by
  refine ev_self (f := f_chain) hI wf hv ha ?_
  have hl : n < S.pages.length := (List.getElem?_eq_some_iff.mp hp).1
  have e : pageNo S (dPk S.which n) = some n := by
    have : (n : Int) < S.pages.length := by omega
    simp [pageNo, this]
  simp [f_chain, e, hp]
theorem pure_File_rows_at (kc : Kc K a) (vs : List V) (H : Hp) (Q : VK) (E : XK) (h : sp_File_rows_at P w K a vs H Q E) : t_File_rows_at P w K a E { nx := fun _ H' => Q .non H', rt := Q } (L2.start n_File_rows_at vs) H := by
  obtain ⟨M, o, us, S, ds, rfl, lv, ⟨F, rfl, hF, wf⟩, r, hr⟩ := h
  have hI : FIn P w a (ivF P w a F S) F S := fun _ _ h => h
  match ds, r, hr with
  | [d], r, hr =>
    cases hp : pageNo S d with
    | none => simp [f_rows_at, hp, RsTo] at hr
    | some n =>
      obtain ⟨pg, h1, h2, h3, rfl⟩ := pageNo_at hp
      refine sw_fin lv hF.at0 (env_startO hF.at0 r (by simp)) ?_ hr
      have hlen := chain_len hF pg
      have hsz := wf.sz pg h3
      refine sw_ret (ev_op (ev_cb (ea_cons (ev_op (ev_read kc hI rfl (ea_cons (ev_var rfl) ea_nil) (rd_page h1)) (ev_int _) (od_ixT rfl)) ea_nil) cb_listT) (ev_lcm (xs := chainOf S pg) (enc := dInt) (fun n => dRow (cellRow S n)) (ei_seqL (ev_chain_ hI wf rfl (ea_cons (ev_var rfl) ea_nil) h1)) (by omega) fun x hx => ⟨_, tgw_name, ev_self hI wf rfl (ea_cons (ev_var rfl) ea_nil) (ch_cell (wf.ch pg h3) x hx)⟩) (od_addL (by simp; omega))) ?_
      have ef : f_rows_at S [dPk S.which n] = some (.ok (dList (rowsOf S pg))) := by simp [f_rows_at, hp, h1]
      rw [ef]
      simp [rowsOf, Function.comp_def]
end
end Sp

set_option Elab.async false
set_option linter.all false
set_option maxRecDepth 100000
set_option maxHeartbeats 4000000
/-! files.py: the further readers, parted. -/
namespace Sp
open PySem L2 SM SR SD SE
section
variable {P : Program} {w : World} {K : PySem.W.Frag} {a : Ad}
/-! ### sum, dict -/
theorem dts_ints {G : Hp} : ∀ {vs : List V} {ns : List Int}, Dts G vs (ns.map PyData.int) → vs = ns.map V.int
  | [], [], _ => rfl
  | v :: vs, n :: ns, .cons h t => by
    cases h
    rw [dts_ints t]
    rfl
theorem cb_sum {ns : List Int} : CbD (rSum K) [.list (ns.map PyData.int)] (.int ns.sum) := fun N H vs lv h Q q => by
  cases h with
  | cons h1 h2 =>
    cases h2
    cases h1 with
    | @lst b xs _ ha hv =>
      refine ⟨b, ns, rfl, ?_, q _ H (Same.refl H) (.int _)⟩
      rw [← dts_ints hv]
      exact sqL ha
/-- rows as a dict's items -/
abbrev rowKV (r : Row) : Key × V := (.inl r.1, .int r.2)
theorem dts_rows {N : Ads} {H : Hp} : ∀ {vs : List V} {rs : List Row}, Dts (hid N H) vs (rs.map dRow) → ∃ ps, vs = ps.map V.ref ∧ Paired (fun p kv => SqT K H p [kV kv.1, kv.2]) ps (rs.map rowKV)
  | [], [], _ => ⟨[], rfl, .nil⟩
  | v :: vs, r :: rs, .cons h t => by
    obtain ⟨ps, e, h2⟩ := dts_rows t
    cases h with
    | @tup b xs _ ha hv =>
      cases hv with
      | cons a1 hv =>
        cases hv with
        | cons a2 hv =>
          cases hv
          cases a1
          cases a2
          exact ⟨b :: ps, by rw [e]; rfl, .cons (sqT ha) h2⟩
theorem valV_putK {κ : Type} [DecidableEq κ] {kvs : List (κ × V)} {k j : κ} {v : V} : valV (putK kvs k v) j = if k = j then some v else valV kvs j := by
  unfold putK
  split
  · rename_i h
    induction kvs with
    | nil => simp at h
    | cons p r ih =>
      rw [List.map_cons]
      by_cases e : p.1 = k
      · rw [if_pos e]
        by_cases ej : k = j
        · rw [if_pos ej, valV_pos (show (p.1, v).1 = j from e.trans ej)]
        · rw [if_neg ej, valV_neg (show ¬ (p.1, v).1 = j from fun z => ej (e.symm.trans z)), valV_neg (fun z => ej (e.symm.trans z))]
          by_cases hr : (r.any fun kv => decide (kv.1 = k)) = true
          · rw [ih hr, if_neg ej]
          · have : r.map (fun kv => if kv.1 = k then (kv.1, v) else kv) = r := by
              refine (List.map_congr_left fun x hx => ?_).trans (List.map_id r)
              rw [if_neg fun z => hr (List.any_eq_true.mpr ⟨x, hx, decide_eq_true z⟩)]
              rfl
            rw [this]
      · rw [if_neg e]
        have hr : (r.any fun kv => decide (kv.1 = k)) = true := by
          rw [List.any_cons, decide_eq_false e, Bool.false_or] at h
          exact h
        by_cases ej : p.1 = j
        · rw [valV_pos ej, if_neg (fun z => e (ej.trans z.symm)), valV_pos ej]
        · rw [valV_neg ej, valV_neg ej]
          exact ih hr
  · rename_i h
    induction kvs with
    | nil =>
      by_cases ej : k = j
      · rw [if_pos ej]
        exact valV_pos ej
      · rw [if_neg ej]
        exact valV_neg ej
    | cons p r ih =>
      rw [List.cons_append]
      have hp : ¬ p.1 = k := fun z => h (by rw [List.any_cons, decide_eq_true z]; rfl)
      have hr : ¬ (r.any fun kv => decide (kv.1 = k)) = true := fun z => h (by rw [List.any_cons, z, Bool.or_true])
      by_cases ej : p.1 = j
      · rw [valV_pos ej, valV_pos ej, if_neg fun z => hp (ej.trans z.symm)]
      · rw [valV_neg ej, valV_neg ej]
        exact ih hr
theorem merge_val (rs : List Row) (k : Int) : ∀ kvs : List (Key × V), valV (mergeK kvs (rs.map rowKV)) (.inl k) = (rs.foldl (fun o r => if r.1 = k then some (V.int r.2) else o) (valV kvs (.inl k))) := by
  induction rs with
  | nil => intro kvs; rfl
  | cons r rs ih =>
    intro kvs
    show valV (mergeK (putK kvs (.inl r.1) (.int r.2)) (rs.map rowKV)) (.inl k) = _
    rw [ih, valV_putK, List.foldl_cons]
    congr 1
    by_cases e : r.1 = k
    · rw [if_pos e, if_pos (congrArg Sum.inl e)]
    · rw [if_neg e, if_neg fun z => e (Sum.inl.inj z)]
theorem fold_val (rs : List Row) (k : Int) : ∀ o : Option Int, rs.foldl (fun o r => if r.1 = k then some (V.int r.2) else o) (o.map V.int) = (rs.foldl (fun o r => if r.1 = k then some r.2 else o) o).map V.int := by
  induction rs with
  | nil => intro o; rfl
  | cons r rs ih =>
    intro o
    rw [List.foldl_cons, List.foldl_cons, ← ih]
    congr 1
    by_cases e : r.1 = k
    · rw [if_pos e, if_pos e]
      rfl
    · rw [if_neg e, if_neg e]
theorem merge_last (rs : List Row) (k : Int) : valV (mergeK [] (rs.map rowKV)) (.inl k) = (lastVal rs k).map V.int := (merge_val rs k []).trans (fold_val rs k none)
/-- dict(rows).get(key) -/
theorem ev_dget {X : Wd} {Φ : Iv} {Γ : Gm} {ta : TA} {tk : TE} {rs : List Row} {k : Int} (h : EvA X Φ ta Γ [dList rs]) (hk : Ev X Φ tk Γ (.int k)) : Ev X Φ (tDGet1 (tCB (rDictU K) ta) tk) Γ (dO (lastVal rs k)) := fun L H σ c g Q q =>
  h L H σ c g _ fun vs H1 e1 r => by
    cases r with
    | cons r1 r2 =>
      cases r2
      cases r1 with
      | @lst b xs _ ha hv =>
        obtain ⟨ps, e, hp⟩ := dts_rows (K := K) hv
        subst e
        refine ⟨b, ps, _, rfl, sqL ha, hp, fun p hn => ?_⟩
        have s2 := new_same (o := .dK (mergeK [] (rs.map rowKV))) hn
        refine ⟨p, rfl, .inl ⟨_, .inl upd_same⟩, hk L _ σ (c.up (e1.trans s2)) (g.up (e1.trans s2)) _ fun v H3 e3 rk => ?_⟩
        cases rk
        refine ⟨_, .inl ⟨_, .inl k, .inl (e3 _ _ upd_same), rfl, rfl⟩, ?_⟩
        rw [merge_last]
        refine q _ H3 ((e1.trans s2).trans e3) ?_
        cases lastVal rs k with
        | none => exact .non
        | some i => exact .int i
/-! ### the readers -/
theorem atP_lt {M : Ads} {H : Hp} {F : FA} {S : FS} (h : FileAt P w a M H F S) (k : Int) : atP S.fences k < S.pages.length := by
  have h1 := h.np
  have h2 : atP S.fences k ≤ S.fences.length := List.length_filter_le _ _
  omega
theorem pageAt_at {M : Ads} {H : Hp} {F : FA} {S : FS} (h : FileAt P w a M H F S) (k : Int) : S.pages[atP S.fences k]? = some (pageAt S k) := by
  have := atP_lt h k
  simp [pageAt, this]
theorem pageAt_mem {M : Ads} {H : Hp} {F : FA} {S : FS} (h : FileAt P w a M H F S) (k : Int) : pageAt S k ∈ S.pages := List.mem_of_getElem? (pageAt_at h k)
theorem pageNo_of {S : FS} {n : Nat} (h : n < S.pages.length) : pageNo S (dPk S.which n) = some n := by
  have : (n : Int) < S.pages.length := by omega
  simp [pageNo, this]
theorem asked_up {S : FS} {d : D} {r : Int → Rs} (h : S.down = true) : asked a S d r = .er a.Stopped := by simp [asked, h]
theorem asked_bad {S : FS} {d : D} {r : Int → Rs} (h : S.down = false) (hd : isNum d 0 999 = false) : asked a S d r = .er a.BadKey := by
  cases d <;> simp [asked, h, hd]
theorem asked_ok {S : FS} {k : Int} {r : Int → Rs} (h : S.down = false) (hd : isNum (.int k) 0 999 = true) : asked a S (.int k) r = r k := by simp [asked, h, hd]
theorem isNum_int {d : D} {lo hi : Int} (h : isNum d lo hi = true) : ∃ k, d = .int k ∧ lo ≤ k ∧ k ≤ hi := by
  cases d with
  | int k =>
    simp [isNum] at h
    exact ⟨k, rfl, h⟩
  | _ => simp [isNum] at h
/-- self.store.need_up(); need_key(key) -/
theorem sw_asked {M : Ads} {H0 : Hp} {Φ : Iv} {Γ : Gm} {E : XK} {F : FA} {S : FS} {d : D} {r : Int → Rs} {Q : VK} {t : TS} {N : Gm → Prop} {R : D → Prop} (kc : Kc K a) (hI : FIn P w a Φ F S) (hv : Γ[0]? = some (.val (.ref F.f))) (hd : Γ[1]? = some (.dat d))
    (hr : RsTo M H0 Q E (some (asked a S d r))) (h : ∀ k, d = .int k → 0 ≤ k → k ≤ 999 → S.down = false → asked a S d r = r k → SW (wd M H0) Φ t Γ N R) :
    SW (wd M H0) Φ (tSeq (tDrop (tMeth a.Store "need_up" (sp_Store_need_up P w K a) [] E (tFld K (tVar 0) "store") tNil)) (tSeq (tDrop (tCall (sp_need_key P w K a) [] E (tCons (tVar 1) tNil))) t)) Γ N R := by
  cases hdn : S.down with
  | true =>
    rw [asked_up hdn] at hr
    refine sw_seq (N1 := fun _ => False) (sw_dropR (er_up kc hI hv) (fun d' z => ?_) fun _ => ?_) fun _ z => z.elim
    · rw [hdn] at z
      cases z
    · rw [hdn]
      exact ⟨Q, hr⟩
  | false =>
    refine sw_then (sw_dropR (er_up kc hI hv) (fun d' z => rfl) fun z => ?_) ?_
    · rw [hdn] at z
      exact absurd rfl (z _)
    · cases hk : isNum d 0 999 with
      | false =>
        rw [asked_bad hdn hk] at hr
        refine sw_seq (N1 := fun _ => False) (sw_dropR (er_callP (f := f_need_key a) (ea_cons (ev_var hd) ea_nil) rfl) (fun d' z => ?_) fun _ => ?_) fun _ z => z.elim
        · rw [hk] at z
          cases z
        · rw [hk]
          exact ⟨Q, hr⟩
      | true =>
        obtain ⟨k, rfl, h1, h2⟩ := isNum_int hk
        refine sw_then (sw_dropR (er_callP (f := f_need_key a) (ea_cons (ev_var hd) ea_nil) rfl) (fun d' z => rfl) fun z => ?_) (h k rfl h1 h2 hdn (asked_ok hdn hk))
        rw [hk] at z
        exact absurd rfl (z _)
theorem pure_File_found (kc : Kc K a) (vs : List V) (H : Hp) (Q : VK) (E : XK) (h : sp_File_found P w K a vs H Q E) : t_File_found P w K a E { nx := fun _ H' => Q .non H', rt := Q } (L2.start n_File_found vs) H := by
  obtain ⟨M, o, us, S, ds, rfl, lv, ⟨F, rfl, hF, wf⟩, r, hr⟩ := h
  have hI : FIn P w a (ivF P w a F S) F S := fun _ _ h => h
  match ds, r, hr with
  | [d], r, hr =>
    refine sw_fin lv hF.at0 (env_startO hF.at0 r (by simp)) (sw_asked kc hI rfl rfl hr fun k hd h1 h2 h3 h4 => ?_) hr
    subst hd
    refine sw_ret (ev_dget (rs := rowsOf S (pageAt S k)) (ea_cons (ev_self (f := f_rows_at) hI wf rfl (ea_cons (ev_self (f := f_page_of) hI wf rfl (ea_cons (ev_var rfl) ea_nil) rfl) ea_nil) ?_) ea_nil) (ev_var rfl)) ?_
    · simp only [f_rows_at]
      rw [pageNo_of (atP_lt hF k)]
      rfl
    · simp only [f_found]
      rw [h4]
theorem pure_File_rows (kc : Kc K a) (vs : List V) (H : Hp) (Q : VK) (E : XK) (h : sp_File_rows P w K a vs H Q E) : t_File_rows P w K a E { nx := fun _ H' => Q .non H', rt := Q } (L2.start n_File_rows vs) H := by
  obtain ⟨M, o, us, S, ds, rfl, lv, ⟨F, rfl, hF, wf⟩, r, hr⟩ := h
  have hI : FIn P w a (ivF P w a F S) F S := fun _ _ h => h
  match ds, r, hr with
  | [], r, hr =>
    refine sw_fin lv hF.at0 (env_startO hF.at0 r (by simp)) ?_ hr
    have hnp := hF.np
    have hn := wf.np
    refine sw_then sw_own0 (sw_seq (N1 := fun Γ => ∃ s, Γ = [Sl.val (.ref F.f), Sl.own ((allRows S).map dRow), s]) (sw_for (ei_seqL (ev_self (f := f_pages) hI wf rfl ea_nil rfl)) (fun k Γ => ∃ s, Γ = [Sl.val (.ref F.f), Sl.own (((S.pages.take k).flatMap (rowsOf S)).map dRow), s]) ⟨_, rfl⟩ (fun k d Γ1 hk hI => ?_) fun Γ1 hI => ?_) fun Γ1 hI => ?_)
    · obtain ⟨s, rfl⟩ := hI
      have hkl : k < S.pages.length := by
        have := (List.getElem?_eq_some_iff.mp hk).1
        simp at this
        omega
      have hd : d = dPk S.which k := by
        simp only [List.getElem?_map, List.getElem?_range (show k < S.fences.length + 1 by omega), Option.map_some, Option.some.injEq] at hk
        exact hk.symm
      subst hd
      refine ⟨_, tg_name, ?_⟩
      have hpk : S.pages[k]? = some S.pages[k] := by simp [hkl]
      refine sw_mono (sw_ext (es := (rowsOf S S.pages[k]).map dRow) rfl (ev_self (f := f_rows_at) hI wf rfl (ea_cons (ev_var rfl) ea_nil) ?_) ?_) fun Γ' e => ?_
      · simp only [f_rows_at]
        rw [pageNo_of hkl]
        simp [hkl]
      · have h1 : ∀ l : List Pg, (∀ pg ∈ l, pg ∈ S.pages) → (l.flatMap (rowsOf S)).length ≤ 25 * l.length := fun l hl => by
          induction l with
          | nil => simp
          | cons p l ih =>
            have hp := hl p List.mem_cons_self
            have := ih fun x hx => hl x (List.mem_cons_of_mem _ hx)
            have h2 := wf.sz p hp
            have h3 := chain_len hF p
            simp only [List.flatMap_cons, List.length_append, List.length_cons]
            have : (rowsOf S p).length ≤ 25 := by
              simp only [rowsOf, List.length_append, List.length_map]
              omega
            omega
        have h2 := h1 (S.pages.take k) fun x hx => List.mem_of_mem_take hx
        have h3 := h1 [S.pages[k]] fun x hx => by
          rw [List.mem_singleton.mp hx]
          exact List.getElem_mem hkl
        simp only [List.length_map]
        simp only [List.length_take] at h2
        simp at h3
        omega
      · subst e
        refine ⟨Sl.dat (dPk S.which k), ?_⟩
        have e2 : (S.pages.take (k + 1)).flatMap (rowsOf S) = (S.pages.take k).flatMap (rowsOf S) ++ rowsOf S S.pages[k] := by
          rw [List.take_add_one, hpk, List.flatMap_append]
          simp only [Option.toList_some, List.flatMap_cons, List.flatMap_nil, List.append_nil]
        rw [e2, List.map_append]
        rfl
    · obtain ⟨s, rfl⟩ := hI
      refine ⟨s, ?_⟩
      have : ((List.range (S.fences.length + 1)).map (dPk S.which)).length = S.pages.length := by simp [hnp]
      rw [this, List.take_length]
      rfl
    · obtain ⟨s, rfl⟩ := hI
      exact sw_retOwn rfl rfl
theorem pagesOf_map {S : FS} : ∀ {ds : List D} {ps : List Pg}, pagesOf S ds = some ps → ∃ ns : List Nat, ds = ns.map (dPk S.which) ∧ (∀ n ∈ ns, n < S.pages.length) ∧ ps = ns.map fun n => S.pages.getD n ([], none)
  | [], ps, h => by
    cases h
    exact ⟨[], rfl, by simp, rfl⟩
  | d :: ds, ps, h => by
    unfold pagesOf at h
    cases h1 : pageNo S d with
    | none => simp [h1] at h
    | some n =>
      cases h2 : pagesOf S ds with
      | none => simp [h1, h2] at h
      | some qs =>
        simp only [h1, h2, Option.some.injEq] at h
        subst h
        obtain ⟨ns, rfl, h3, rfl⟩ := pagesOf_map h2
        obtain ⟨pg, h4, h5, h6, rfl⟩ := pageNo_at h1
        refine ⟨n :: ns, rfl, fun m hm => ?_, rfl⟩
        rcases List.mem_cons.mp hm with rfl | hm
        · exact (List.getElem?_eq_some_iff.mp h4).1
        · exact h3 m hm
theorem pagesOf_of {S : FS} : ∀ {ns : List Nat}, (∀ n ∈ ns, n < S.pages.length) → pagesOf S (ns.map (dPk S.which)) = some (ns.map fun n => S.pages.getD n ([], none))
  | [], _ => rfl
  | n :: ns, h => by
    rw [List.map_cons]
    unfold pagesOf
    rw [pageNo_of (h n List.mem_cons_self), pagesOf_of fun m hm => h m (List.mem_cons_of_mem _ hm)]
    rfl
theorem range_pages {S : FS} : (List.range S.pages.length).map (fun n => S.pages.getD n ([], none)) = S.pages := by
  refine List.ext_getElem (by simp) fun i h1 h2 => ?_
  have : i < S.pages.length := by simpa using h2
  simp [this]
theorem pure_File_many_looks (kc : Kc K a) (vs : List V) (H : Hp) (Q : VK) (E : XK) (h : sp_File_many_looks P w K a vs H Q E) : t_File_many_looks P w K a E { nx := fun _ H' => Q .non H', rt := Q } (L2.start n_File_many_looks vs) H := by
  obtain ⟨M, o, us, S, ds, rfl, lv, ⟨F, rfl, hF, wf⟩, r, hr⟩ := h
  have hI : FIn P w a (ivF P w a F S) F S := fun _ _ h => h
  match ds, r, hr with
  | [.list ds], r, hr =>
    by_cases hz : ds.length < 100000
    · cases hp : pagesOf S ds with
      | none => simp [f_many_looks, hp, hz, RsTo] at hr
      | some ps =>
        obtain ⟨ns, rfl, hn, rfl⟩ := pagesOf_map hp
        refine sw_fin lv hF.at0 (env_startO hF.at0 r (by simp)) ?_ hr
        refine sw_ret (ev_cb (ea_cons (ev_eq (e := .list ((ns.map fun n => (1 : Int) + ((chainOf S (S.pages.getD n ([], none))).length : Nat)).map PyData.int)) (ev_lcm (xs := ns) (enc := dPk S.which) (fun n => .int (1 + ((chainOf S (S.pages.getD n ([], none))).length : Nat))) (ei_seqL (ev_var rfl)) (by simpa using hz) fun n hx => ⟨_, tgw_name, ?_⟩) (by simp)) ea_nil) cb_sum) ?_
        · have hl := hn n hx
          refine ev_op (ev_int _) (ev_cb (ea_cons (ev_chain_ (pg := S.pages.getD n ([], none)) hI wf rfl (ea_cons (ev_var rfl) ea_nil) (by simp [hl])) ea_nil) (by have := cb_lenL (K := K) (ds := (chainOf S (S.pages.getD n ([], none))).map dInt); rwa [List.length_map] at this)) od_addI
        · simp only [f_many_looks, hp, if_pos hz, Option.map_some, manyLooks, List.map_map]
          refine congrArg (fun z => some (Rs.ok (PyData.int z))) ?_
          clear hz hp hr r hn
          induction ns with
          | nil => rfl
          | cons n ns ih =>
            simp only [List.map_cons, List.sum_cons, Function.comp_apply] at ih ⊢
            omega
    · simp [f_many_looks, hz, RsTo] at hr
theorem pure_File_walk (kc : Kc K a) (vs : List V) (H : Hp) (Q : VK) (E : XK) (h : sp_File_walk P w K a vs H Q E) : t_File_walk P w K a E { nx := fun _ H' => Q .non H', rt := Q } (L2.start n_File_walk vs) H := by
  obtain ⟨M, o, us, S, ds, rfl, lv, ⟨F, rfl, hF, wf⟩, r, hr⟩ := h
  have hI : FIn P w a (ivF P w a F S) F S := fun _ _ h => h
  match ds, r, hr with
  | [], r, hr =>
    refine sw_fin lv hF.at0 (env_startO hF.at0 r (by simp)) ?_ hr
    cases hdn : S.down with
    | true =>
      refine sw_seq (N1 := fun _ => False) (sw_dropR (er_up kc hI rfl) (fun d' z => by rw [hdn] at z; cases z) fun _ => ?_) fun _ z => z.elim
      have : f_walk a S [] = some (.er a.Stopped) := by simp [f_walk, hdn]
      rw [this] at hr
      rw [hdn]
      exact ⟨Q, hr⟩
    | false =>
      refine sw_then (sw_dropR (er_up kc hI rfl) (fun d' z => rfl) fun z => by rw [hdn] at z; exact absurd rfl (z _)) ?_
      have hnp := hF.np
      have hn := wf.np
      have hm : f_many_looks S [.list ((List.range (S.fences.length + 1)).map (dPk S.which))] = some (.ok (dInt (manyLooks S S.pages))) := by
        rw [← hnp]
        simp only [f_many_looks]
        rw [if_pos (by simp; omega), pagesOf_of (fun n h => by simpa using h), range_pages]
        rfl
      refine sw_ret (ev_tup (ea_cons (ev_self (f := f_rows) hI wf rfl ea_nil rfl) (ea_cons (ev_self (f := f_many_looks) hI wf rfl (ea_cons (ev_self (f := f_pages) hI wf rfl ea_nil rfl) ea_nil) hm) ea_nil)) (by simp)) ?_
      simp [f_walk, hdn]
theorem pure_File_writes (kc : Kc K a) (vs : List V) (H : Hp) (Q : VK) (E : XK) (h : sp_File_writes P w K a vs H Q E) : t_File_writes P w K a E { nx := fun _ H' => Q .non H', rt := Q } (L2.start n_File_writes vs) H := by
  obtain ⟨M, o, us, S, ds, rfl, lv, ⟨F, rfl, hF, wf⟩, r, hr⟩ := h
  have hI : FIn P w a (ivF P w a F S) F S := fun _ _ h => h
  match ds, r, hr with
  | [], r, hr => exact sw_fin lv hF.at0 (env_startO hF.at0 r (by simp)) (sw_ret (ev_many kc hI rfl) rfl) hr
theorem pure_File_picture (kc : Kc K a) (vs : List V) (H : Hp) (Q : VK) (E : XK) (h : sp_File_picture P w K a vs H Q E) : t_File_picture P w K a E { nx := fun _ H' => Q .non H', rt := Q } (L2.start n_File_picture vs) H := by
  obtain ⟨M, o, us, S, ds, rfl, lv, ⟨F, rfl, hF, wf⟩, r, hr⟩ := h
  have hI : FIn P w a (ivF P w a F S) F S := fun _ _ h => h
  match ds, r, hr with
  | [], r, hr =>
    refine sw_fin lv hF.at0 (env_startO hF.at0 r (by simp)) ?_ hr
    have hnp := hF.np
    have hn := wf.np
    obtain ⟨cs, rep⟩ := hF.rep
    have hns := rep.ns
    have hsp := rep.sp
    refine sw_then (sw_asg (ev_cb (ea_cons (ev_lcm (xs := List.range (S.fences.length + 1)) (enc := dPk S.which) (fun n => dPage (S.pages.getD n ([], none))) (ei_seqL (ev_self (f := f_pages) hI wf rfl ea_nil rfl)) (by simp; omega) fun x hx => ⟨_, tgw_name, ev_read kc hI rfl (ea_cons (ev_var rfl) ea_nil) (rd_page ?_)⟩) ea_nil) cb_tupL)) ?_
    · have : x < S.pages.length := by
        rw [hnp]
        simpa using hx
      simp [this]
    refine sw_then (sw_asg (ev_cb (ea_cons (ev_lcm (xs := List.range S.spare) (enc := dInt) (fun n => dCell (S.spills.getD n none)) (ei_eq (ei_range1 (ea_cons (ev_spare kc hI rfl) ea_nil) (by omega) (by omega)) ?_) (by simp; omega) fun x hx => ⟨_, tgw_name, ev_read kc hI rfl (ea_cons (ev_tup (ea_cons (ev_str _) (ea_cons (ev_var rfl) ea_nil)) (by simp)) ea_nil) (rd_spill ?_)⟩) ea_nil) cb_tupL)) ?_
    · simp [rgD]
    · have : x < S.spills.length := by
        rw [hns]
        simpa using hx
      simp [this]
    refine sw_ret (ev_tup (ea_cons (ev_op (ev_read kc hI rfl (ea_cons (ev_str _) ea_nil) rd_root) (ev_int _) (od_ixT rfl)) (ea_cons (ev_var rfl) (ea_cons (ev_var rfl) ea_nil))) (by simp)) ?_
    have e1 : (List.range (S.fences.length + 1)).map (fun n => dPage (S.pages.getD n ([], none))) = S.pages.map dPage := by
      rw [← hnp]
      conv => rhs; rw [← range_pages (S := S)]
      rw [List.map_map]
      rfl
    have e2 : (List.range S.spare).map (fun n => dCell (S.spills.getD n none)) = S.spills.map dCell := by
      rw [← hns]
      refine List.ext_getElem (by simp) fun i h1 h2 => ?_
      have : i < S.spills.length := by simpa using h2
      simp [this]
    rw [e1, e2]
    rfl
end
end Sp

set_option Elab.async false
set_option linter.all false
set_option maxRecDepth 100000
set_option maxHeartbeats 4000000
/-! files.py: looks, parted. -/
namespace Sp
open PySem L2 SM SR SD SE
theorem atI_last {α : Type} {l : List α} {enc : α → D} {r : α} (h : l.getLast? = some r) : L2.atI (l.map enc) (-1) = some (enc r) := by
  have hne : l ≠ [] := fun z => by
    rw [z] at h
    cases h
  have hp : 0 < l.length := List.length_pos_iff.mpr hne
  unfold L2.atI ixN
  rw [List.length_map, if_neg (by decide), if_pos (by omega)]
  show (l.map enc)[((-1 : Int) + l.length).toNat]? = _
  have e : ((-1 : Int) + l.length).toNat = l.length - 1 := by omega
  rw [e, List.getElem?_map, ← List.getLast?_eq_getElem?, h]
  rfl
section
variable {P : Program} {w : World} {K : PySem.W.Frag} {a : Ad}
theorem pure_File_looks (kc : Kc K a) (vs : List V) (H : Hp) (Q : VK) (E : XK) (h : sp_File_looks P w K a vs H Q E) : t_File_looks P w K a E { nx := fun _ H' => Q .non H', rt := Q } (L2.start n_File_looks vs) H := by
  obtain ⟨M, o, us, S, ds, rfl, lv, ⟨F, rfl, hF, wf⟩, r, hr⟩ := h
  have hI : FIn P w a (ivF P w a F S) F S := fun _ _ h => h
  match ds, r, hr with
  | [d], r, hr =>
    refine sw_fin lv hF.at0 (env_startO hF.at0 r (by simp)) (sw_asked kc hI rfl rfl hr fun k hd h1 h2 h3 h4 => ?_) hr
    subst hd
    have hpg := pageAt_at hF k
    have hmem := pageAt_mem hF k
    have hch := wf.ch _ hmem
    have hlen := chain_len hF (pageAt S k)
    refine sw_then (sw_asg (ev_self (f := f_page_of) hI wf rfl (ea_cons (ev_var rfl) ea_nil) rfl)) ?_
    refine sw_then (sw_asg (ev_op (ev_read kc hI rfl (ea_cons (ev_var rfl) ea_nil) (rd_page hpg)) (ev_int _) (od_ixT rfl))) ?_
    have ef : f_looks a S [.int k] = some (.ok (dInt (looksOf S k))) := by
      simp only [f_looks]
      rw [h4]
    rw [ef]
    cases hlast : (pageAt S k).1.getLast? with
    | none =>
      have hnil : (pageAt S k).1 = [] := by simpa using hlast
      refine sw_seq (N1 := fun _ => False) (sw_if (b := true) (et_eq (et_or (b := true) (et_test (ev_op (ev_var rfl) (ev_tup ea_nil (by simp)) (od_eq (shd_rows.ok) (by rfl)))) fun z => ?_) (by simp)) (fun _ => sw_ret (ev_int _) ?_) nofun) fun _ z => z.elim
      · rw [eqv_nilT, hnil] at z
        cases z
      · simp [looksOf, hlast]
    | some r0 =>
      have hne : (pageAt S k).1 ≠ [] := fun z => by
        rw [z] at hlast
        cases hlast
      have key : EvT (wd M H) (ivF P w a F S) (tOr (tTest (tOp (rEqD K) (tVar 3) (tTup tNil))) (tTest (tOp rLeI (tVar 1) (tOp (rIxU P w K) (tOp (rIxU P w K) (tVar 3) (tUn rNegI (tC (.int 1)))) (tC (.int 0)))))) [Sl.val (.ref F.f), Sl.dat (.int k), Sl.dat (dPk S.which (atP S.fences k)), Sl.dat (dRows (pageAt S k).1), Sl.no, Sl.no] (decide (k ≤ r0.1)) := by
        refine et_eq (et_or (et_test (ev_op (ev_var rfl) (ev_tup ea_nil (by simp)) (od_eq (shd_rows.ok) (by rfl)))) fun z => et_test (ev_op (ev_var rfl) (ev_op (ev_op (ev_var rfl) (ev_neg (ev_int _)) (od_ixT (atI_last hlast))) (ev_int _) (od_ixT rfl)) od_le)) ?_
        rw [eqv_nilT]
        simp [hne]
      refine sw_seq (N1 := fun Γ => Γ = [Sl.val (.ref F.f), Sl.dat (.int k), Sl.dat (dPk S.which (atP S.fences k)), Sl.dat (dRows (pageAt S k).1), Sl.no, Sl.no] ∧ ¬ k ≤ r0.1) (sw_if key (fun hb => sw_ret (ev_int _) ?_) fun hb => sw_next ⟨rfl, of_decide_eq_false hb⟩) fun Γ' e => ?_
      · have := of_decide_eq_true hb
        simp [looksOf, hlast, this]
      · obtain ⟨rfl, hk⟩ := e
        refine sw_then (sw_asg (ev_lc (xs := chainOf S (pageAt S k)) (enc := dInt) (fun n => decide ((cellRow S n).1 < k)) dInt (ei_seqL (ev_chain_ hI wf rfl (ea_cons (ev_var rfl) ea_nil) hpg)) (by omega) fun x hx => ⟨_, tgw_name, et_test (ev_op (ev_op (ev_self (f := f_spilled) hI wf rfl (ea_cons (ev_var rfl) ea_nil) (ch_cell hch x hx)) (ev_int _) (od_ixT rfl)) (ev_var rfl) od_lt), fun _ => ev_var rfl⟩)) ?_
        refine sw_ret (ev_op (ev_int _) (ev_cb (ea_cons (ev_op (ev_cb (ea_cons (ev_var rfl) ea_nil) cb_lenL) (ev_int _) od_addI) (ea_cons (ev_cb (ea_cons (ev_chain_ hI wf rfl (ea_cons (ev_var rfl) ea_nil) hpg) ea_nil) cb_lenL) ea_nil)) cb_min2) od_addI) ?_
        refine congrArg (fun z => some (Rs.ok (PyData.int z))) ?_
        simp only [looksOf, hlast, if_neg hk, List.length_map]
        split <;> omega
/-! ### parted -/
def nParts (len n : Nat) : Nat := if len = 0 then 0 else (len - 1) / n + 1
theorem parts_eq {n : Nat} (hn : 0 < n) : ∀ (k : Nat) (rs : List Row), rs.length ≤ k → parts n k rs = (List.range (nParts rs.length n)).map fun j => (rs.drop (j * n)).take n
  | 0, rs, h => by
    have : rs = [] := List.length_eq_zero_iff.mp (by omega)
    subst this
    simp [parts, nParts]
  | k + 1, [], h => by simp [parts, nParts]
  | k + 1, r :: rs, h => by
    have hd : ((r :: rs).drop n).length ≤ k := by
      simp only [List.length_drop, List.length_cons] at h ⊢
      omega
    unfold parts
    rw [parts_eq hn k _ hd]
    have e : nParts (r :: rs).length n = nParts ((r :: rs).drop n).length n + 1 := by
      unfold nParts
      rw [List.length_drop]
      have h1 : (r :: rs).length ≠ 0 := by simp
      rw [if_neg h1]
      by_cases h2 : (r :: rs).length - n = 0
      · rw [if_pos h2, Nat.div_eq_of_lt (by omega)]
      · rw [if_neg h2]
        have h3 : (r :: rs).length - 1 = ((r :: rs).length - n - 1) + n := by omega
        rw [h3, Nat.add_div_right _ hn]
    rw [e, List.range_succ_eq_map, List.map_cons, List.map_map, Nat.zero_mul, List.drop_zero]
    congr 1
    refine List.map_congr_left fun j _ => ?_
    show (((r :: rs).drop n).drop (j * n)).take n = ((r :: rs).drop ((j + 1) * n)).take n
    rw [List.drop_drop]
    congr 2
    rw [Nat.add_mul, Nat.one_mul, Nat.add_comm]
theorem rgC_up {n c : Nat} (hn : n ≤ 1000000) (h1 : 1 ≤ c) (h2 : c ≤ 1000000) : RgC 0 (n : Nat) (c : Nat) (nParts n c) := by
  have hsz : Builtin.Range.rangeSize 0 (n : Nat) (c : Nat) = (nParts n c : Nat) := by
    unfold Builtin.Range.rangeSize nParts
    rw [if_pos (by omega)]
    by_cases h : n = 0
    · subst h
      simp
    · rw [if_pos (by omega), if_neg h]
      have : ((n : Int) - 0 - 1) = ((n - 1 : Nat) : Int) := by omega
      rw [this, Int.natCast_add, Int.natCast_ediv]
      simp
  have hb : nParts n c ≤ 1000001 := by
    unfold nParts
    split
    · omega
    · have := Nat.div_le_self (n - 1) c
      omega
  refine ⟨by omega, by omega, ?_, hsz⟩
  unfold Builtin.Range.small
  rw [hsz]
  have hc : (c : Int) > 0 := by omega
  simp only [Builtin.Range.rangeFitsLong, Bool.and_eq_true, Bool.or_eq_true, decide_eq_true_eq, beq_iff_eq, if_pos hc]
  omega
theorem cut_nat {ds : List D} {i j : Nat} (h : i ≤ j) : cut ds (some (i : Nat)) (some (j : Nat)) = (ds.drop i).take (j - i) := by
  unfold cut
  rw [HT.sIx_nat, HT.sIx_nat]
  by_cases hi : i ≤ ds.length
  · rw [Nat.min_eq_left hi]
    by_cases hj : j ≤ ds.length
    · rw [Nat.min_eq_left hj]
    · rw [Nat.min_eq_right (by omega)]
      rw [List.take_of_length_le (by simp), List.take_of_length_le (by simp; omega)]
  · rw [Nat.min_eq_right (by omega), Nat.min_eq_right (by omega), List.drop_eq_nil_of_le (by omega), List.drop_eq_nil_of_le (by omega)]
    simp
theorem rowsD_map : ∀ {ds : List D} {rs : List Row}, rowsD ds = some rs → ds = rs.map dRow
  | [], rs, h => by
    cases h
    rfl
  | d :: ds, rs, h => by
    unfold rowsD at h
    split at h
    · rename_i r rs' h1 h2
      cases h
      rw [rowsD_map h2]
      unfold rowD at h1
      split at h1
      · cases h1
        rfl
      · cases h1
    · cases h
theorem rowsD_of : ∀ (rs : List Row), rowsD (rs.map dRow) = some rs
  | [] => rfl
  | r :: rs => by
    rw [List.map_cons]
    unfold rowsD
    rw [rowsD_of rs]
    rfl
theorem pure_parted (vs : List V) (H : Hp) (Q : VK) (E : XK) (h : sp_parted P w K a vs H Q E) : t_parted P w K a E { nx := fun _ H' => Q .non H', rt := Q } (L2.start n_parted vs) H := by
  obtain ⟨M, ds, lv, r, hr⟩ := h
  match ds, r, hr with
  | [.list ds, .int fill], r, hr =>
    simp only [f_parted] at hr
    split at hr
    · rename_i hc
      obtain ⟨h1, h2, h3⟩ := hc
      cases hrs : rowsD ds with
      | none => simp [hrs, RsTo] at hr
      | some rs =>
        have := rowsD_map hrs
        subst this
        obtain ⟨n, rfl⟩ := Int.eq_ofNat_of_zero_le (show 0 ≤ fill by omega)
        rw [hrs] at hr
        refine sw_fin lv At0.nil (env_start At0.nil r (by simp)) ?_ hr
        refine sw_ret (d := .list ((partsOf n rs).map dRows)) (ev_if (b := !rs.isEmpty) ?_ (fun hb => ?_) fun hb => ?_) ?_
        · refine et_test (ev_eq (ev_op (ev_var rfl) (ev_lst ea_nil (by simp)) (od_ne (shd_lst (k := 2) fun d hd => ?_).ok (by rfl))) ?_)
          · obtain ⟨r, _, rfl⟩ := List.mem_map.mp hd
            exact shd_row.mono (by decide)
          · rw [eqv_nilL]
            simp
        · have hne : rs ≠ [] := by simpa using hb
          have hl : rs.length ≤ 1000 := by simpa using h3
          have e1 : (partsOf n rs).map dRows = (List.range (nParts rs.length n)).map fun j => dRows ((rs.drop (j * n)).take n) := by
            unfold partsOf
            rw [if_neg hne, parts_eq (by omega) _ _ (Nat.le_refl _), List.map_map]
            rfl
          rw [e1]
          have hnp : nParts rs.length n ≤ 1000 := by
            unfold nParts
            split
            · omega
            · have := Nat.div_le_self (rs.length - 1) n
              omega
          refine ev_lcm (xs := List.range (nParts rs.length n)) (enc := fun j => .int ((j * n : Nat) : Int)) (fun j => dRows ((rs.drop (j * n)).take n)) (ei_eq (ei_range3 (ea_cons (ev_int 0) (ea_cons (ev_cb (ea_cons (ev_var rfl) ea_nil) cb_lenL) (ea_cons (ev_var rfl) ea_nil))) (by rw [List.length_map]; exact rgC_up (by omega) (by omega) (by omega))) ?_) (by simp; omega) fun j hj => ⟨_, tgw_name, ?_⟩
          · unfold rgD
            refine List.map_congr_left fun j _ => ?_
            simp
          · refine ev_cb (ea_cons (ev_eq (e := .list (((rs.drop (j * n)).take n).map dRow)) (ev_slL (ev_var rfl) (eo_some (ev_var rfl)) (eo_some (ev_op (ev_var rfl) (ev_var rfl) od_addI))) ?_) ea_nil) cb_tupL
            have e2 : ((j * n : Nat) : Int) + (n : Int) = ((j * n + n : Nat) : Int) := by omega
            rw [e2, cut_nat (by omega)]
            simp
        · have hnil : rs = [] := by simpa using hb
          subst hnil
          exact ev_lst (ea_cons (ev_tup ea_nil (by simp)) ea_nil) (by simp [partsOf])
        · simp [f_parted, h1, h2, h3, hrs]
    · exact hr.elim
end
end Sp

set_option Elab.async false
set_option linter.all false
set_option maxRecDepth 100000
set_option maxHeartbeats 4000000
/-! Defs that write a file. -/
namespace Sp
open PySem L2 SM SR SD SE
/-- a file as it lies -/
structure RS where
  (room spare : Nat)
  st : SS
  marks : List (Int × Int)
  count : Nat
def RawAt (P : Program) (w : World) (a : Ad) (M : Ads) (H : Hp) (F : FA) (R : RS) : Prop :=
  ∃ dx, H F.f = some (.ins a.File dx (fF R.room R.spare F.s F.m R.count)) ∧ H F.m = some (.dK (R.marks.map fun m => (Sum.inl m.1, V.int m.2))) ∧ StAt P w a M H F.s F.c R.st ∧ ∀ p ∈ R.st.cells, noL p.2 = true
def FS.raw (S : FS) (cs : List (MKey × D)) : RS := ⟨S.room, S.spare, ⟨cs, S.many, S.left, S.down⟩, S.marks, S.count⟩
/-- a write: the store behind it, whether it was stopped -/
def wr (S : SS) (k : MKey) (d : D) : SS × Bool :=
  if S.down then (S, true) else if S.left = some 0 then ({ S with down := true, left := none }, true) else ({ S with cells := putC S.cells k d, many := S.many + 1, left := S.left.map (· - 1) }, false)
def wrs : SS → List (MKey × D) → SS × Bool
  | S, [] => (S, false)
  | S, (k, d) :: r => if (wr S k d).2 then ((wr S k d).1, true) else wrs (wr S k d).1 r
theorem wrs_app (S : SS) : ∀ (a b : List (MKey × D)), wrs S (a ++ b) = if (wrs S a).2 then wrs S a else wrs (wrs S a).1 b := by
  intro a
  induction a generalizing S with
  | nil => intro b; simp [wrs]
  | cons p a ih =>
    intro b
    obtain ⟨k, d⟩ := p
    rw [List.cons_append]
    simp only [wrs]
    split
    · rfl
    · rw [ih]
section
variable {P : Program} {w : World} {K : PySem.W.Frag} {a : Ad} {M N : Ads} {H H' : Hp} {F : FA} {S : FS} {R : RS}
theorem FileAt.raw (h : FileAt P w a M H F S) : ∃ cs, Rep cs S ∧ RawAt P w a M H F (S.raw cs) := by
  obtain ⟨dx, cs, h1, h2, h3, h4⟩ := h
  exact ⟨cs, h4, dx, h1, h2, h3, h4.nl⟩
theorem RawAt.file {cs : List (MKey × D)} (h : RawAt P w a M H F (S.raw cs)) (r : Rep cs S) : FileAt P w a M H F S := by
  obtain ⟨dx, h1, h2, h3, _⟩ := h
  exact ⟨dx, cs, h1, h2, h3, r⟩
theorem RawAt.noseq (h : RawAt P w a M H F R) : NoSeq F.foot H := by
  obtain ⟨dx, h1, h2, h3, _⟩ := h
  intro b hb o e
  have hb : b = F.f ∨ b = F.s ∨ b = F.c ∨ b = F.m := by simpa [FA.foot] using hb
  rcases hb with rfl | rfl | rfl | rfl
  · rw [h1] at e
    cases e
    rfl
  · exact h3.noseq _ (by simp) o e
  · exact h3.noseq _ (by simp) o e
  · rw [h2] at e
    cases e
    rfl
theorem RawAt.keep {Z : List Addr} (k : ∀ b o, b ∉ Z → H b = some o → H' b = some o) (n : ∀ z ∈ Z, z ∉ F.foot ∧ ∀ xs, H z ≠ some (.tup xs)) (s : SameS (hid M H) (hid N H')) (h : RawAt P w a M H F R) : RawAt P w a N H' F R := by
  have out : ∀ b ∈ F.foot, b ∉ Z := fun b hb hz => (n b hz).1 hb
  obtain ⟨dx, h1, h2, ⟨dy, kvs, h3, h4, h5⟩, h6⟩ := h
  exact ⟨dx, k _ _ (out _ (by simp [FA.foot])) h1, k _ _ (out _ (by simp [FA.foot])) h2, ⟨dy, kvs, k _ _ (out _ (by simp [FA.foot])) h3, dm_keep k (fun z hz => (n z hz).2) (out _ (by simp [FA.foot])) h4, h5.mono s⟩, h6⟩
theorem RawAt.lvf (h : RawAt P w a M H F R) : ∀ b ∈ F.foot, H b ≠ none := by
  obtain ⟨dx, h1, h2, ⟨dy, kvs, h3, ⟨xs, h4, _⟩, h5⟩, _⟩ := h
  intro b hb
  have hb : b = F.f ∨ b = F.s ∨ b = F.c ∨ b = F.m := by simpa [FA.foot] using hb
  rcases hb with rfl | rfl | rfl | rfl
  · rw [h1]; nofun
  · rw [h3]; nofun
  · rw [h4]; nofun
  · rw [h2]; nofun
/-- the places are four -/
theorem RawAt.ne (kc : Kc K a) (h : RawAt P w a M H F R) : F.f ≠ F.s ∧ F.f ≠ F.c ∧ F.m ≠ F.s ∧ F.m ≠ F.c ∧ F.f ≠ F.m ∧ F.s ≠ F.c := by
  obtain ⟨dx, h1, h2, ⟨dy, kvs, h3, ⟨xs, h4, _⟩, h5⟩, _⟩ := h
  refine ⟨fun z => ?_, fun z => ?_, fun z => ?_, fun z => ?_, fun z => ?_, fun z => ?_⟩
  · rw [z, h3] at h1
    simp only [Option.some.injEq, HO.ins.injEq] at h1
    exact kc.ne h1.1.symm
  · rw [z, h4] at h1
    cases h1
  · rw [z, h3] at h2
    cases h2
  · rw [z, h4] at h2
    cases h2
  · rw [z, h2] at h1
    cases h1
  · rw [z, h4] at h3
    cases h3
theorem RawAt.nol {A : Ads} (n : ∀ l ∈ A, l ∉ F.foot ∧ ∃ xs, H l = some (.lst xs)) (h : RawAt P w a M H F R) : RawAt P w a (HAppend.hAppend M A) H F R := by
  obtain ⟨dx, h1, h2, ⟨dy, kvs, h3, h4, h5⟩, h6⟩ := h
  exact ⟨dx, h1, h2, ⟨dy, kvs, h3, h4, h5.nol (fun l hl => (n l hl).2) h6⟩, h6⟩
def ivR (P : Program) (w : World) (a : Ad) (F : FA) (R : RS) : Iv := ⟨F.foot, fun M H => RawAt P w a M H F R, fun Z k n s h => h.keep k (fun z hz => ⟨(n z hz).1, (n z hz).2.1⟩) s, fun A n h => h.nol n⟩
theorem RawAt.at0 (h : RawAt P w a M H F R) : At0 (ivR P w a F R) M H := ⟨h.lvf, hid_noseq h.noseq, h⟩
end
/-! ### steps that change the held -/
section
variable {X : Wd} {Φ Φ' : Iv} {L : Lo} {H H' : Hp} {σ : L2.St} {Γ : Gm} {B : List Addr}
theorem EnvD.chg (c : Cur X Φ L H) (g : EnvD X Φ L H σ Γ) (b : But B H H') (hB : ∀ x ∈ B, x ∈ Φ.fp) (fpe : Φ'.fp = Φ.fp) (s : SameS (hd X Φ L H) (hd X Φ' L H')) : EnvD X Φ' L H' σ Γ := by
  refine ⟨g.len, fun i t e => ?_⟩
  have q := g.ok i t e
  cases t with
  | no => trivial
  | dat d =>
    obtain ⟨v, h1, h2⟩ := q
    exact ⟨v, h1, h2.mono s⟩
  | val v => exact q
  | own ds =>
    obtain ⟨l, vs, h1, h2, h3, h4⟩ := q
    exact ⟨l, vs, h1, h2, b.keep _ _ (fun z => c.dj _ h2 (hB _ z)) h3, h4.mono s⟩
  | tre d =>
    obtain ⟨v, A, h1, h2, h4, h3⟩ := q
    exact ⟨v, A, h1, h2, fun l hl => (h4 l hl).imp fun _ e => b.keep l _ (fun z => c.dj _ (h2 l hl) (hB _ z)) e, h3.mono (tgv_mono (fun l hl o e => b.keep l o (fun z => c.dj _ (h2 l hl) (hB _ z)) e) s)⟩
theorem Cur.chg (c : Cur X Φ L H) (b : But B H H') (hA : ∀ x ∈ B, x ∈ X.A) (ns : NoSeq B H) (fpe : Φ'.fp = Φ.fp) (p : Φ'.p (hdn X Φ L) H') : Cur X Φ' L H' ∧ SameS (hd X Φ L H) (hd X Φ' L H') := by
  have e : hdn X Φ' L = hdn X Φ L := by
    unfold hdn fnn
    rw [fpe]
  refine ⟨⟨c.but.trans (b.mono hA), ?_, c.new, c.om, c.nd, ?_, ?_⟩, ?_⟩
  · rw [e]
    exact b.lv c.lv
  · rw [fpe]
    exact c.dj
  · rw [e]
    exact p
  · show SameS (hid _ _) (hid _ _)
    rw [e]
    exact b.s ns
end
theorem putC_noL {cs : List (MKey × D)} {k : MKey} {d : D} (h : ∀ p ∈ cs, noL p.2 = true) (hd : noL d = true) : ∀ p ∈ putC cs k d, noL p.2 = true := fun p hp => by
  unfold putC at hp
  split at hp
  · obtain ⟨q, hq, e⟩ := List.mem_map.mp hp
    split at e
    · subst e
      exact hd
    · subst e
      exact h q hq
  · rcases List.mem_append.mp hp with hp | hp
    · exact h p hp
    · rw [List.mem_singleton.mp hp]
      exact hd
section
variable {P : Program} {w : World} {K : PySem.W.Frag} {a : Ad} {X : Wd} {F : FA} {R : RS} {Γ : Gm} {N : Gm → Iv → Prop} {Rt : Ro → Iv → Prop} {E : XK} {ta : TA} {te : TE} {k : MKey} {kd d : D}
theorem evv_store (kc : Kc K a) (hv : Γ[0]? = some (.val (.ref F.f))) : EvV X (ivR P w a F R) (tFld K (tVar 0) "store") Γ (.ref F.s) := fun L H σ c g Q q => by
  obtain ⟨dx, h1, h2, h3, _⟩ := id c.at_
  exact ⟨_, g.ok 0 _ hv, F.f, a.File, dx, _, .ref F.s, rfl, h1, kc.fc, kc.store, rfl, q H (Same.refl H)⟩
/-- self.store.write(name, what) -/
theorem fw_write (kc : Kc K a) (hv : Γ[0]? = some (.val (.ref F.f))) (hA : ∀ x ∈ F.foot, x ∈ X.A) (ha : EvA X (ivR P w a F R) ta Γ [kd, d]) (hnd : noL d = true) (hk : keyD kd = some k) (hm : (∃ x, k = .inl x) → ∃ p ∈ R.st.cells, ∃ ks, p.1 = .inr ks) (hz : R.st.cells.length ≤ 90000)
    (hn : (wr R.st k d).2 = false → N Γ (ivR P w a F { R with st := (wr R.st k d).1 })) (hx : (wr R.st k d).2 = true → ∀ L H', Cur X (ivR P w a F { R with st := (wr R.st k d).1 }) L H' → E (.ref a.Stopped) none H') :
    FW X (tDrop (tMeth a.Store "write" (sp_Store_write P w K a) [] E (tFld K (tVar 0) "store") ta)) Γ (ivR P w a F R) N Rt := fun L H σ D c g kk _ => by
    unfold tDrop tMeth
    refine evv_store kc hv L H σ c g _ fun H1 e1 => ?_
    have c1 := c.up e1
    obtain ⟨dx, h1, h2, ⟨dy, kvs, h3, h4, h5⟩, _⟩ := id c1.at_
    refine ⟨F.s, dy, _, rfl, h3, rfl, ha L H1 σ c1 (g.up e1) _ fun vs H2 e2 rr => ?_⟩
    have c2 := c1.up e2
    have g2 := g.up (e1.trans e2)
    have raw : RawAt P w a (hdn X (ivR P w a F R) L) H2 F R := c2.at_
    obtain ⟨n1, n2, n3, n4, n5, n6⟩ := raw.ne kc
    obtain ⟨dx, q1, q2, q3, q4⟩ := id raw
    cases rr with
    | @cons n _ us _ r1 rr =>
      cases rr with
      | @cons u _ us _ r2 rr =>
        cases rr
        have step : ∀ st H', But [F.s, F.c] H2 H' → StAt P w a (hdn X (ivR P w a F R) L) H' F.s F.c st → (∀ p ∈ st.cells, noL p.2 = true) → Cur X (ivR P w a F { R with st := st }) L H' ∧ SameS (hd X (ivR P w a F R) L H2) (hd X (ivR P w a F { R with st := st }) L H') ∧ EnvD X (ivR P w a F { R with st := st }) L H' σ Γ := by
          intro st H' b hst hnl
          have sub : ∀ x ∈ [F.s, F.c], x ∈ F.foot := by simp [FA.foot]
          have ns : NoSeq [F.s, F.c] H2 := fun x hx => raw.noseq x (sub x hx)
          obtain ⟨cc, ss⟩ := Cur.chg (Φ' := ivR P w a F { R with st := st }) c2 b (fun x hx => hA x (sub x hx)) ns rfl ⟨dx, b.keep _ _ (by simp [n1, n2]) q1, b.keep _ _ (by simp [n3, n4]) q2, hst, hnl⟩
          exact ⟨cc, ss, EnvD.chg c2 g2 b sub rfl ss⟩
        have s12 : SameS (hd X (ivR P w a F R) L H) (hd X (ivR P w a F R) L H2) := Same.s (Same.hid (e1.trans e2))
        refine ⟨_, F.s, F.c, R.st, n, u, kd, k, d, rfl, c2.lv, q3, r1, hk, r2, hm, hz, fun hdw H' e3 => ?_, fun hdw hl H' b hst => ?_, fun hdw hl H' b hst => ?_⟩
        · have e : wr R.st k d = (R.st, true) := by simp [wr, hdw]
          have := hx (by rw [e]) L H'
          rw [e] at this
          exact this (c2.up e3)
        · have e : wr R.st k d = ({ R.st with down := true, left := none }, true) := by simp [wr, hdw, hl]
          have := hx (by rw [e]) L H'
          rw [e] at this
          exact this (step _ H' b hst q4).1
        · have e : wr R.st k d = ({ R.st with cells := putC R.st.cells k d, many := R.st.many + 1, left := R.st.left.map (· - 1) }, false) := by simp [wr, hdw, hl]
          have hn' := hn (by rw [e])
          rw [e] at hn'
          obtain ⟨cc, ss, gg⟩ := step _ H' b hst (putC_noL q4 hnd)
          exact kk L H' σ Γ _ cc (s12.trans ss) gg hn'
/-- self.store.cells[name] = .. -/
theorem fw_cell (kc : Kc K a) (hv : Γ[0]? = some (.val (.ref F.f))) (hA : ∀ x ∈ F.foot, x ∈ X.A) (he : Ev X (ivR P w a F R) te Γ d) {ti : TE} (hi : Ev X (ivR P w a F R) ti Γ kd) (hnd : noL d = true) (hk : keyD kd = some k) (hm : (∃ x, k = .inl x) → ∃ p ∈ R.st.cells, ∃ ks, p.1 = .inr ks) (hz : R.st.cells.length ≤ 90000)
    (hn : N Γ (ivR P w a F { R with st := { R.st with cells := putC R.st.cells k d } })) : FW X (tAsg te (gSub (tFld K (tFld K (tVar 0) "store") "cells") ti (rSetU P w))) Γ (ivR P w a F R) N Rt := fun L H σ D c g kk _ =>
  he L H σ c g _ fun v H1 e1 rv => evv_store kc hv L H1 σ (c.up e1) (g.up e1) _ fun H2 e2 => by
    have c2 := c.up (e1.trans e2)
    obtain ⟨dx, h1, h2, ⟨dy, kvs, h3, h4, h5⟩, _⟩ := id c2.at_
    refine ⟨F.s, a.Store, dy, _, .ref F.c, rfl, h3, kc.sc, kc.cells, rfl, hi L H2 σ c2 (g.up (e1.trans e2)) _ fun iv H3 e3 ri => ?_⟩
    have c3 := c2.up e3
    have g3 := g.up ((e1.trans e2).trans e3)
    have raw : RawAt P w a (hdn X (ivR P w a F R) L) H3 F R := c3.at_
    obtain ⟨n1, n2, n3, n4, n5, n6⟩ := raw.ne kc
    obtain ⟨dx, q1, q2, ⟨dy, kvs, q3, q4, q5⟩, q6⟩ := id raw
    have rv := rv.mono (Same.s (Same.hid (M := hdn X (ivR P w a F R) L) (e2.trans e3)))
    refine .inr (.inr ⟨F.c, kvs, k, rfl, q4, keyD_m ri hk, mixK_cp q5 hm, ?_, fun H' k1 k2 hdm => ?_⟩)
    · have e : kvs.length = R.st.cells.length := by
        have := congrArg List.length q5.keys
        simpa using this
      omega
    · have b : But [F.c] H3 H' := ⟨fun b o nb e => k1 b o (by simpa using nb) e, fun b hb z => by
        by_cases q : b = F.c
        · subst q
          obtain ⟨xs, h4, _⟩ := hdm
          rw [h4] at z
          cases z
        · cases q2 : H3 b with
          | none => exact hb q2
          | some o =>
            rw [k1 b o q q2] at z
            cases z⟩
      have sub : ∀ x ∈ [F.c], x ∈ F.foot := by simp [FA.foot]
      have ns : NoSeq [F.c] H3 := fun x hx => raw.noseq x (sub x hx)
      have s0 := b.s (M := hdn X (ivR P w a F R) L) ns
      obtain ⟨cc, ss⟩ := Cur.chg (Φ' := ivR P w a F { R with st := { R.st with cells := putC R.st.cells k d } }) c3 b (fun x hx => hA x (sub x hx)) ns rfl ⟨dx, k1 _ _ n2 q1, k1 _ _ n4 q2, ⟨dy, _, k1 _ _ n6 q3, hdm, (q5.put rv).mono s0⟩, putC_noL q6 hnd⟩
      exact kk L H' σ Γ _ cc ((Same.s (Same.hid ((e1.trans e2).trans e3))).trans ss) (EnvD.chg c3 g3 b sub rfl ss) hn
/-- self.store.many = n -/
theorem fw_many {n : Int} (kc : Kc K a) (hv : Γ[0]? = some (.val (.ref F.f))) (hA : ∀ x ∈ F.foot, x ∈ X.A) (he : Ev X (ivR P w a F R) te Γ (.int n)) (hn : N Γ (ivR P w a F { R with st := { R.st with many := n } })) :
    FW X (sFld K (tFld K (tVar 0) "store") te "many") Γ (ivR P w a F R) N Rt := fun L H σ D c g kk _ =>
  he L H σ c g _ fun v H1 e1 rv => evv_store kc hv L H1 σ (c.up e1) (g.up e1) _ fun H2 e2 => by
    have c2 := c.up (e1.trans e2)
    have g2 := g.up (e1.trans e2)
    have raw : RawAt P w a (hdn X (ivR P w a F R) L) H2 F R := c2.at_
    obtain ⟨n1, n2, n3, n4, n5, n6⟩ := raw.ne kc
    obtain ⟨dx, q1, q2, ⟨dy, kvs, q3, q4, q5⟩, q6⟩ := id raw
    cases rv
    refine ⟨F.s, a.Store, dy, _, rfl, q3, kc.sc, kc.many, by show 4 < 1000; decide, ?_⟩
    have b : But [F.s] H2 (upd H2 F.s (.ins a.Store dy (fS F.c n R.st.left R.st.down))) := But.upd (by simp)
    have sub : ∀ x ∈ [F.s], x ∈ F.foot := by simp [FA.foot]
    have ns : NoSeq [F.s] H2 := fun x hx => raw.noseq x (sub x hx)
    have s0 := stAt_upd (P := P) (w := w) (o := .ins a.Store dy (fS F.c n R.st.left R.st.down)) ns (Ne.symm n6) q4 q5
    obtain ⟨cc, ss⟩ := Cur.chg (Φ' := ivR P w a F { R with st := { R.st with many := n } }) c2 b (fun x hx => hA x (sub x hx)) ns rfl ⟨dx, b.keep _ _ (by simp [n1]) q1, b.keep _ _ (by simp [n3]) q2, ⟨dy, kvs, upd_same, s0.1, s0.2⟩, q6⟩
    exact kk L _ σ Γ _ cc ((Same.s (Same.hid (e1.trans e2))).trans ss) (EnvD.chg c2 g2 b sub rfl ss) hn
/-! ### promises of writers -/
def WTo (P : Program) (w : World) (a : Ad) (M : Ads) (H : Hp) (F : FA) (Q : VK) (E : XK) : Option (RS × Rs) → Prop
  | some (R', .ok d) => ∀ v H', But F.foot H H' → RawAt P w a M H' F R' → Dt (hid M H') v d → Q v H'
  | some (R', .er c) => ∀ H', But F.foot H H' → RawAt P w a M H' F R' → E (.ref c) none H'
  | some (R', .ef c f n) => ∀ b H', But F.foot H H' → RawAt P w a M H' F R' → H' b = some (.xd [(f, .int n)]) → E (.ref c) (some b) H'
  | none => False
def SpW (P : Program) (w : World) (a : Ad) (f : RS → List D → Option (RS × Rs)) : Sp := fun vs H Q E => ∃ M F R us ds, vs = .ref F.f :: us ∧ Lv M H ∧ RawAt P w a M H F R ∧ Dts (hid M H) us ds ∧ WTo P w a M H F Q E (f R ds)
variable {M : Ads} {H : Hp} {Q : VK}
theorem raw_sub {M' : List Addr} {H' : Hp} (h : RawAt P w a (HAppend.hAppend M M') H' F R) : RawAt P w a M H' F R := h.keep (Z := []) (fun _ _ _ h => h) (fun z hz => by cases hz) (Same.s (hid_sub fun x hx => Or.inl hx))
theorem wto_er {R' : RS} {r : Rs} {L : Lo} {H' : Hp} (h : WTo P w a M H F Q E (some (R', r))) (c : Cur ⟨F.foot, M, H⟩ (ivR P w a F R') L H') : ErTo E H' r := by
  have raw : RawAt P w a M H' F R' := raw_sub (M' := (ivR P w a F R').fp) c.end_
  cases r with
  | ok d => trivial
  | er z => exact h H' c.but raw
  | ef z x n => exact fun b hb => h b H' c.but raw hb
theorem fw_fin {t : TS} {Ns : List Str} {vs : List V} {r : Option (RS × Rs)} (lv : Lv M H) (h0 : RawAt P w a M H F R) (g : EnvD ⟨F.foot, M, H⟩ (ivR P w a F R) [] H (L2.start Ns vs) Γ)
    (hs : FW ⟨F.foot, M, H⟩ t Γ (ivR P w a F R) (fun _ Φ' => ∃ R', Φ' = ivR P w a F R' ∧ r = some (R', .ok .none)) (fun ro Φ' => ∃ R' d, ro = .dat d ∧ Φ' = ivR P w a F R' ∧ r = some (R', .ok d))) (hr : WTo P w a M H F Q E r) :
    t { nx := fun _ H' => Q .non H', rt := Q } (L2.start Ns vs) H := by
  refine hs [] H (L2.start Ns vs) _ (h0.at0.cur lv) g (fun L' H' σ' Γ' Φ' c' s' g' n => ?_) fun v ro H' Φ' b hp rd ed => ?_
  · obtain ⟨R', rfl, n⟩ := n
    subst n
    exact hr .non H' c'.but (raw_sub (M' := (ivR P w a F R').fp) c'.end_) .non
  · obtain ⟨R', d, rfl, rfl, ed⟩ := ed
    subst ed
    exact hr v H' b (raw_sub (M' := (ivR P w a F R').fp) hp) (Dt.mono (Same.s (hid_sub fun a ha => Or.inl ha)) rd)
end
end Sp

set_option Elab.async false
set_option linter.all false
set_option maxRecDepth 100000
set_option maxHeartbeats 4000000
/-! Promises: laying, making a file. -/
namespace Sp
open PySem L2 SM SR SD SE
def layW (which : Nat) (ps : List (List Row)) : List (MKey × D) := (List.range ps.length).map (fun n => (kPage which n, dPage (ps.getD n [], none))) ++ [(kRoot, dRoot which (fencesOf ps))]
def f_lay (a : Ad) (R : RS) : List D → Option (RS × Rs)
  | [.int which, .list ds, .int fill] => if 0 ≤ which ∧ which ≤ 1 ∧ 1 ≤ fill ∧ fill ≤ 1000 ∧ ds.length ≤ 1000 ∧ R.st.cells.length ≤ 80000 then
      (rowsD ds).map fun rs => ({ R with st := (wrs R.st (layW which.toNat (partsOf fill.toNat rs))).1 }, if (wrs R.st (layW which.toNat (partsOf fill.toNat rs))).2 then .er a.Stopped else .ok .none) else none
  | _ => none
def sp_File_lay (P : Program) (w : World) (K : PySem.W.Frag) (a : Ad) : Sp := SpW P w a (f_lay a)
def sp_File___init (P : Program) (w : World) (K : PySem.W.Frag) (a : Ad) : Sp := fun vs H Q E => ∃ M f dx us rm fl sd rws, vs = .ref f :: us ∧ Lv M H ∧ H f = some (.ins a.File dx []) ∧ Dts (hid M H) us [rm, fl, sd, .list rws] ∧
  (shapeOk rm fl sd = false → ∀ H', Same H H' → E (.ref a.BadFile) none H') ∧
  (shapeOk rm fl sd = true → ∀ i : Nat, badRow rws = some i → ∀ b H', Same H H' → H' b = some (.xd [("number", .int i)]) → E (.ref a.BadRows) (some b) H') ∧
  (∀ (room fill spare : Nat) rs, rm = dInt room → fl = dInt fill → sd = dInt spare → 1 ≤ fill → fill ≤ room → room ≤ 4 → spare ≤ 20 → badRow rws = none → rws = rs.map dRow → rs.length ≤ 40 → ∀ F H', F.f = f → (∀ b ∈ [F.s, F.c, F.m], H b = none) → But [f] H H' → FileAt P w a M H' F (mkFS room fill spare rs) → Q .non H')
end Sp

set_option Elab.async false
set_option linter.all false
set_option maxRecDepth 100000
set_option maxHeartbeats 4000000
/-! Readings, printed by gen.py. -/
namespace Sp
open PySem L2 SM SR SD SE
def t_File_lay (P : Program) (w : World) (K : PySem.W.Frag) (a : Ad) (E : XK) : TS :=
  (tSeq (tAsg (tCall (sp_parted P w K a) [] E (tCons (tVar 2) (tCons (tVar 3) tNil))) (gName 4)) (tSeq (tFor (iEnum K (tCons (tVar 4) tNil)) (gTup K 2 (gCons (gName 5) (gCons (gName 6) gNil))) (tDrop (tMeth a.Store "write" (sp_Store_write P w K a) [] E (tFld K (tVar 0) "store") (tCons (tTup (tCons (tC (.str "page")) (tCons (tVar 1) (tCons (tVar 5) tNil)))) (tCons (tTup (tCons (tVar 6) (tCons (tC .non) tNil))) tNil))))) (tDrop (tMeth a.Store "write" (sp_Store_write P w K a) [] E (tFld K (tVar 0) "store") (tCons (tC (.str "root")) (tCons (tTup (tCons (tVar 1) (tCons (tCB (rTupU K) (tCons (tLc (iSeqU K (tSl (rSlU K) (tVar 4) tNoPart (tPart (tUn rNegI (tC (.int 1)))))) (gName 6) tYes (tOp (rIxU P w K) (tOp (rIxU P w K) (tVar 6) (tUn rNegI (tC (.int 1)))) (tC (.int 0))) [6]) tNil)) tNil))) tNil))))))
abbrev n_File_lay : List Str := ["self", "which", "rows", "fill", "pages", "number", "page"]
def t_File___init (P : Program) (w : World) (K : PySem.W.Frag) (a : Ad) (E : XK) : TS :=
  (tSeq (tDrop (tCall (sp_need_shape P w K a) [] E (tCons (tVar 1) (tCons (tVar 2) (tCons (tVar 3) tNil))))) (tSeq (tDrop (tCall (sp_need_rows P w K a) [] E (tCons (tVar 4) tNil))) (tSeq (sFld K (tVar 0) (tVar 1) "room") (tSeq (sFld K (tVar 0) (tVar 3) "spare") (tSeq (sFld K (tVar 0) (tMake a.Store (sp_Store___init P w K a) [] E tNil) "store") (tSeq (sFld K (tVar 0) tDNewK "marks") (tSeq (sFld K (tVar 0) (tC (.int 0)) "count") (tSeq (tFor (iRng1 (tCons (tVar 3) tNil)) (gName 5) (tAsg (tC .non) (gSub (tFld K (tFld K (tVar 0) "store") "cells") (tTup (tCons (tC (.str "spill")) (tCons (tVar 5) tNil))) (rSetU P w)))) (tSeq (tDrop (tMeth a.File "lay" (sp_File_lay P w K a) [] E (tVar 0) (tCons (tC (.int 0)) (tCons (tCB (rListU K) (tCons (tVar 4) tNil)) (tCons (tVar 2) tNil))))) (sFld K (tFld K (tVar 0) "store") (tC (.int 0)) "many"))))))))))
abbrev n_File___init : List Str := ["self", "room", "fill", "spare", "rows", "number"]
end Sp

set_option Elab.async false
set_option linter.all false
set_option maxRecDepth 100000
set_option maxHeartbeats 4000000
/-! File.lay. -/
namespace Sp
open PySem L2 SM SR SD SE
/-! ### writes one behind the other -/
theorem noLs_of {α : Type} {f : α → D} (h : ∀ x, noL (f x) = true) : ∀ xs : List α, noL.noLs (xs.map f) = true
  | [] => rfl
  | x :: xs => by
    rw [List.map_cons, noL.noLs, h x, noLs_of h xs]
    rfl
theorem noLs_rows (rs : List Row) : noL.noLs (rs.map dRow) = true := noLs_of (fun r => rfl) rs
theorem noLs_ints (ns : List Int) : noL.noLs (ns.map PyData.int) = true := noLs_of (fun r => rfl) ns
theorem wrs_one (S : SS) (k : MKey) (d : D) : wrs S [(k, d)] = wr S k d := by
  simp only [wrs]
  cases h : wr S k d with
  | mk s b => cases b <;> simp
theorem wrs_step {S : SS} {W : List (MKey × D)} {n : Nat} {k : MKey} {d : D} (hn : (wrs S (W.take n)).2 = false) (h : W[n]? = some (k, d)) : wrs S (W.take (n + 1)) = wr (wrs S (W.take n)).1 k d := by
  rw [List.take_add_one, h, wrs_app, hn]
  simp only [Option.toList_some, wrs_one]
  rfl
theorem wrs_stop {S : SS} {W : List (MKey × D)} {n : Nat} (h : (wrs S (W.take n)).2 = true) : wrs S W = wrs S (W.take n) := by
  conv => lhs; rw [← List.take_append_drop n W]
  rw [wrs_app, if_pos h]
theorem putC_len (cs : List (MKey × D)) (k : MKey) (d : D) : (putC cs k d).length ≤ cs.length + 1 := by
  unfold putC
  split <;> simp
theorem wr_len (S : SS) (k : MKey) (d : D) : (wr S k d).1.cells.length ≤ S.cells.length + 1 := by
  unfold wr
  split
  · simp
  · split
    · simp
    · exact putC_len _ _ _
theorem wrs_len (S : SS) : ∀ W : List (MKey × D), (wrs S W).1.cells.length ≤ S.cells.length + W.length
  | [] => by simp [wrs]
  | (k, d) :: W => by
    simp only [wrs]
    have h1 := wr_len S k d
    split
    · simp only [List.length_cons]
      omega
    · have := wrs_len (wr S k d).1 W
      simp only [List.length_cons]
      omega
theorem putC_mem {cs : List (MKey × D)} {k x : MKey} {d : D} (h : (∃ p ∈ cs, p.1 = x) ∨ x = k) : ∃ p ∈ putC cs k d, p.1 = x := by
  unfold putC
  split
  · rename_i hs
    obtain ⟨p, hp, e⟩ : ∃ p ∈ cs, p.1 = x := by
      rcases h with h | h
      · exact h
      · obtain ⟨p, hp, e⟩ := List.any_eq_true.mp hs
        exact ⟨p, hp, (of_decide_eq_true e).trans h.symm⟩
    refine ⟨_, List.mem_map.mpr ⟨p, hp, rfl⟩, ?_⟩
    split
    · exact e
    · exact e
  · rcases h with ⟨p, hp, e⟩ | h
    · exact ⟨p, List.mem_append_left _ hp, e⟩
    · exact ⟨(k, d), List.mem_append_right _ (by simp), h.symm⟩
theorem wr_mem {S : SS} {k x : MKey} {d : D} (hn : (wr S k d).2 = false) (h : (∃ p ∈ S.cells, p.1 = x) ∨ x = k) : ∃ p ∈ (wr S k d).1.cells, p.1 = x := by
  unfold wr at *
  split at hn
  · cases hn
  · rename_i h1
    split at hn
    · cases hn
    · rename_i h2
      rw [if_neg h1, if_neg h2]
      exact putC_mem h
theorem wrs_mem {x : MKey} : ∀ {W : List (MKey × D)} {S : SS}, (wrs S W).2 = false → ((∃ p ∈ S.cells, p.1 = x) ∨ ∃ e ∈ W, e.1 = x) → ∃ p ∈ (wrs S W).1.cells, p.1 = x
  | [], S, _, h => by
    rcases h with h | ⟨e, he, _⟩
    · exact h
    · cases he
  | (k, d) :: W, S, hn, h => by
    simp only [wrs] at hn ⊢
    split at hn
    · cases hn
    · rename_i h1
      rw [if_neg h1]
      refine wrs_mem hn ?_
      rcases h with h | ⟨e, he, hx⟩
      · exact .inl (wr_mem (by simpa using h1) (.inl h))
      · rcases List.mem_cons.mp he with rfl | he
        · exact .inl (wr_mem (by simpa using h1) (.inr hx.symm))
        · exact .inr ⟨e, he, hx⟩
theorem cut_dropLast (ds : List D) : cut ds none (some (-1)) = ds.dropLast := by
  unfold cut HT.sIx
  simp only
  rw [if_pos (by decide), List.dropLast_eq_take, List.drop_zero]
  congr 1
  omega
theorem parts_ne {n : Nat} {rs p : List Row} (hn : 0 < n) (h : rs ≠ []) (hp : p ∈ partsOf n rs) : p ≠ [] := by
  unfold partsOf at hp
  rw [if_neg h, parts_eq hn _ _ (Nat.le_refl _)] at hp
  obtain ⟨j, hj, rfl⟩ := List.mem_map.mp hp
  have hl : 0 < rs.length := List.length_pos_iff.mpr h
  have hj : j < nParts rs.length n := by simpa using hj
  unfold nParts at hj
  rw [if_neg (by omega)] at hj
  have h2 : j ≤ (rs.length - 1) / n := by omega
  have h3 : j * n ≤ rs.length - 1 := (Nat.le_div_iff_mul_le hn).mp h2
  intro z
  have := congrArg List.length z
  simp at this
  omega
theorem parts_len {n : Nat} {rs : List Row} (hn : 0 < n) : (partsOf n rs).length ≤ rs.length + 1 ∧ 1 ≤ (partsOf n rs).length := by
  unfold partsOf
  split
  · simp
  · rename_i h
    rw [parts_eq hn _ _ (Nat.le_refl _)]
    have hl : 0 < rs.length := List.length_pos_iff.mpr h
    have := Nat.div_le_self (rs.length - 1) n
    simp only [List.length_map, List.length_range]
    unfold nParts
    rw [if_neg (by omega)]
    generalize (rs.length - 1) / n = q at this
    omega
section
variable {P : Program} {w : World} {K : PySem.W.Frag} {a : Ad}
theorem keyD_page (w n : Nat) : keyD (.tuple [.str "page", .int (w : Nat), .int (n : Nat)]) = some (kPage w n) := rfl
theorem pure_File_lay (kc : Kc K a) (vs : List V) (H : Hp) (Q : VK) (E : XK) (h : sp_File_lay P w K a vs H Q E) : t_File_lay P w K a E { nx := fun _ H' => Q .non H', rt := Q } (L2.start n_File_lay vs) H := by
  obtain ⟨M, F, R, us, ds, rfl, lv, raw, r, hr⟩ := h
  match ds, r, hr with
  | [.int which, .list ds, .int fill], r, hr =>
    simp only [f_lay] at hr
    split at hr
    · rename_i hc
      obtain ⟨h1, h2, h3, h4, h5, h6⟩ := hc
      cases hrs : rowsD ds with
      | none => simp [hrs, WTo] at hr
      | some rs =>
        have := rowsD_map hrs
        subst this
        obtain ⟨n, rfl⟩ := Int.eq_ofNat_of_zero_le (show 0 ≤ fill by omega)
        obtain ⟨v, rfl⟩ := Int.eq_ofNat_of_zero_le h1
        rw [hrs] at hr
        replace hr : WTo P w a M H F Q E (some ({ R with st := (wrs R.st (layW v (partsOf n rs))).1 }, if (wrs R.st (layW v (partsOf n rs))).2 then .er a.Stopped else .ok .none)) := hr
        have hlen := parts_len (n := n) (rs := rs) (by omega)
        rw [List.length_map] at h5
        obtain ⟨ps, hps⟩ : ∃ ps, partsOf n rs = ps := ⟨_, rfl⟩
        rw [hps] at hr hlen
        have hpn : ∀ p ∈ ps.dropLast, p ≠ [] := fun p hp => by
          by_cases hz : rs = []
          · subst hz
            have : ps = [[]] := by rw [← hps]; rfl
            rw [this] at hp
            cases hp
          · exact parts_ne (n := n) (by omega) hz (by rw [hps]; exact (List.dropLast_sublist ps).subset hp)
        obtain ⟨W, hW⟩ : ∃ W, layW v ps = W := ⟨_, rfl⟩
        rw [hW] at hr
        have hWl : W.length = ps.length + 1 := by
          rw [← hW]
          simp [layW]
        have hWp : ∀ k (hk : k < ps.length), W[k]? = some (kPage v k, dPage (ps[k], none)) := fun k hk => by
          rw [← hW]
          unfold layW
          rw [List.getElem?_append_left (by simpa using hk)]
          simp [hk]
        have hWr : W[ps.length]? = some (kRoot, dRoot v (fencesOf ps)) := by
          rw [← hW]
          unfold layW
          rw [List.getElem?_append_right (by simp)]
          simp
        have hzl : ∀ k, (wrs R.st (W.take k)).1.cells.length ≤ 90000 := fun k => by
          have := wrs_len R.st (W.take k)
          have h7 : (W.take k).length ≤ W.length := by simp; omega
          omega
        refine fw_fin lv raw (env_startO raw.at0 r (by simp)) ?_ hr
        refine fw_seq (N1 := fun Γ Φ => Γ = [Sl.val (.ref F.f), Sl.dat (.int (v : Nat)), Sl.dat (.list (rs.map dRow)), Sl.dat (.int (n : Nat)), Sl.dat (.list (ps.map dRows)), Sl.no, Sl.no] ∧ Φ = ivR P w a F R) (fw_asg (ev_callP (f := f_parted) (ea_cons (ev_var rfl) (ea_cons (ev_var rfl) ea_nil)) ?_) ⟨rfl, rfl⟩) ?_
        · simp only [f_parted]
          rw [if_pos ⟨by omega, by omega, by simpa using h5⟩, rowsD_of]
          simp only [Option.map_some, Int.toNat_natCast, hps]
        · rintro Γ Φ ⟨rfl, rfl⟩
          refine fw_seq (N1 := fun Γ Φ => (∃ s5 s6, Γ = [Sl.val (.ref F.f), Sl.dat (.int (v : Nat)), Sl.dat (.list (rs.map dRow)), Sl.dat (.int (n : Nat)), Sl.dat (.list (ps.map dRows)), s5, s6]) ∧ Φ = ivR P w a F { R with st := (wrs R.st (W.take ps.length)).1 } ∧ (wrs R.st (W.take ps.length)).2 = false)
            (fw_for (ei_enum (ea_cons (ev_var rfl) ea_nil)) (fun k Γ Φ => (∃ s5 s6, Γ = [Sl.val (.ref F.f), Sl.dat (.int (v : Nat)), Sl.dat (.list (rs.map dRow)), Sl.dat (.int (n : Nat)), Sl.dat (.list (ps.map dRows)), s5, s6]) ∧ Φ = ivR P w a F { R with st := (wrs R.st (W.take k)).1 } ∧ (wrs R.st (W.take k)).2 = false) ⟨⟨_, _, rfl⟩, rfl, rfl⟩ (fun k d Γ1 Φ1 hk hI => ?_) fun Γ1 Φ1 hI => ?_) fun Γ1 Φ1 hI => ?_
          · obtain ⟨⟨s5, s6, rfl⟩, rfl, hns⟩ := hI
            have hkl : k < ps.length := by
              have := (List.getElem?_eq_some_iff.mp hk).1
              simpa [enumD] using this
            have hd : d = .tuple [.int (k : Nat), dRows ps[k]] := by
              simp only [enumD, List.getElem?_map, List.length_map, List.getElem?_range hkl, Option.map_some, Option.some.injEq] at hk
              rw [← hk]
              simp [hkl]
            subst hd
            refine ⟨_, tg_pair, ?_⟩
            have hst := wrs_step hns (hWp k hkl)
            refine fw_write (kd := .tuple [.str "page", .int (v : Nat), .int (k : Nat)]) (d := dPage (ps[k], none)) kc rfl (fun x hx => hx) (ea_cons (ev_tup (ea_cons (ev_str _) (ea_cons (ev_var rfl) (ea_cons (ev_var rfl) ea_nil))) (by simp)) (ea_cons (ev_tup (ea_cons (ev_var rfl) (ea_cons ev_non ea_nil)) (by simp)) ea_nil)) (by simp [noL, noL.noLs, noLs_rows]) rfl nofun (hzl k) (fun hb => ?_) fun hb L H' cc => ?_
            · refine ⟨⟨_, _, rfl⟩, ?_, ?_⟩
              · rw [hst]
              · rw [hst]
                exact hb
            · have hs : (wrs R.st (W.take (k + 1))).2 = true := by
                rw [hst]
                exact hb
              rw [wrs_stop hs, hst] at hr
              rw [hb, if_pos rfl] at hr
              exact wto_er hr cc
          · rw [show (enumD (ps.map dRows)).length = ps.length by simp [enumD]] at hI
            exact hI
          · obtain ⟨⟨s5, s6, rfl⟩, rfl, hns⟩ := hI
            have hst := wrs_step hns hWr
            have htk : W.take (ps.length + 1) = W := by rw [← hWl, List.take_length]
            rw [htk] at hst
            refine fw_write (kd := .str "root") (d := dRoot v (fencesOf ps)) (k := kRoot) kc rfl (fun x hx => hx) (ea_cons (ev_str _) (ea_cons (ev_tup (ea_cons (ev_var rfl) (ea_cons (ev_eq (ev_cb (ea_cons (ev_lcm (xs := ps.dropLast) (enc := dRows) (fun p => .int (match p.getLast? with | some r => r.1 | none => 0)) (ei_seqL (ev_eq (ev_slL (ev_var rfl) eo_none (eo_some (ev_neg (ev_int _)))) ?_)) ?_ fun p hp => ⟨_, tgw_name, ?_⟩) ea_nil) cb_tupL) ?_) ea_nil)) (by simp)) ea_nil)) (by simp [noL, noL.noLs, noLs_ints]) rfl (fun _ => ?_) (hzl _) (fun hb => ?_) fun hb L H' cc => ?_
            · rw [cut_dropLast, List.map_dropLast]
            · simp
              omega
            · have hne := hpn p hp
              cases hl : p.getLast? with
              | none => exact absurd (by simpa using hl) hne
              | some r0 => exact ev_op (ev_op (ev_var rfl) (ev_neg (ev_int _)) (od_ixT (atI_last hl))) (ev_int _) (od_ixT rfl)
            · show PyData.tuple (ps.dropLast.map _) = PyData.tuple ((ps.dropLast.map _).map PyData.int)
              rw [List.map_map]
              rfl
            · obtain ⟨p, hp, e⟩ := wrs_mem (x := kPage v 0) hns (.inr ⟨_, by
                have := hWp 0 (by omega)
                exact List.mem_of_getElem? (i := 0) (by rw [List.getElem?_take_of_lt (by omega)]; exact this), rfl⟩)
              exact ⟨p, hp, _, e⟩
            · refine ⟨_, rfl, ?_⟩
              rw [hst, hb]
              rfl
            · rw [hst, hb, if_pos rfl] at hr
              exact wto_er hr cc
    · exact hr.elim
end
end Sp

set_option Elab.async false
set_option linter.all false
set_option maxRecDepth 100000
set_option maxHeartbeats 4000000
/-! Cells; calls of writers; File.__init__. -/
namespace Sp
open PySem L2 SM SR SD SE
/-! ### cells -/
theorem cellAt_nil {k : MKey} : cellAt [] k = none := rfl
theorem cellAt_cons {p : MKey × D} {cs : List (MKey × D)} {k : MKey} : cellAt (p :: cs) k = if p.1 = k then some p.2 else cellAt cs k := by
  unfold cellAt
  rw [List.find?_cons]
  by_cases h : p.1 = k
  · rw [decide_eq_true h, if_pos h]
    rfl
  · rw [decide_eq_false h, if_neg h]
theorem cellAt_app {a b : List (MKey × D)} {k : MKey} : cellAt (a ++ b) k = (cellAt a k).orElse fun _ => cellAt b k := by
  induction a with
  | nil => rfl
  | cons p a ih =>
    rw [List.cons_append, cellAt_cons, cellAt_cons, ih]
    by_cases h : p.1 = k
    · rw [if_pos h, if_pos h]
      rfl
    · rw [if_neg h, if_neg h]
theorem cellAt_none {cs : List (MKey × D)} {k : MKey} (h : ∀ p ∈ cs, p.1 ≠ k) : cellAt cs k = none := by
  induction cs with
  | nil => rfl
  | cons p cs ih =>
    rw [cellAt_cons, if_neg (h p List.mem_cons_self)]
    exact ih fun q hq => h q (List.mem_cons_of_mem _ hq)
theorem cellAt_putC {cs : List (MKey × D)} {k j : MKey} {d : D} : cellAt (putC cs k d) j = if k = j then some d else cellAt cs j := by
  unfold putC
  split
  · rename_i h
    induction cs with
    | nil => simp at h
    | cons p r ih =>
      rw [List.map_cons, cellAt_cons, cellAt_cons]
      by_cases e : p.1 = k
      · rw [if_pos e]
        by_cases ej : k = j
        · rw [if_pos (show (p.1, d).1 = j from e.trans ej), if_pos ej]
        · rw [if_neg (show ¬ (p.1, d).1 = j from fun z => ej (e.symm.trans z)), if_neg ej, if_neg fun z => ej (e.symm.trans z)]
          by_cases hr : (r.any fun c => decide (c.1 = k)) = true
          · rw [ih hr, if_neg ej]
          · have : r.map (fun c => if c.1 = k then (c.1, d) else c) = r := by
              refine (List.map_congr_left fun x hx => ?_).trans (List.map_id r)
              rw [if_neg fun z => hr (List.any_eq_true.mpr ⟨x, hx, decide_eq_true z⟩)]
              rfl
            rw [this]
      · rw [if_neg e]
        have hr : (r.any fun c => decide (c.1 = k)) = true := by
          rw [List.any_cons, decide_eq_false e, Bool.false_or] at h
          exact h
        by_cases ej : p.1 = j
        · rw [if_pos ej, if_neg fun z => e (ej.trans z.symm), if_pos ej]
        · rw [if_neg ej, if_neg ej]
          exact ih hr
  · rename_i h
    rw [cellAt_app]
    by_cases ej : k = j
    · subst ej
      rw [cellAt_none fun p hp z => h (List.any_eq_true.mpr ⟨p, hp, decide_eq_true z⟩), if_pos rfl, cellAt_cons, if_pos rfl]
      rfl
    · rw [if_neg ej, cellAt_cons, if_neg ej, cellAt_nil]
      cases cellAt cs j <;> rfl
theorem putC_new {cs : List (MKey × D)} {k : MKey} {d : D} (h : ∀ p ∈ cs, p.1 ≠ k) : putC cs k d = cs ++ [(k, d)] := by
  unfold putC
  rw [if_neg]
  intro z
  obtain ⟨p, hp, e⟩ := List.any_eq_true.mp z
  exact h p hp (of_decide_eq_true e)
theorem putC_keys {cs : List (MKey × D)} {k : MKey} {d : D} {p : MKey × D} (h : p ∈ putC cs k d) : (∃ q ∈ cs, q.1 = p.1) ∨ p.1 = k := by
  unfold putC at h
  split at h
  · obtain ⟨q, hq, e⟩ := List.mem_map.mp h
    split at e
    · rename_i hk
      subst e
      exact .inr hk
    · subst e
      exact .inl ⟨q, hq, rfl⟩
  · rcases List.mem_append.mp h with h | h
    · exact .inl ⟨p, h, rfl⟩
    · rw [List.mem_singleton.mp h]
      exact .inr rfl
theorem putC_nodup {cs : List (MKey × D)} {k : MKey} {d : D} (h : (cs.map (·.1)).Nodup) : ((putC cs k d).map (·.1)).Nodup := by
  unfold putC
  split
  · rw [List.map_map]
    have e : ((fun x => x.1) ∘ fun c : MKey × D => if c.1 = k then (c.1, d) else c) = fun c => c.1 := by
      funext c
      show (if c.1 = k then (c.1, d) else c).1 = c.1
      split <;> rfl
    rw [e]
    exact h
  · rename_i hs
    rw [List.map_append, List.nodup_append]
    refine ⟨h, by simp, fun x hx y hy => ?_⟩
    obtain ⟨p, hp, rfl⟩ := List.mem_map.mp hx
    have hy : y = k := by simpa using hy
    subst hy
    exact fun z => hs (List.any_eq_true.mpr ⟨p, hp, decide_eq_true z⟩)
def putsC (cs : List (MKey × D)) (W : List (MKey × D)) : List (MKey × D) := W.foldl (fun cs e => putC cs e.1 e.2) cs
theorem wrs_free {W : List (MKey × D)} : ∀ {S : SS}, S.down = false → S.left = none → wrs S W = ({ S with cells := putsC S.cells W, many := S.many + W.length }, false) := by
  induction W with
  | nil =>
    intro S h1 h2
    cases S
    simp [wrs, putsC]
  | cons e W ih =>
    intro S h1 h2
    obtain ⟨k, d⟩ := e
    have hw : wr S k d = ({ S with cells := putC S.cells k d, many := S.many + 1, left := none }, false) := by
      simp [wr, h1, h2]
    simp only [wrs, hw]
    rw [if_neg (by decide), ih (S := { S with cells := putC S.cells k d, many := S.many + 1, left := none }) h1 rfl]
    simp only [putsC, List.foldl_cons, List.length_cons, h2]
    congr 2
    omega
theorem putsC_out {j : MKey} : ∀ {W cs : List (MKey × D)}, (∀ e ∈ W, e.1 ≠ j) → cellAt (putsC cs W) j = cellAt cs j
  | [], cs, _ => rfl
  | e :: W, cs, h => by
    show cellAt (putsC (putC cs e.1 e.2) W) j = _
    rw [putsC_out fun x hx => h x (List.mem_cons_of_mem _ hx), cellAt_putC, if_neg (h e List.mem_cons_self)]
theorem putsC_in {e : MKey × D} : ∀ {W cs : List (MKey × D)}, (W.map (·.1)).Nodup → e ∈ W → cellAt (putsC cs W) e.1 = some e.2
  | x :: W, cs, nd, h => by
    show cellAt (putsC (putC cs x.1 x.2) W) e.1 = _
    rw [List.map_cons, List.nodup_cons] at nd
    rcases List.mem_cons.mp h with rfl | h
    · rw [putsC_out fun y hy z => nd.1 (List.mem_map.mpr ⟨y, hy, z⟩), cellAt_putC, if_pos rfl]
    · exact putsC_in nd.2 h
theorem putsC_keys {p : MKey × D} : ∀ {W cs : List (MKey × D)}, p ∈ putsC cs W → (∃ q ∈ cs, q.1 = p.1) ∨ ∃ e ∈ W, e.1 = p.1
  | [], cs, h => .inl ⟨p, h, rfl⟩
  | e :: W, cs, h => by
    rcases putsC_keys (cs := putC cs e.1 e.2) (W := W) h with ⟨q, hq, e1⟩ | ⟨x, hx, e1⟩
    · rcases putC_keys hq with ⟨r, hr, e2⟩ | e2
      · exact .inl ⟨r, hr, e2.trans e1⟩
      · exact .inr ⟨e, List.mem_cons_self, e2.symm.trans e1⟩
    · exact .inr ⟨x, List.mem_cons_of_mem _ hx, e1⟩
theorem putsC_noL : ∀ {W cs : List (MKey × D)}, (∀ p ∈ cs, noL p.2 = true) → (∀ e ∈ W, noL e.2 = true) → ∀ p ∈ putsC cs W, noL p.2 = true
  | [], cs, h, _ => h
  | e :: W, cs, h, hw => putsC_noL (cs := putC cs e.1 e.2) (W := W) (putC_noL h (hw e List.mem_cons_self)) fun x hx => hw x (List.mem_cons_of_mem _ hx)
theorem layW_noL (v : Nat) (ps : List (List Row)) : ∀ e ∈ layW v ps, noL e.2 = true := fun e he => by
  unfold layW at he
  rcases List.mem_append.mp he with he | he
  · obtain ⟨k, _, rfl⟩ := List.mem_map.mp he
    simp [noL, noL.noLs, noLs_rows]
  · rw [List.mem_singleton.mp he]
    simp [noL, noL.noLs, noLs_ints]
theorem putsC_nodup : ∀ {W cs : List (MKey × D)}, (cs.map (·.1)).Nodup → ((putsC cs W).map (·.1)).Nodup
  | [], cs, h => h
  | e :: W, cs, h => putsC_nodup (cs := putC cs e.1 e.2) (W := W) (putC_nodup h)
theorem kPage_inj {v n m : Nat} (h : kPage v n = kPage v m) : n = m := by
  simp [kPage] at h
  omega
theorem kSpill_inj {n m : Nat} (h : kSpill n = kSpill m) : n = m := by
  simp [kSpill] at h
  omega
theorem layW_nodup (v : Nat) (ps : List (List Row)) : ((layW v ps).map (·.1)).Nodup := by
  unfold layW
  rw [List.map_append, List.map_map, List.nodup_append]
  refine ⟨?_, by simp, fun x hx y hy => ?_⟩
  · exact List.Pairwise.map _ (fun a b h z => h (kPage_inj (v := v) z)) List.nodup_range
  · obtain ⟨n, _, rfl⟩ := List.mem_map.mp hx
    have hy : y = kRoot := by simpa using hy
    subst hy
    exact nofun
/-! ### calls of writers -/
/-- an expression that changes what is held -/
def EvW (X : Wd) (Φ : Iv) (te : TE) (Γ : Gm) (E : XK) (Φ' : Iv) (r : Rs) : Prop := ∀ L H σ, Cur X Φ L H → EnvD X Φ L H σ Γ → ∀ Q : VK,
  (∀ d, r = .ok d → ∀ v H', Cur X Φ' L H' → SameS (hd X Φ L H) (hd X Φ' L H') → EnvD X Φ' L H' σ Γ → Dt (hd X Φ' L H') v d → Q v H') → (∀ H', Cur X Φ' L H' → ErTo E H' r) → te σ H Q
section
variable {X : Wd} {Φ Φ' : Iv} {Γ : Gm} {N : Gm → Iv → Prop} {Rt : Ro → Iv → Prop} {E : XK} {ta : TA} {te : TE} {r : Rs} {ds : List D} {m : Str}
theorem fw_dropW (h : EvW X Φ te Γ E Φ' r) (hn : ∀ d, r = .ok d → N Γ Φ') (hx : ∀ L H', Cur X Φ' L H' → ErTo E H' r) : FW X (tDrop te) Γ Φ N Rt := fun L H σ D c g k _ =>
  h L H σ c g _ (fun d e v H' c' s' g' _ => k L H' σ Γ Φ' c' s' g' (hn d e)) fun H' c' => hx L H' c'
theorem fw_asgW {i : Nat} (h : EvW X Φ te Γ E Φ' r) (hn : ∀ d, r = .ok d → N (Γ.set i (.dat d)) Φ') (hx : ∀ L H', Cur X Φ' L H' → ErTo E H' r) : FW X (tAsg te (gName i)) Γ Φ N Rt := fun L H σ D c g k _ =>
  h L H σ c g _ (fun d e v H' c' s' g' rd => k L H' _ _ Φ' c' s' (g'.dat rd) (hn d e)) fun H' c' => hx L H' c'
theorem fw_retW (h : EvW X Φ te Γ E Φ' r) (hr : ∀ d, r = .ok d → Rt (.dat d) Φ') (hx : ∀ L H', Cur X Φ' L H' → ErTo E H' r) : FW X (tRet te) Γ Φ N Rt := fun L H σ D c g _ k =>
  h L H σ c g _ (fun d e v H' c' s' g' rd => k v (.dat d) H' Φ' c'.but c'.end_ (rd.mono (Same.s c'.sub)) (hr d e)) fun H' c' => hx L H' c'
variable {P : Program} {w : World} {K : PySem.W.Frag} {a : Ad} {F : FA} {R R' : RS}
/-- self.m(..), a writer -/
theorem ew_self {f : RS → List D → Option (RS × Rs)} (hv : Γ[0]? = some (.val (.ref F.f))) (hA : ∀ x ∈ F.foot, x ∈ X.A) (ha : EvA X (ivR P w a F R) ta Γ ds) (e : f R ds = some (R', r)) (hm : (fF R.room R.spare F.s F.m R.count).lookup m = none := by rfl) :
    EvW X (ivR P w a F R) (tMeth a.File m (SpW P w a f) [] E (tVar 0) ta) Γ E (ivR P w a F R') r := fun L H σ c g Q q x => by
  obtain ⟨dx, h1, h2, h3, _⟩ := id c.at_
  refine ⟨_, g.ok 0 _ hv, F.f, dx, _, rfl, h1, hm, ha L H σ c g _ fun vs H2 e2 rr => ?_⟩
  have c2 := c.up e2
  have g2 := g.up e2
  have raw : RawAt P w a (hdn X (ivR P w a F R) L) H2 F R := c2.at_
  have step : ∀ H', But F.foot H2 H' → RawAt P w a (hdn X (ivR P w a F R) L) H' F R' → Cur X (ivR P w a F R') L H' ∧ SameS (hd X (ivR P w a F R) L H) (hd X (ivR P w a F R') L H') ∧ EnvD X (ivR P w a F R') L H' σ Γ := fun H' b hr => by
    obtain ⟨cc, ss⟩ := Cur.chg (Φ' := ivR P w a F R') c2 b hA raw.noseq rfl hr
    exact ⟨cc, (Same.s (Same.hid e2)).trans ss, EnvD.chg c2 g2 b (fun x hx => hx) rfl ss⟩
  refine ⟨_, F, R, vs, ds, by rw [List.append_nil], c2.lv, raw, rr, ?_⟩
  rw [e]
  cases r with
  | ok d =>
    intro v H' b hr rd
    obtain ⟨cc, ss, gg⟩ := step H' b hr
    exact q d rfl v H' cc ss gg rd
  | er z => exact fun H' b hr => x H' (step H' b hr).1
  | ef z n i => exact fun y H' b hr hy => x H' (step H' b hr).1 y hy
end
end Sp

set_option Elab.async false
set_option linter.all false
set_option maxRecDepth 100000
set_option maxHeartbeats 4000000
/-! File.__init__. -/
namespace Sp
open PySem L2 SM SR SD SE
theorem shape_nats {rm fl sd : D} (h : shapeOk rm fl sd = true) : ∃ room fill spare : Nat, rm = dInt room ∧ fl = dInt fill ∧ sd = dInt spare ∧ 1 ≤ fill ∧ fill ≤ room ∧ room ≤ 4 ∧ spare ≤ 20 := by
  unfold shapeOk at h
  split at h
  · rename_i i
    simp only [Bool.and_eq_true] at h
    obtain ⟨⟨h1, h2⟩, h3⟩ := h
    obtain ⟨r, e1, a1, a2⟩ := isNum_int h1
    obtain ⟨f, rfl, b1, b2⟩ := isNum_int h2
    obtain ⟨s, rfl, c1, c2⟩ := isNum_int h3
    cases e1
    refine ⟨i.toNat, f.toNat, s.toNat, ?_, ?_, ?_, by omega, by omega, by omega, by omega⟩
    · show PyData.int i = PyData.int (i.toNat : Nat)
      rw [Int.toNat_of_nonneg (by omega)]
    · show PyData.int f = PyData.int (f.toNat : Nat)
      rw [Int.toNat_of_nonneg (by omega)]
    · show PyData.int s = PyData.int (s.toNat : Nat)
      rw [Int.toNat_of_nonneg (by omega)]
  · cases h
theorem rows_of_ok {ds : List D} (h : badRow ds = none) : ∃ rs : List Row, ds = rs.map dRow ∧ rs.length ≤ 40 := by
  have hall : ∀ i, i < ds.length → badRowAt ds i = false := fun i hi => by
    have := List.find?_eq_none.mp h i (by simpa using hi)
    simpa using this
  have hl : ds.length ≤ 40 := by
    rcases Nat.lt_or_ge 40 ds.length with h1 | h1
    · have := hall 40 h1
      simp [badRowAt] at this
    · exact h1
  have key : ∀ (es : List D), (∀ d ∈ es, isRow d = true) → ∃ rs : List Row, es = rs.map dRow := by
    intro es
    induction es with
    | nil => exact fun _ => ⟨[], rfl⟩
    | cons e es ih =>
      intro he
      obtain ⟨rs, rfl⟩ := ih fun d hd => he d (List.mem_cons_of_mem _ hd)
      obtain ⟨k, v, rfl⟩ := row_form (he e List.mem_cons_self)
      exact ⟨(k, v) :: rs, rfl⟩
  obtain ⟨rs, rfl⟩ := key ds fun d hd => by
    obtain ⟨i, hi, e⟩ := List.getElem_of_mem hd
    have := hall i hi
    unfold badRowAt at this
    simp only [Bool.or_eq_false_iff, Bool.not_eq_false'] at this
    have h2 := this.1.2
    rwa [List.getD_eq_getElem?_getD, List.getElem?_eq_getElem hi, Option.getD_some, e] at h2
  exact ⟨rs, rfl, by simpa using hl⟩
abbrev spCells (n : Nat) : List (MKey × D) := (List.range n).map fun k => (kSpill k, PyData.none)
theorem rep_new {room fill spare : Nat} {rs : List Row} (hf : 1 ≤ fill) (hs : spare ≤ 20) (hr : rs.length ≤ 1000) : Rep (putsC (spCells spare) (layW 0 (partsOf fill rs))) (mkFS room fill spare rs) := by
  have hlen := parts_len (n := fill) (rs := rs) (by omega)
  obtain ⟨ps, hps⟩ : ∃ ps, partsOf fill rs = ps := ⟨_, rfl⟩
  simp only [mkFS]
  rw [hps] at hlen ⊢
  refine ⟨?_, fun n pg h => ?_, fun n cl h => ?_, ?_, by simp, hs, by show 0 < 2; decide, fun p hp => ?_, putsC_noL (fun p hp => ?_) (layW_noL 0 ps), ?_⟩
  · exact putsC_in (e := (kRoot, dRoot 0 (fencesOf ps))) (layW_nodup 0 ps) (by simp [layW])
  · have hn : n < ps.length := by
      have := (List.getElem?_eq_some_iff.mp h).1
      simpa using this
    have hpg : pg = (ps[n], none) := by
      simp only [List.getElem?_map, List.getElem?_eq_getElem hn, Option.map_some, Option.some.injEq] at h
      exact h.symm
    subst hpg
    refine putsC_in (e := (kPage 0 n, dPage (ps[n], none))) (layW_nodup 0 ps) ?_
    unfold layW
    refine List.mem_append_left _ (List.mem_map.mpr ⟨n, by simpa using hn, ?_⟩)
    simp [hn]
  · have hn : n < spare := by
      have := (List.getElem?_eq_some_iff.mp h).1
      simpa using this
    have hcl : cl = none := by
      simp only [List.getElem?_replicate, if_pos hn, Option.some.injEq] at h
      exact h.symm
    subst hcl
    rw [putsC_out]
    · have key : ∀ m, n < m → cellAt (spCells m) (kSpill n) = some PyData.none := by
        intro m
        induction m with
        | zero => intro h; omega
        | succ m ih =>
          intro hm
          unfold spCells
          rw [List.range_succ, List.map_append, cellAt_app]
          by_cases e : n = m
          · subst e
            rw [cellAt_none]
            · simp [cellAt_cons]
            · intro p hp z
              obtain ⟨k, hk, rfl⟩ := List.mem_map.mp hp
              have := kSpill_inj z
              have hk : k < n := by simpa using hk
              omega
          · have := ih (by omega)
            unfold spCells at this
            rw [this]
            rfl
      exact key spare hn
    · intro e he
      unfold layW at he
      rcases List.mem_append.mp he with he | he
      · obtain ⟨k, _, rfl⟩ := List.mem_map.mp he
        exact nofun
      · rw [List.mem_singleton.mp he]
        exact nofun
  · simp [fencesOf]
    omega
  · rcases putsC_keys hp with ⟨q, hq, e⟩ | ⟨q, hq, e⟩
    · obtain ⟨k, hk, rfl⟩ := List.mem_map.mp hq
      have hk : k < spare := by simpa using hk
      exact .inr (.inr ⟨k, by omega, e.symm⟩)
    · unfold layW at hq
      rcases List.mem_append.mp hq with hq | hq
      · obtain ⟨k, hk, rfl⟩ := List.mem_map.mp hq
        have hk : k < ps.length := by simpa using hk
        exact .inr (.inl ⟨0, k, by decide, by omega, e.symm⟩)
      · rw [List.mem_singleton.mp hq] at e
        exact .inl e.symm
  · obtain ⟨k, _, rfl⟩ := List.mem_map.mp hp
    rfl
  · refine putsC_nodup ?_
    unfold spCells
    rw [List.map_map]
    exact List.Pairwise.map _ (fun a b h z => h (kSpill_inj z)) List.nodup_range
section
variable {P : Program} {w : World} {K : PySem.W.Frag} {a : Ad}
theorem pure_File___init (kc : Kc K a) (vs : List V) (H : Hp) (Q : VK) (E : XK) (h : sp_File___init P w K a vs H Q E) : t_File___init P w K a E { nx := fun _ H' => Q .non H', rt := Q } (L2.start n_File___init vs) H := by
  obtain ⟨M, f, dx, us, rm, fl, sd, rws, rfl, lv, hf, r, q1, q2, q3⟩ := h
  have c0 : Cur (wd M H) Iv.nil [] H := At0.nil.cur lv
  have g0 := env_startO (A := []) (N := n_File___init) (o := f) At0.nil r (by simp)
  have hsame : ∀ {L : Lo} {H' : Hp}, Cur (wd M H) Iv.nil L H' → Same H H' := fun c => c.but.same
  cases hsh : shapeOk rm fl sd with
  | false =>
    refine fw_seq (N1 := fun _ _ => False) (N := fun _ _ => False) (R := fun _ _ => False) (fw_dropR (E := E) (r := .er a.BadFile) (er_callP (f := f_need_shape a) (ea_cons (ev_var rfl) (ea_cons (ev_var rfl) (ea_cons (ev_var rfl) ea_nil))) (by simp [f_need_shape, hsh])) nofun fun L H' c => q1 hsh H' (hsame c)) (fun _ _ z => z.elim) [] H _ _ c0 g0 (fun _ _ _ _ _ _ _ _ z => z.elim) fun _ _ _ _ _ _ _ z => z.elim
  | true =>
    obtain ⟨room, fill, spare, rfl, rfl, rfl, s1, s2, s3, s4⟩ := shape_nats hsh
    refine fw_dropR (E := E) (r := .ok .none) (N := fun Γ Φ => Γ = [Sl.val (.ref f), Sl.dat (dInt room), Sl.dat (dInt fill), Sl.dat (dInt spare), Sl.dat (.list rws), Sl.no] ∧ Φ = Iv.nil) (R := fun _ _ => False) (er_callP (f := f_need_shape a) (ea_cons (ev_var rfl) (ea_cons (ev_var rfl) (ea_cons (ev_var rfl) ea_nil))) (by simp [f_need_shape, hsh])) (fun _ _ => ⟨rfl, rfl⟩) (fun _ _ _ => trivial) [] H _ _ c0 g0 ?_ fun _ _ _ _ _ _ _ z => z.elim
    rintro L1 H1 σ1 Γ1 Φ1 c1 ss1 g1 ⟨rfl, rfl⟩
    cases hbr : badRow rws with
    | some i =>
      refine fw_seq (N1 := fun _ _ => False) (N := fun _ _ => False) (R := fun _ _ => False) (fw_dropR (E := E) (r := .ef a.BadRows "number" i) (er_callP (f := f_need_rows a) (ea_cons (ev_var rfl) ea_nil) (by simp [f_need_rows, hbr])) nofun fun L H' c b hb => q2 hsh i hbr b H' (hsame c) hb) (fun _ _ z => z.elim) L1 H1 σ1 _ c1 g1 (fun _ _ _ _ _ _ _ _ z => z.elim) fun _ _ _ _ _ _ _ z => z.elim
    | none =>
      obtain ⟨rs, rfl, hrl⟩ := rows_of_ok hbr
      refine fw_dropR (E := E) (r := .ok .none) (N := fun Γ Φ => Γ = [Sl.val (.ref f), Sl.dat (dInt room), Sl.dat (dInt fill), Sl.dat (dInt spare), Sl.dat (.list (rs.map dRow)), Sl.no] ∧ Φ = Iv.nil) (R := fun _ _ => False) (er_callP (f := f_need_rows a) (ea_cons (ev_var rfl) ea_nil) (by simp [f_need_rows, hbr])) (fun _ _ => ⟨rfl, rfl⟩) (fun _ _ _ => trivial) L1 H1 σ1 _ c1 g1 ?_ fun _ _ _ _ _ _ _ z => z.elim
      rintro L2 H2 σ2 Γ2 Φ2 c2 ss2 g2 ⟨rfl, rfl⟩
      have e2 : Same H H2 := hsame c2
      have g0 : σ2[0]? = some (some (.ref f)) := g2.ok 0 _ rfl
      obtain ⟨v1, g1, r1⟩ := g2.ok 1 _ rfl
      obtain ⟨v2, g2', r2⟩ := g2.ok 2 _ rfl
      obtain ⟨v3, g3, r3⟩ := g2.ok 3 _ rfl
      obtain ⟨v4, g4, r4⟩ := g2.ok 4 _ rfl
      have hlen2 := g2.len
      cases r1
      cases r2
      cases r3
      have r4 : Dt (hid M H2) v4 (.list (rs.map dRow)) := r4.mono (Same.s (hid_sub fun x hx => Or.inr (Or.inl hx)))
      have lv2 : Lv M H2 := lv.mono e2
      have hf2 := e2 _ _ hf
      clear c0 c1 c2 g2 r
      -- room, spare
      refine ⟨_, g1, _, g0, f, a.File, dx, _, rfl, hf2, kc.fc, kc.room, by show 0 < 1000; decide, _, g3, _, g0, f, a.File, dx, _, rfl, upd_same, kc.fc, kc.spare, by show 1 < 1000; decide, fun s dy n1 n2 n3 => ?_⟩
      have hsf : s ≠ f := fun z => by
        rw [z, upd_same] at n1
        cases n1
      have hyf : dy ≠ f := fun z => by
        rw [z, upd_same] at n2
        cases n2
      have n1' : H2 s = none := by
        rw [upd_ne hsf, upd_ne hsf] at n1
        exact n1
      have n2' : H2 dy = none := by
        rw [upd_ne hyf, upd_ne hyf] at n2
        exact n2
      obtain ⟨Ha, hHa⟩ : ∃ Ha, (upd (upd H2 f (.ins a.File dx (putF "room" (.int (room : Nat)) []))) f (.ins a.File dx (putF "spare" (.int (spare : Nat)) (putF "room" (.int (room : Nat)) [])))) = Ha := ⟨_, rfl⟩
      have hHf : Ha f = some (.ins a.File dx [("room", .int (room : Nat)), ("spare", .int (spare : Nat))]) := by
        rw [← hHa, upd_same]
        rfl
      have ba : But [f] H2 Ha := by
        rw [← hHa]
        exact (But.upd (by simp)).trans (But.upd (by simp))
      have n1a : Ha s = none := by
        rw [← hHa]
        exact n1
      have n2a : Ha dy = none := by
        rw [← hHa]
        exact n2
      show sp_Store___init P w K a _ (upd (upd (upd (upd H2 f (.ins a.File dx (putF "room" (.int (room : Nat)) []))) f (.ins a.File dx (putF "spare" (.int (spare : Nat)) (putF "room" (.int (room : Nat)) [])))) dy (.own s)) s (.ins a.Store dy [])) _ _
      rw [hHa]
      obtain ⟨Hb, hHb⟩ : ∃ Hb, upd (upd Ha dy (.own s)) s (.ins a.Store dy []) = Hb := ⟨_, rfl⟩
      rw [hHb]
      have sab : Same Ha Hb := by
        rw [← hHb]
        intro b o e
        rw [upd_ne (ne_of_none e n1a), upd_ne (ne_of_none e n2a)]
        exact e
      have hbf : Hb f = _ := sab _ _ hHf
      refine ⟨s, dy, rfl, by rw [← hHb, upd_same], fun c H3 nc b3 hst => ⟨rfl, _, g0, f, a.File, dx, _, rfl, b3.keep _ _ (by simp [Ne.symm hsf]) hbf, kc.fc, kc.store, by show 2 < 1000; decide, fun m nm => ⟨_, g0, f, a.File, dx, putF "store" (.ref s) [("room", .int (room : Nat)), ("spare", .int (spare : Nat))], rfl, ?_, kc.fc, kc.marks, by show 3 < 1000; decide, _, g0, f, a.File, dx, _, rfl, upd_same, kc.fc, kc.count, by show 4 < 1000; decide, ?_⟩⟩⟩
      · have hmf : f ≠ m := fun z => by
          rw [← z, upd_same] at nm
          cases nm
        rw [upd_ne hmf, upd_same]
      · have hmf : m ≠ f := fun z => by
          rw [z, upd_same] at nm
          cases nm
        have nm3 : H3 m = none := by
          rw [upd_ne hmf] at nm
          exact nm
        have hcf : c ≠ f := fun z => by
          rw [z, hbf] at nc
          cases nc
        have hcs : c ≠ s := fun z => by
          rw [z, ← hHb, upd_same] at nc
          cases nc
        have bb : But [f] H2 Hb := ba.trans (But.of sab)
        have lvb : Lv M Hb := bb.lv lv2
        obtain ⟨ex, kvs, st1, st2, st3⟩ := hst M lvb
        have hms : m ≠ s := fun z => by
          rw [z, st1] at nm3
          cases nm3
        obtain ⟨xs, hx1, hx2, hx3⟩ := id st2
        have hmc : m ≠ c := fun z => by
          rw [z, hx1] at nm3
          cases nm3
        -- the heap with all fields
        obtain ⟨Hk, hHk⟩ : ∃ Hk, upd (upd (upd (upd H3 f (.ins a.File dx (putF "store" (.ref s) [("room", .int (room : Nat)), ("spare", .int (spare : Nat))]))) m (.dK [])) f (.ins a.File dx (putF "marks" (.ref m) (putF "store" (.ref s) [("room", .int (room : Nat)), ("spare", .int (spare : Nat))])))) f (.ins a.File dx (putF "count" (.int 0) (putF "marks" (.ref m) (putF "store" (.ref s) [("room", .int (room : Nat)), ("spare", .int (spare : Nat))])))) = Hk := ⟨_, rfl⟩
        show tSeq _ _ _ σ2 (upd (upd (upd (upd H3 f (.ins a.File dx (putF "store" (.ref s) [("room", .int (room : Nat)), ("spare", .int (spare : Nat))]))) m (.dK [])) f (.ins a.File dx (putF "marks" (.ref m) (putF "store" (.ref s) [("room", .int (room : Nat)), ("spare", .int (spare : Nat))])))) f (.ins a.File dx (putF "count" (.int 0) (putF "marks" (.ref m) (putF "store" (.ref s) [("room", .int (room : Nat)), ("spare", .int (spare : Nat))])))))
        rw [hHk]
        have hk0 : Hk f = some (.ins a.File dx (fF room spare s m 0)) := by
          rw [← hHk, upd_same]
          rfl
        have hkm : Hk m = some (.dK []) := by
          rw [← hHk, upd_ne hmf, upd_ne hmf, upd_same]
        have hko : ∀ b o, b ≠ f → H3 b = some o → Hk b = some o := fun b o nb e => by
          rw [← hHk, upd_ne nb, upd_ne nb, upd_ne (ne_of_none e nm3), upd_ne nb]
          exact e
        have b3k : But [f] H3 Hk := ⟨fun b o nb e => hko b o (by simpa using nb) e, fun b hb z => by
          by_cases e : b = f
          · rw [e, hk0] at z
            cases z
          · cases q : H3 b with
            | none => exact hb q
            | some o =>
              rw [hko b o e q] at z
              cases z⟩
        have nsf : NoSeq [f] H3 := fun b hb o e => by
          have hb : b = f := by simpa using hb
          have : H3 f = _ := b3.keep _ _ (by simp [Ne.symm hsf]) hbf
          rw [hb, this] at e
          cases e
          rfl
        have nsf2 : NoSeq [f] H2 := fun b hb o e => by
          have hb : b = f := by simpa using hb
          rw [hb, hf2] at e
          cases e
          rfl
        have nss : NoSeq [s] Hb := fun b hb o e => by
          have hb : b = s := by simpa using hb
          rw [hb, ← hHb, upd_same] at e
          cases e
          rfl
        have sk : SameS (hid M H2) (hid M Hk) := ((bb.s nsf2).trans (b3.s nss)).trans (b3k.s nsf)
        have lvk : Lv M Hk := b3k.lv (b3.lv lvb)
        have raw : RawAt P w a M Hk ⟨f, s, c, m⟩ ⟨room, spare, ⟨[], 0, none, false⟩, [], 0⟩ :=
          ⟨dx, hk0, hkm, ⟨ex, kvs, hko _ _ hsf st1, dm_but b3k nsf (by simpa using hcf) st2, st3.mono (b3k.s nsf)⟩, nofun⟩
        have gk : EnvD ⟨FA.foot ⟨f, s, c, m⟩, M, Hk⟩ (ivR P w a ⟨f, s, c, m⟩ ⟨room, spare, ⟨[], 0, none, false⟩, [], 0⟩) [] Hk σ2 [Sl.val (.ref f), Sl.dat (dInt room), Sl.dat (dInt fill), Sl.dat (dInt spare), Sl.dat (.list (rs.map dRow)), Sl.no] := by
          refine ⟨hlen2, fun i s e => ?_⟩
          match i, e with
          | 0, e =>
            cases e
            exact g0
          | 1, e =>
            cases e
            exact ⟨_, g1, .int _⟩
          | 2, e =>
            cases e
            exact ⟨_, g2', .int _⟩
          | 3, e =>
            cases e
            exact ⟨_, g3, .int _⟩
          | 4, e =>
            cases e
            exact ⟨_, g4, (r4.mono sk).mono (start_s raw.at0)⟩
          | 5, e =>
            cases e
            trivial
          | _ + 6, e => cases e
        have hlay : f_lay a ⟨room, spare, ⟨spCells spare, 0, none, false⟩, [], 0⟩ [.int 0, .list (rs.map dRow), dInt fill] = some (⟨room, spare, ⟨putsC (spCells spare) (layW 0 (partsOf fill rs)), 0 + (layW 0 (partsOf fill rs)).length, none, false⟩, [], 0⟩, .ok .none) := by
          simp only [f_lay]
          rw [if_pos ⟨by omega, by omega, by omega, by omega, by simp; omega, by simp; omega⟩, rowsD_of]
          show some (({ room := room, spare := spare, st := (wrs ⟨spCells spare, 0, none, false⟩ (layW 0 (partsOf fill rs))).1, marks := [], count := 0 } : RS), if (wrs ⟨spCells spare, 0, none, false⟩ (layW 0 (partsOf fill rs))).2 = true then Rs.er a.Stopped else Rs.ok .none) = _
          rw [wrs_free rfl rfl]
          rfl
        refine fw_seq (X := ⟨FA.foot ⟨f, s, c, m⟩, M, Hk⟩) (Φ := ivR P w a ⟨f, s, c, m⟩ ⟨room, spare, ⟨[], 0, none, false⟩, [], 0⟩) (R := fun _ _ => False)
          (N := fun Γ Φ => Φ = ivR P w a ⟨f, s, c, m⟩ ⟨room, spare, ⟨putsC (spCells spare) (layW 0 (partsOf fill rs)), 0, none, false⟩, [], 0⟩)
          (N1 := fun Γ Φ => (∃ s5, Γ = [Sl.val (.ref f), Sl.dat (dInt room), Sl.dat (dInt fill), Sl.dat (dInt spare), Sl.dat (.list (rs.map dRow)), s5]) ∧ Φ = ivR P w a ⟨f, s, c, m⟩ ⟨room, spare, ⟨spCells spare, 0, none, false⟩, [], 0⟩)
          (fw_for (ei_eq (ei_range1 (ea_cons (ev_var rfl) ea_nil) (by omega) (by omega)) (show rgD 0 1 ((spare : Nat) : Int).toNat = (List.range spare).map dInt by simp [rgD])) (fun k Γ Φ => (∃ s5, Γ = [Sl.val (.ref f), Sl.dat (dInt room), Sl.dat (dInt fill), Sl.dat (dInt spare), Sl.dat (.list (rs.map dRow)), s5]) ∧ Φ = ivR P w a ⟨f, s, c, m⟩ ⟨room, spare, ⟨spCells k, 0, none, false⟩, [], 0⟩) ⟨⟨_, rfl⟩, rfl⟩ (fun k d Γ1 Φ1 hk hI => ?_) fun Γ1 Φ1 hI => ?_)
          (fun Γ1 Φ1 hI => ?_) [] Hk σ2 _ (raw.at0.cur lvk) gk (fun L' H' σ' Γ' Φ' c' s' g' n => ?_) fun _ _ _ _ _ _ _ z => z.elim
        · obtain ⟨⟨s5, rfl⟩, rfl⟩ := hI
          have hkl : k < spare := by
            have := (List.getElem?_eq_some_iff.mp hk).1
            simpa using this
          have hd : d = dInt k := by
            simp only [List.getElem?_map, List.getElem?_range hkl, Option.map_some, Option.some.injEq] at hk
            exact hk.symm
          subst hd
          refine ⟨_, tg_name, fw_cell (F := ⟨f, s, c, m⟩) (kd := dSk k) (d := .none) (k := kSpill k) kc rfl (fun x hx => hx) ev_non (ev_tup (ea_cons (ev_str _) (ea_cons (ev_var rfl) ea_nil)) (by simp)) rfl rfl nofun (by simp; omega) ⟨⟨_, rfl⟩, ?_⟩⟩
          rw [putC_new]
          · simp only [spCells, List.range_succ, List.map_append, List.map_cons, List.map_nil]
          · intro p hp z
            obtain ⟨j, hj, rfl⟩ := List.mem_map.mp hp
            have := kSpill_inj z
            have hj : j < k := by simpa using hj
            omega
        · rw [List.length_map, List.length_range] at hI
          exact hI
        · obtain ⟨⟨s5, rfl⟩, rfl⟩ := hI
          refine fw_seq (N1 := fun Γ Φ => Γ = [Sl.val (.ref f), Sl.dat (dInt room), Sl.dat (dInt fill), Sl.dat (dInt spare), Sl.dat (.list (rs.map dRow)), s5] ∧ Φ = ivR P w a ⟨f, s, c, m⟩ ⟨room, spare, ⟨putsC (spCells spare) (layW 0 (partsOf fill rs)), 0 + (layW 0 (partsOf fill rs)).length, none, false⟩, [], 0⟩)
            (fw_dropW (ew_self (F := ⟨f, s, c, m⟩) (f := f_lay a) rfl (fun x hx => hx) (ea_cons (ev_int 0) (ea_cons (ev_cb (ea_cons (ev_var rfl) ea_nil) cb_listL) (ea_cons (ev_var rfl) ea_nil))) hlay) (fun _ _ => ⟨rfl, rfl⟩) fun _ _ _ => trivial) fun Γ2 Φ2 hI => ?_
          obtain ⟨rfl, rfl⟩ := hI
          exact fw_many (F := ⟨f, s, c, m⟩) kc rfl (fun x hx => hx) (ev_int 0) rfl
        · subst n
          have hraw := raw_sub (M' := (ivR P w a ⟨f, s, c, m⟩ ⟨room, spare, ⟨putsC (spCells spare) (layW 0 (partsOf fill rs)), 0, none, false⟩, [], 0⟩).fp) c'.end_
          have hfile := RawAt.file (S := mkFS room fill spare rs) hraw (rep_new (room := room) (fill := fill) (spare := spare) (rs := rs) s1 s4 (by omega))
          have nH : ∀ b ∈ [s, c, m], H b = none := fun b hb => by
            have hb : b = s ∨ b = c ∨ b = m := by simpa using hb
            rcases hb with rfl | rfl | rfl
            · exact e2.free n1'
            · exact e2.free (bb.free nc)
            · exact e2.free (bb.free (b3.free nm3))
          refine q3 room fill spare rs rfl rfl rfl s1 s2 s3 s4 hbr rfl hrl ⟨f, s, c, m⟩ H' rfl nH ⟨fun b o nb e => ?_, fun b hb => ?_⟩ hfile
          · have nb : b ≠ f := by simpa using nb
            have ne : ∀ x ∈ [s, c, m], b ≠ x := fun x hx z => by
              have := nH x hx
              rw [← z, e] at this
              cases this
            refine c'.but.keep b o (by simp [FA.foot, nb, ne s (by simp), ne c (by simp), ne m (by simp)]) (hko b o nb (b3.keep b o (by simp [ne s (by simp)]) (bb.keep b o (by simpa using nb) (e2 b o e))))
          · exact c'.but.live b (b3k.live b (b3.live b (bb.live b (But.live (A := []) (But.of e2) b hb))))
end
end Sp

set_option Elab.async false
set_option linter.all false
set_option maxRecDepth 100000
set_option maxHeartbeats 4000000
/-! Expressions that may change what is held, and whose worth is one of several. -/
namespace SE
open PySem L2 SM SR SD Sp
/-- own lists stay -/
def Kp (L : Lo) (H H2 : Hp) : Prop := ∀ p ∈ L, H2 p.2 = H p.2
section
variable {X : Wd} {Φ Φ2 : Iv} {H H1 H2 H3 : Hp} {L : Lo} {σ : L2.St} {Γ Γ' : Gm} {v : V} {d e : D} {i j : Nat} {ta tb te : TE} {tt tu : TT} {S : D → Iv → Prop}
theorem Kp.same (c : Cur X Φ L H) (e : Same H H2) : Kp L H H2 := fun p hp => by
  cases q : H p.2 with
  | none => exact absurd q (c.lv _ (Or.inl (List.mem_map.mpr ⟨p, hp, rfl⟩)))
  | some o => exact e _ _ q
theorem Kp.trans (a : Kp L H H1) (b : Kp L H1 H2) : Kp L H H2 := fun p hp => (b p hp).trans (a p hp)
theorem Kp.refl : Kp L H H := fun _ _ => rfl
theorem EnvD.kp (g : EnvD X Φ L H σ Γ) (s : SameS (hd X Φ L H) (hd X Φ2 L H2)) (k : Kp L H H2) : EnvD X Φ2 L H2 σ Γ := ⟨g.len, fun i t e => by
  have q := g.ok i t e
  cases t with
  | no => trivial
  | dat d =>
    obtain ⟨v, h1, h2⟩ := q
    exact ⟨v, h1, h2.mono s⟩
  | val v => exact q
  | own ds =>
    obtain ⟨l, vs, h1, h2, h3, h4⟩ := q
    exact ⟨l, vs, h1, h2, (k _ h2).trans h3, h4.mono s⟩
  | tre d =>
    obtain ⟨v, A, h1, h2, h4, h3⟩ := q
    exact ⟨v, A, h1, h2, fun l hl => (h4 l hl).imp fun _ e => (k _ (h2 l hl)).trans e, h3.mono (tgv_mono (fun l hl o e => (k _ (h2 l hl)).trans e) s)⟩⟩
def Eg (X : Wd) (Φ : Iv) (te : TE) (Γ : Gm) (S : D → Iv → Prop) : Prop := ∀ L H σ, Cur X Φ L H → EnvD X Φ L H σ Γ → ∀ Q : VK,
  (∀ v H2 d Φ2, Cur X Φ2 L H2 → SameS (hd X Φ L H) (hd X Φ2 L H2) → Kp L H H2 → S d Φ2 → Dt (hd X Φ2 L H2) v d → Q v H2) → te σ H Q
def EgA (X : Wd) (Φ : Iv) (ta : TA) (Γ : Gm) (S : List D → Iv → Prop) : Prop := ∀ L H σ, Cur X Φ L H → EnvD X Φ L H σ Γ → ∀ Q : List V → Hp → Prop,
  (∀ vs H2 ds Φ2, Cur X Φ2 L H2 → SameS (hd X Φ L H) (hd X Φ2 L H2) → Kp L H H2 → S ds Φ2 → Dts (hd X Φ2 L H2) vs ds → Q vs H2) → ta σ H Q
def EgT (X : Wd) (Φ : Iv) (tt : TT) (Γ : Gm) (S : Bool → Iv → Prop) : Prop := ∀ L H σ, Cur X Φ L H → EnvD X Φ L H σ Γ → ∀ Q : Bool → Hp → Prop,
  (∀ b H2 Φ2, Cur X Φ2 L H2 → SameS (hd X Φ L H) (hd X Φ2 L H2) → Kp L H H2 → S b Φ2 → Q b H2) → tt σ H Q
def EgI (X : Wd) (Φ : Iv) (wi : TI) (Γ : Gm) (S : List D → Iv → Prop) : Prop := ∀ L H σ, Cur X Φ L H → EnvD X Φ L H σ Γ → ∀ R : It → Hp → Prop,
  (∀ J H2 ds Φ2, Cur X Φ2 L H2 → SameS (hd X Φ L H) (hd X Φ2 L H2) → Kp L H H2 → Wk (hdn X Φ2 L) H2 J ds → S ds Φ2 → R J H2) → wi σ H R
theorem eg_of (h : Ev X Φ te Γ d) (s : S d Φ) : Eg X Φ te Γ S := fun L H σ c g Q q => h L H σ c g Q fun v H2 e r => q v H2 d Φ (c.up e) (Same.s (Same.hid e)) (Kp.same c e) s r
theorem egt_of {S : Bool → Iv → Prop} {b : Bool} (h : EvT X Φ tt Γ b) (s : S b Φ) : EgT X Φ tt Γ S := fun L H σ c g Q q => h L H σ c g Q fun H2 e => q b H2 Φ (c.up e) (Same.s (Same.hid e)) (Kp.same c e) s
theorem ega_of {ta : TA} {ds : List D} {S : List D → Iv → Prop} (h : EvA X Φ ta Γ ds) (s : S ds Φ) : EgA X Φ ta Γ S := fun L H σ c g Q q => h L H σ c g Q fun vs H2 e r => q vs H2 ds Φ (c.up e) (Same.s (Same.hid e)) (Kp.same c e) s r
theorem egi_of {wi : TI} {ds : List D} {S : List D → Iv → Prop} (h : EvI X Φ wi Γ ds) (s : S ds Φ) : EgI X Φ wi Γ S := fun L H σ c g R q => h L H σ c g R fun J H2 e w => q J H2 ds Φ (c.up e) (Same.s (Same.hid e)) (Kp.same c e) w s
theorem eg_mono {S' : D → Iv → Prop} (h : Eg X Φ te Γ S') (m : ∀ d Φ2, S' d Φ2 → S d Φ2) : Eg X Φ te Γ S := fun L H σ c g Q q => h L H σ c g Q fun v H2 d Φ2 c2 s2 k2 x r => q v H2 d Φ2 c2 s2 k2 (m d Φ2 x) r
theorem ega_nil {S : List D → Iv → Prop} (s : S [] Φ) : EgA X Φ tNil Γ S := ega_of ea_nil s
theorem ega_cons {tr : TA} {S : List D → Iv → Prop} (h : Eg X Φ ta Γ fun d Φ1 => EgA X Φ1 tr Γ fun ds Φ2 => S (d :: ds) Φ2) : EgA X Φ (tCons ta tr) Γ S := fun L H σ c g Q q =>
  h L H σ c g _ fun v H1 d Φ1 c1 s1 k1 x r1 => x L H1 σ c1 (g.kp s1 k1) _ fun vs H2 ds Φ2 c2 s2 k2 y r2 => q _ H2 _ Φ2 c2 (s1.trans s2) (k1.trans k2) y (.cons (r1.mono s2) r2)
theorem eg_op {r : R2} (h : Eg X Φ ta Γ fun d Φ1 => Eg X Φ1 tb Γ fun e Φ2 => ∃ f, OpD r d e f ∧ S f Φ2) : Eg X Φ (tOp r ta tb) Γ S := fun L H σ c g Q q =>
  h L H σ c g _ fun v H1 d Φ1 c1 s1 k1 x r1 => x L H1 σ c1 (g.kp s1 k1) _ fun u H2 e Φ2 c2 s2 k2 y r2 => by
    obtain ⟨f, o, z⟩ := y
    exact o _ H2 v u c2.lv (r1.mono s2) r2 Q fun z' H3 e3 r3 => q z' H3 f Φ2 (c2.up e3) ((s1.trans s2).trans (Same.s (Same.hid e3))) ((k1.trans k2).trans (Kp.same c2 e3)) z r3
theorem eg_tup {ta : TA} (h : EgA X Φ ta Γ fun ds Φ2 => ds.length ≤ 100000 ∧ S (.tuple ds) Φ2) : Eg X Φ (tTup ta) Γ S := fun L H σ c g Q q =>
  h L H σ c g _ fun vs H1 ds Φ1 c1 s1 k1 x r1 => ⟨by rw [r1.len]; exact Nat.le_trans x.1 (by decide), fun p hp => q _ _ _ Φ1 (c1.up (new_same hp)) (s1.trans (Same.s (Same.hid (new_same hp)))) (k1.trans (Kp.same c1 (new_same hp))) x.2 (.tup (new_at c1.lv hp) (r1.mono (Same.s (Same.hid (new_same hp)))))⟩
theorem eg_lst {ta : TA} (h : EgA X Φ ta Γ fun ds Φ2 => ds.length ≤ 100000 ∧ S (.list ds) Φ2) : Eg X Φ (tLst ta) Γ S := fun L H σ c g Q q =>
  h L H σ c g _ fun vs H1 ds Φ1 c1 s1 k1 x r1 => ⟨by rw [r1.len]; exact Nat.le_trans x.1 (by decide), fun p hp => q _ _ _ Φ1 (c1.up (new_same hp)) (s1.trans (Same.s (Same.hid (new_same hp)))) (k1.trans (Kp.same c1 (new_same hp))) x.2 (.lst (new_at c1.lv hp) (r1.mono (Same.s (Same.hid (new_same hp)))))⟩
theorem eg_cb {r : List V → Hp → VK → Prop} {ta : TA} (h : EgA X Φ ta Γ fun ds Φ2 => ∃ f, CbD r ds f ∧ S f Φ2) : Eg X Φ (tCB r ta) Γ S := fun L H σ c g Q q =>
  h L H σ c g _ fun vs H1 ds Φ1 c1 s1 k1 x r1 => by
    obtain ⟨f, o, z⟩ := x
    exact o _ H1 vs c1.lv r1 Q fun z' H3 e3 r3 => q z' H3 f Φ1 (c1.up e3) (s1.trans (Same.s (Same.hid e3))) (k1.trans (Kp.same c1 e3)) z r3
theorem eg_callP {f : List D → Option Rs} {ta : TA} {E : XK} (h : EgA X Φ ta Γ fun ds Φ2 => ∃ d, f ds = some (.ok d) ∧ S d Φ2) : Eg X Φ (tCall (SpP f) [] E ta) Γ S := fun L H σ c g Q q =>
  h L H σ c g _ fun vs H1 ds Φ1 c1 s1 k1 x r1 => by
    obtain ⟨d, o, z⟩ := x
    rw [List.append_nil]
    refine ⟨_, ds, c1.lv, r1, ?_⟩
    rw [o]
    exact fun v H' e2 r2 => q v H' d Φ1 (c1.up e2) (s1.trans (Same.s (Same.hid e2))) (k1.trans (Kp.same c1 e2)) z r2
theorem egt_test {S : Bool → Iv → Prop} (h : Eg X Φ te Γ fun d Φ2 => ∃ b, d = .bool b ∧ S b Φ2) : EgT X Φ (tTest te) Γ S := fun L H σ c g Q q => h L H σ c g _ fun v H1 d Φ1 c1 s1 k1 x r1 => by
  obtain ⟨b, rfl, z⟩ := x
  cases r1
  exact ⟨b, rfl, q b H1 Φ1 c1 s1 k1 z⟩
theorem egt_B {S : Bool → Iv → Prop} (h : Eg X Φ te Γ fun d Φ2 => ∃ b, d = .bool b ∧ S b Φ2) : EgT X Φ (tB te) Γ S := fun L H σ c g Q q => h L H σ c g _ fun v H1 d Φ1 c1 s1 k1 x r1 => by
  obtain ⟨b, rfl, z⟩ := x
  cases r1
  exact ⟨b, rfl, q b H1 Φ1 c1 s1 k1 z⟩
theorem egt_not {S : Bool → Iv → Prop} (h : EgT X Φ tt Γ fun b Φ2 => S (!b) Φ2) : EgT X Φ (tNot tt) Γ S := fun L H σ c g Q q => h L H σ c g _ fun b H1 Φ1 c1 s1 k1 x => q (!b) H1 Φ1 c1 s1 k1 x
theorem egt_and {S : Bool → Iv → Prop} (h : EgT X Φ tt Γ fun b Φ1 => (b = false → S false Φ1) ∧ (b = true → EgT X Φ1 tu Γ S)) : EgT X Φ (tAnd tt tu) Γ S := fun L H σ c g Q q => h L H σ c g _ fun b H1 Φ1 c1 s1 k1 x => by
  cases b with
  | true =>
    show tu σ H1 Q
    exact x.2 rfl L H1 σ c1 (g.kp s1 k1) Q fun b H2 Φ2 c2 s2 k2 y => q b H2 Φ2 c2 (s1.trans s2) (k1.trans k2) y
  | false => exact q false H1 Φ1 c1 s1 k1 (x.1 rfl)
theorem egt_or {S : Bool → Iv → Prop} (h : EgT X Φ tt Γ fun b Φ1 => (b = true → S true Φ1) ∧ (b = false → EgT X Φ1 tu Γ S)) : EgT X Φ (tOr tt tu) Γ S := fun L H σ c g Q q => h L H σ c g _ fun b H1 Φ1 c1 s1 k1 x => by
  cases b with
  | false =>
    show tu σ H1 Q
    exact x.2 rfl L H1 σ c1 (g.kp s1 k1) Q fun b H2 Φ2 c2 s2 k2 y => q b H2 Φ2 c2 (s1.trans s2) (k1.trans k2) y
  | true => exact q true H1 Φ1 c1 s1 k1 (x.1 rfl)
theorem eg_if (h : EgT X Φ tt Γ fun b Φ1 => (b = true → Eg X Φ1 ta Γ S) ∧ (b = false → Eg X Φ1 tb Γ S)) : Eg X Φ (tIf tt ta tb) Γ S := fun L H σ c g Q q => h L H σ c g _ fun b H1 Φ1 c1 s1 k1 x => by
  cases b with
  | true => exact x.1 rfl L H1 σ c1 (g.kp s1 k1) Q fun v H2 d Φ2 c2 s2 k2 y r => q v H2 d Φ2 c2 (s1.trans s2) (k1.trans k2) y r
  | false => exact x.2 rfl L H1 σ c1 (g.kp s1 k1) Q fun v H2 d Φ2 c2 s2 k2 y r => q v H2 d Φ2 c2 (s1.trans s2) (k1.trans k2) y r
theorem egi_range1 {ta : TA} {S : List D → Iv → Prop} (h : EgA X Φ ta Γ fun ds Φ2 => ∃ n : Int, ds = [.int n] ∧ -(2 ^ 62) ≤ n ∧ n < 2 ^ 62 ∧ S (rgD 0 1 n.toNat) Φ2) : EgI X Φ (iRng1 ta) Γ S := fun L H σ c g R q => h L H σ c g _ fun vs H1 ds Φ1 c1 s1 k1 x r1 => by
  obtain ⟨n, rfl, h1, h2, z⟩ := x
  cases r1 with
  | cons r r2 =>
    cases r2
    cases r
    exact ⟨n, rfl, h1, h2, q _ H1 _ Φ1 c1 s1 k1 wk_range z⟩
theorem egi_seqL {K : PySem.W.Frag} {S : List D → Iv → Prop} (h : Eg X Φ te Γ fun d Φ2 => ∃ ds, d = .list ds ∧ S ds Φ2) : EgI X Φ (iSeqU K te) Γ S := fun L H σ c g R q => .inl (h L H σ c g _ fun v H1 d Φ1 c1 s1 k1 x r1 => by
  obtain ⟨ds, rfl, z⟩ := x
  cases r1 with
  | lst ha hv => exact ⟨_, rfl, ⟨_, sqL ha⟩, q _ H1 ds Φ1 c1 s1 k1 (wk_list ha hv) z⟩)
/-! ### statements -/
variable {t u : TS} {N : Gm → Iv → Prop} {R : Ro → Iv → Prop}
theorem fg_asg (h : Eg X Φ te Γ fun d Φ2 => N (Γ.set i (.dat d)) Φ2) : FW X (tAsg te (gName i)) Γ Φ N R := fun L H σ D c g k r => h L H σ c g _ fun v H1 d Φ1 c1 s1 k1 x r1 => k L H1 _ _ Φ1 c1 s1 ((g.kp s1 k1).dat r1) x
theorem fg_asgT {gt : TG} (h : Eg X Φ te Γ fun d Φ2 => ∃ Γ', Tg X Φ2 gt d Γ Γ' ∧ N Γ' Φ2) : FW X (tAsg te gt) Γ Φ N R := fun L H σ D c g k r => h L H σ c g _ fun v H1 d Φ1 c1 s1 k1 x r1 => by
  obtain ⟨Γ', ht, n⟩ := x
  exact ht L H1 σ v (g.kp s1 k1) r1 _ fun σ' g' => k L H1 σ' Γ' Φ1 c1 s1 g' n
theorem fg_drop (h : Eg X Φ te Γ fun d Φ2 => N Γ Φ2) : FW X (tDrop te) Γ Φ N R := fun L H σ D c g k r => h L H σ c g _ fun v H1 d Φ1 c1 s1 k1 x r1 => k L H1 σ Γ Φ1 c1 s1 (g.kp s1 k1) x
theorem fg_ret (h : Eg X Φ te Γ fun d Φ2 => R (.dat d) Φ2) : FW X (tRet te) Γ Φ N R := fun L H σ D c g k r => h L H σ c g _ fun v H1 d Φ1 c1 s1 k1 x r1 => r v (.dat d) H1 Φ1 c1.but c1.end_ (r1.mono (Same.s c1.sub)) x
theorem fg_if (h : EgT X Φ tt Γ fun b Φ1 => (b = true → FW X t Γ Φ1 N R) ∧ (b = false → FW X u Γ Φ1 N R)) : FW X (tIfS tt t u) Γ Φ N R := fun L H σ D c g k r => h L H σ c g _ fun b H1 Φ1 c1 s1 k1 x => by
  cases b with
  | true => exact x.1 rfl L H1 σ D c1 (g.kp s1 k1) (fun L' H' σ' Γ' Φ' c' s' => k L' H' σ' Γ' Φ' c' (s1.trans s')) r
  | false => exact x.2 rfl L H1 σ D c1 (g.kp s1 k1) (fun L' H' σ' Γ' Φ' c' s' => k L' H' σ' Γ' Φ' c' (s1.trans s')) r
theorem fg_app {K : PySem.W.Frag} {ds : List D} (ho : Γ[i]? = some (.own ds)) (hz : ds.length < 100000) (h : Eg X Φ te Γ fun d Φ2 => N (Γ.set i (.own (ds ++ [d]))) Φ2) : FW X (tDrop (tBM K "list" rAppend (tVar i) (tCons te tNil))) Γ Φ N R := fun L H σ D c g k r => by
  obtain ⟨l, vs, h1, h2, h3, h4, h5⟩ := own_at g ho
  refine ⟨_, h1, .inl ⟨rfl, vs, SqL.of h3⟩, h L H σ c g _ fun v H1 d Φ1 c1 s1 k1 x r1 => ?_⟩
  have g1 := g.kp s1 k1
  have e3 : H1 l = some (.lst vs) := (k1 _ h2).trans h3
  obtain ⟨c2, s2, g2⟩ := own_put (vs' := vs ++ [v]) (ds := ds ++ [d]) c1 g1 h2 e3 h1 h5 ((h4.mono s1).app (.cons r1 .nil))
  exact ⟨l, vs, v, rfl, rfl, e3, by rw [h4.len]; exact Nat.lt_of_lt_of_le hz (by decide), k _ _ _ _ _ c2 (s1.trans s2) g2 x⟩
theorem fg_for {wi : TI} {gt : TG} {tb : TS} (I : List D → Nat → Gm → Iv → Prop) (hi : EgI X Φ wi Γ fun ds Φ2 => I ds 0 Γ Φ2)
    (hs : ∀ ds (k : Nat) d Γ1 Φ1, ds[k]? = some d → I ds k Γ1 Φ1 → ∃ Γ2, Tg X Φ1 gt d Γ1 Γ2 ∧ FW X tb Γ2 Φ1 (I ds (k + 1)) R) (hn : ∀ ds Γ1 Φ1, I ds ds.length Γ1 Φ1 → N Γ1 Φ1) : FW X (tFor wi gt tb) Γ Φ N R := fun L H σ D c gg k r =>
  hi L H σ c gg _ fun J Ha ds Φa ca sa ka wk h0 => by
    refine ⟨fun i m σ1 H1 => m = ds.length - i ∧ i ≤ ds.length ∧ ∃ L1 Γ1 Φ1, Cur X Φ1 L1 H1 ∧ SameS (hd X Φa L Ha) (hd X Φ1 L1 H1) ∧ EnvD X Φ1 L1 H1 σ1 Γ1 ∧ I ds i Γ1 Φ1, ⟨ds.length, by simp, Nat.zero_le _, L, Γ, Φa, ca, SameS.refl _, gg.kp sa ka, h0⟩, ?_⟩
    rintro i m σ1 H1 ⟨rfl, hle, L1, Γ1, Φ1, c1, s1, g1, i1⟩
    obtain ⟨go, stop⟩ := wk _ H1 s1 c1.lv
    by_cases hlt : i < ds.length
    · obtain ⟨y1, y2⟩ := go i ds[i] (by simp [hlt])
      obtain ⟨Γ2, ht, hb⟩ := hs ds i ds[i] Γ1 Φ1 (by simp [hlt]) i1
      refine .inr ⟨y1, fun σ' H' => ∃ L' Γ' Φ', Cur X Φ' L' H' ∧ SameS (hd X Φa L Ha) (hd X Φ' L' H') ∧ EnvD X Φ' L' H' σ' Γ' ∧ I ds (i + 1) Γ' Φ', fun σ' H' z => ⟨_, by omega, rfl, hlt, z⟩, fun x H' y => ?_⟩
      obtain ⟨e2, rx⟩ := y2 x H' y
      refine ht L1 H' σ1 x (g1.up e2) rx _ fun σ2 g2 => ?_
      refine hb L1 H' σ2 _ (c1.up e2) g2 (fun L3 H3 σ3 Γ3 Φ3 c3 s3 g3 n3 => ⟨L3, Γ3, Φ3, c3, (s1.trans (Same.s (Same.hid e2))).trans s3, g3, n3⟩) r
    · have e : i = ds.length := by omega
      subst e
      exact .inl ⟨stop, k L1 H1 σ1 Γ1 Φ1 c1 (sa.trans s1) g1 (hn ds Γ1 Φ1 i1)⟩
/-! ### comprehensions -/
inductive All2 {α : Type} (A : α → D → Prop) : List α → List D → Prop
  | nil : All2 A [] []
  | cons {x : α} {d : D} {xs : List α} {ds : List D} : A x d → All2 A xs ds → All2 A (x :: xs) (d :: ds)
theorem All2.snoc {α : Type} {A : α → D → Prop} {xs : List α} {ds : List D} {x : α} {d : D} (h : All2 A xs ds) (a : A x d) : All2 A (xs ++ [x]) (ds ++ [d]) := by
  induction h with
  | nil => exact .cons a .nil
  | cons b _ ih => exact .cons b ih
theorem All2.len {α : Type} {A : α → D → Prop} {xs : List α} {ds : List D} (h : All2 A xs ds) : ds.length = xs.length := by
  induction h with
  | nil => rfl
  | cons _ _ ih => rw [List.length_cons, List.length_cons, ih]
/-- [e for x in xs], Φ staying as it is told -/
theorem eg_lcm {α : Type} {wi : TI} {gt : TG} {vs : List Nat} {xs : List α} {enc : α → D} (A : α → D → Prop) (hi : EvI X Φ wi Γ (xs.map enc)) (hz : xs.length < 100000)
    (hs : ∀ x ∈ xs, ∃ Γ2, TgW X Φ gt vs (enc x) (wipeG Γ vs) Γ2 ∧ Eg X Φ te Γ2 fun d Φ2 => A x d ∧ Φ2 = Φ) (hq : ∀ ds, All2 A xs ds → S (.list ds) Φ) : Eg X Φ (tLc wi gt tYes te vs) Γ S := fun L H σ c gg Q q =>
  hi L H σ c gg _ fun J Ha e1 wk => by
    intro D hD
    have c1 := c.up e1
    have g1 := gg.up e1
    have sD := new_same (o := .lst []) hD
    have nD : D ∉ hdn X Φ L := c1.lv.out hD
    obtain ⟨c0, s0, _⟩ := own_new (i := 0) (vs := []) (ds := []) c1 g1 hD .nil
    have gD : ∀ H1, SameS (hd X Φ L Ha) (hd X Φ ((0, D) :: L) H1) → Kp L Ha H1 → EnvD X Φ ((0, D) :: L) H1 σ Γ := fun H1 s1 k1 => ⟨g1.len, fun j t hj => by
      have z := g1.ok j t hj
      cases t with
      | no => trivial
      | dat d =>
        obtain ⟨v, h1, h2⟩ := z
        exact ⟨v, h1, h2.mono s1⟩
      | val v => exact z
      | own ds =>
        obtain ⟨l', vs2, a1, a2, a3, a4⟩ := z
        exact ⟨l', vs2, a1, List.mem_cons_of_mem _ a2, (k1 _ a2).trans a3, a4.mono s1⟩
      | tre d =>
        obtain ⟨v, A1, a1, a2, a4, a3⟩ := z
        exact ⟨v, A1, a1, fun l hl => List.mem_cons_of_mem _ (a2 l hl), fun l hl => (a4 l hl).imp fun _ e => (k1 _ (a2 l hl)).trans e, a3.mono (tgv_mono (fun l hl o e => (k1 _ (a2 l hl)).trans e) s1)⟩⟩
    refine ⟨fun i m H1 => m = xs.length - i ∧ i ≤ xs.length ∧ Cur X Φ ((0, D) :: L) H1 ∧ SameS (hd X Φ L Ha) (hd X Φ ((0, D) :: L) H1) ∧ Kp L Ha H1 ∧ ∃ us ds, H1 D = some (.lst us) ∧ Dts (hd X Φ ((0, D) :: L) H1) us ds ∧ All2 A (xs.take i) ds, ⟨xs.length, by simp, Nat.zero_le _, c0, s0, Kp.same c1 sD, [], [], upd_same, .nil, by simpa using All2.nil⟩, ?_⟩
    rintro i m H1 ⟨rfl, hle, cD, s1, k1, us, ds, hus, rus, hA⟩
    obtain ⟨go, stop⟩ := wk _ H1 s1 cD.lv
    rw [List.length_map] at stop
    by_cases hlt : i < xs.length
    · obtain ⟨y1, y2⟩ := go i (enc xs[i]) (by simp [hlt])
      obtain ⟨Γ2, ht, ht3⟩ := hs xs[i] (List.getElem_mem hlt)
      have tk : xs.take (i + 1) = xs.take i ++ [xs[i]] := by rw [List.take_add_one]; simp [hlt]
      refine .inr ⟨y1, fun H' => Cur X Φ ((0, D) :: L) H' ∧ SameS (hd X Φ L Ha) (hd X Φ ((0, D) :: L) H') ∧ Kp L Ha H' ∧ ∃ us ds, H' D = some (.lst us) ∧ Dts (hd X Φ ((0, D) :: L) H') us ds ∧ All2 A (xs.take (i + 1)) ds, fun H' z => ⟨_, by omega, rfl, hlt, z⟩, fun x H' y => ?_⟩
      obtain ⟨e2, rx⟩ := y2 x H' y
      refine ht ((0, D) :: L) H' (L2.wipe σ vs) x (((gD H1 s1 k1).up e2).wipe vs) rx _ fun σ2 g2 w2 => ⟨?_, ?_⟩
      · rw [w2]
        exact SE.ev_lc0.wipe_wipe (xs := xs) σ vs
      show te σ2 H' _
      refine ht3 _ H' σ2 (cD.up e2) g2 _ fun v H4 d Φ4 c4 s4 k4 z r4 => ?_
      obtain ⟨z, rfl⟩ := z
      have hus4 : H4 D = some (.lst us) := (k4 (0, D) List.mem_cons_self).trans (e2 _ _ hus)
      have rus4 := (rus.mono (Same.s (Same.hid e2))).mono s4
      have zl : us.length < sizeLine := by
        have h2 := hA.len
        have h1 := Dts.len rus
        rw [List.length_take] at h2
        exact Nat.lt_of_lt_of_le (by omega) (by decide : 100000 ≤ sizeLine)
      have g4 := g2.kp s4 k4
      have hput : Cur X Φ4 ((0, D) :: L) (upd H4 D (.lst (us ++ [v]))) ∧ SameS (hd X Φ4 ((0, D) :: L) H4) (hd X Φ4 ((0, D) :: L) (upd H4 D (.lst (us ++ [v])))) := put0 c4 hus4
      refine ⟨us, hus4, zl, hput.1, (((s1.trans (Same.s (Same.hid e2))).trans s4).trans hput.2), fun p hp => ?_, us ++ [v], ds ++ [d], upd_same, ((rus4.app (.cons r4 .nil)).mono hput.2), ?_⟩
      · have hne : p.2 ≠ D := fun z => nD (by rw [← z]; exact Or.inl (List.mem_map.mpr ⟨p, hp, rfl⟩))
        rw [upd_ne hne, k4 p (List.mem_cons_of_mem _ hp), Kp.same cD e2 p (List.mem_cons_of_mem _ hp), k1 p hp]
      · rw [tk]
        exact hA.snoc z
    · have e : i = xs.length := by omega
      subst e
      rw [List.take_length] at hA
      have sub : Same (hd X Φ ((0, D) :: L) H1) (hd X Φ L H1) := hid_sub fun a ha => mem_cons_hdn.mpr (.inr ha)
      refine .inl ⟨stop, q _ H1 _ Φ ⟨cD.but, fun a m => cD.lv a (mem_cons_hdn.mpr (.inr m)), fun p hp => cD.new p (List.mem_cons_of_mem _ hp), fun p hp => cD.om p (List.mem_cons_of_mem _ hp), ?_, fun p hp => cD.dj p (List.mem_cons_of_mem _ hp), Iv.same (Same.refl _) (Same.s sub) cD.at_⟩ ((Same.s (Same.hid e1)).trans (s1.trans (Same.s sub))) ((Kp.same c e1).trans k1) (hq ds hA) (.lst ?_ (rus.mono (Same.s sub)))⟩
      · have := cD.nd
        rw [List.map_cons, List.nodup_cons] at this
        exact this.2
      · exact (hid_out nD).trans hus
where
  put0 {Φ : Iv} {L : Lo} {H : Hp} {D : Addr} {us us' : List V} (c : Cur X Φ ((0, D) :: L) H) (h : H D = some (.lst us)) : Cur X Φ ((0, D) :: L) (upd H D (.lst us')) ∧ SameS (hd X Φ ((0, D) :: L) H) (hd X Φ ((0, D) :: L) (upd H D (.lst us'))) := by
    have g : EnvD X Φ ((0, D) :: L) H [some (.ref D)] [.own (us.map fun _ => PyData.none)] → True := fun _ => trivial
    have e : hd X Φ ((0, D) :: L) (upd H D (.lst us')) = hd X Φ ((0, D) :: L) H := hid_upd (mem_cons_hdn.mpr (.inl rfl))
    have s0 : SameS (hd X Φ ((0, D) :: L) H) (hd X Φ ((0, D) :: L) (upd H D (.lst us'))) := by
      rw [e]
      exact SameS.refl _
    refine ⟨⟨⟨fun a o n q => ?_, fun a q z => ?_⟩, fun a m z => ?_, c.new, c.om, c.nd, c.dj, Φ.up [D] (fun b o nb q => ?_) (fun z hz => ?_) s0 c.at_⟩, s0⟩
    · rw [upd_ne fun z => by
        have := c.new (0, D) List.mem_cons_self
        rw [← z, q] at this
        cases this]
      exact c.but.keep a o n q
    · by_cases e : a = D
      · rw [e, upd_same] at z
        cases z
      · rw [upd_ne e] at z
        exact c.but.live a q z
    · by_cases q : a = D
      · rw [q, upd_same] at z
        cases z
      · rw [upd_ne q] at z
        exact c.lv a m z
    · rw [upd_ne (by simpa using nb)]
      exact q
    · have : z = D := by simpa using hz
      rw [this, h]
      exact ⟨c.dj (0, D) List.mem_cons_self, (fun xs z => by cases z), fun o u z => by cases z⟩
end
end SE

set_option Elab.async false
set_option linter.all false
set_option maxRecDepth 100000
set_option maxHeartbeats 4000000
/-! Trees whose lists are one's own: made, looked at, changed. -/
namespace SE
open PySem L2 SM SR SD Sp
section
variable {X : Wd} {Φ Φ2 : Iv} {H H1 H2 H3 : Hp} {L L' : Lo} {σ : L2.St} {Γ Γ' : Gm} {v : V} {d e : D} {i j : Nat} {ta tb te : TE} {tt tu : TT} {N : Gm → Iv → Prop} {R : Ro → Iv → Prop}
/-- what may be used where all lists are hidden -/
def flatS : Sl → Sl
  | .dat d => if noL d then .dat d else .no
  | .val v => .val v
  | _ => .no
theorem EnvD.grow (g : EnvD X Φ L H σ Γ) (sub : ∀ p ∈ L, p ∈ L') (e : Same H H2) (s : SameS (hd X Φ L H) (hd X Φ L' H2)) : EnvD X Φ L' H2 σ Γ := ⟨g.len, fun j t hj => by
  have q := g.ok j t hj
  cases t with
  | no => trivial
  | dat d =>
    obtain ⟨v, h1, h2⟩ := q
    exact ⟨v, h1, h2.mono s⟩
  | val v => exact q
  | own ds =>
    obtain ⟨l, vs, h1, h2, h3, h4⟩ := q
    exact ⟨l, vs, h1, sub _ h2, e _ _ h3, h4.mono s⟩
  | tre d =>
    obtain ⟨v, A, h1, h2, h4, h3⟩ := q
    exact ⟨v, A, h1, fun l hl => sub _ (h2 l hl), fun l hl => (h4 l hl).imp fun _ z => e _ _ z, h3.mono (tgv_mono (fun l _ o h => e l o h) s)⟩⟩
theorem fw_asgF (h : ∀ X', Ev X' Φ te (Γ.map flatS) d) (n : N (Γ.set i (.tre d)) Φ) : FW X (tAsg te (gName i)) Γ Φ N R := fun L H σ D c g k r => by
  let A0 : Ads := fun a => a ∉ Φ.fp ∧ ∃ xs, H a = some (.lst xs)
  let X' : Wd := ⟨[], HAppend.hAppend (hdn X Φ L) A0, H⟩
  have c' : Cur X' Φ [] H := by
    refine ⟨But.refl _ _, fun a m => ?_, nofun, nofun, List.nodup_nil, nofun, ?_⟩
    · rcases m with m | (m | m) | m
      · cases m
      · exact c.lv a m
      · obtain ⟨_, xs, e⟩ := m
        rw [e]
        nofun
      · exact c.lv a (Or.inr (Or.inr m))
    · refine Iv.same (Same.refl H) (Same.s (hid_sub fun a m => ?_)) (Φ.nol A0 (fun l hl => hl) c.at_)
      rcases m with m | (m | m) | m
      · cases m
      · exact Or.inl m
      · exact Or.inr m
      · exact Or.inl (Or.inr (Or.inr m))
  have g' : EnvD X' Φ [] H σ (Γ.map flatS) := by
    refine ⟨by rw [List.length_map]; exact g.len, fun j t hj => ?_⟩
    rw [List.getElem?_map] at hj
    cases q : Γ[j]? with
    | none =>
      rw [q] at hj
      cases hj
    | some s =>
      rw [q] at hj
      cases hj
      have o := g.ok j s q
      cases s with
      | no => trivial
      | dat d =>
        show SlOk X' Φ [] H j σ[j]? (if noL d = true then .dat d else .no)
        by_cases hn : noL d = true
        · rw [if_pos hn]
          obtain ⟨v, h1, h2⟩ := o
          refine ⟨v, h1, h2.nol (fun a xs e => ?_) hn⟩
          obtain ⟨m, e⟩ := hid_some e
          refine (hid_out ?_).trans e
          rintro (y | (y | y) | y)
          · cases y
          · exact m y
          · obtain ⟨_, ys, e2⟩ := y
            rw [e2] at e
            cases e
          · exact m (Or.inr (Or.inr y))
        · rw [if_neg hn]
          trivial
      | val v => exact o
      | own ds => trivial
      | tre d => trivial
  refine h X' [] H σ c' g' _ fun v H2 e rd => ?_
  obtain ⟨A, nd, hA, hB⟩ := rd.lists
  have hA0 : ∀ l ∈ A, l ∉ hdn X Φ L ∧ H l = none := fun l hl => by
    obtain ⟨m, xs, e2⟩ := hA l hl
    have m1 : l ∉ hdn X Φ L := fun z => m (Or.inr (Or.inl (Or.inl z)))
    refine ⟨m1, ?_⟩
    cases q : H l with
    | none => rfl
    | some o =>
      rw [e l o q] at e2
      cases e2
      exact absurd (Or.inr (Or.inl (Or.inr ⟨fun z => m1 (Or.inr (Or.inr z)), xs, q⟩))) m
  have c2 := c.up e
  have mem : ∀ a, a ∈ hdn X Φ (A.map (fun l => (i, l)) ++ L) ↔ a ∈ A ∨ a ∈ hdn X Φ L := fun a => by
    constructor
    · rintro (m | m)
      · rw [List.map_append, List.map_map] at m
        rcases List.mem_append.mp m with m | m
        · obtain ⟨l, hl, rfl⟩ := List.mem_map.mp m
          exact .inl hl
        · exact .inr (Or.inl m)
      · exact .inr (Or.inr m)
    · rintro (m | m | m)
      · refine Or.inl ?_
        rw [List.map_append, List.map_map]
        exact List.mem_append_left _ (List.mem_map.mpr ⟨a, m, rfl⟩)
      · refine Or.inl ?_
        rw [List.map_append]
        exact List.mem_append_right _ m
      · exact Or.inr m
  have s0 : SameS (hd X Φ L H) (hd X Φ (A.map (fun l => (i, l)) ++ L) H2) := fun a o q z => by
    obtain ⟨m, q⟩ := hid_some q
    refine (hid_out fun y => ?_).trans (e a o q)
    rcases (mem a).mp y with y | y
    · have := (hA0 a y).2
      rw [q] at this
      cases this
    · exact m y
  have pm : ∀ p ∈ A.map (fun l => (i, l)) ++ L, (∃ l ∈ A, p = (i, l)) ∨ p ∈ L := fun p hp => by
    rcases List.mem_append.mp hp with m | m
    · obtain ⟨l, hl, rfl⟩ := List.mem_map.mp m
      exact .inl ⟨l, hl, rfl⟩
    · exact .inr m
  have cc : Cur X Φ (A.map (fun l => (i, l)) ++ L) H2 := by
    refine ⟨c2.but, fun a m => ?_, fun p hp => ?_, fun p hp => ?_, ?_, fun p hp => ?_, ?_⟩
    · rcases (mem a).mp m with m | m
      · obtain ⟨_, xs, e2⟩ := hA a m
        rw [e2]
        nofun
      · exact c2.lv a m
    · rcases pm p hp with ⟨l, hl, rfl⟩ | hp
      · exact c.but.free (hA0 l hl).2
      · exact c.new p hp
    · rcases pm p hp with ⟨l, hl, rfl⟩ | hp
      · exact fun z => (hA0 l hl).1 (Or.inr (Or.inl z))
      · exact c.om p hp
    · rw [List.map_append, List.map_map, List.nodup_append]
      refine ⟨by simpa [Function.comp_def] using nd, c.nd, fun x hx y hy z => ?_⟩
      obtain ⟨l, hl, rfl⟩ := List.mem_map.mp hx
      exact (hA0 l hl).1 (Or.inl (by rw [show l = y from z]; exact hy))
    · rcases pm p hp with ⟨l, hl, rfl⟩ | hp
      · exact fun z => (hA0 l hl).1 (Or.inr (Or.inr z))
      · exact c.dj p hp
    · refine Iv.same (Same.refl H2) (Same.s (hid_sub fun a m => ?_)) (Φ.nol (fun a => a ∈ A) (fun l hl => ⟨fun z => (hA0 l hl).1 (Or.inr (Or.inr z)), (hA l hl).2⟩) c2.at_)
      rcases (mem a).mp m with m | m
      · exact Or.inr m
      · exact Or.inl m
  refine k _ H2 _ _ Φ cc s0 ((g.grow (fun p hp => List.mem_append_right _ hp) e s0).set (s := .tre d) ⟨v, A, rfl, fun l hl => List.mem_append_left _ (List.mem_map.mpr ⟨l, hl, rfl⟩), fun l hl => (hA l hl).2, (hB A fun l hl => hl).mono fun a o q z => ?_⟩) n
  unfold tgv at *
  by_cases m : a ∈ A
  · rw [if_pos m] at q ⊢
    exact q
  · rw [if_neg m] at q ⊢
    by_cases m1 : a ∈ hdn X' Φ []
    · rw [if_pos m1] at q
      cases q
    · rw [if_neg m1] at q
      rw [if_neg]
      · exact q
      · intro y
        rcases (mem a).mp y with y | y
        · exact m y
        · exact m1 (Or.inr (Or.inl (Or.inl y)))
/-- the tree is looked at -/
theorem borrow (c : Cur X Φ L H) (g : EnvD X Φ L H σ Γ) (ht : Γ[i]? = some (.tre d)) : ∃ L', (∀ p ∈ L', p ∈ L) ∧ (∀ p ∈ L, p ∈ L' ∨ ∃ xs, H p.2 = some (.lst xs)) ∧ Cur X Φ L' H ∧ EnvD X Φ L' H σ (Γ.set i (.dat d)) := by
  obtain ⟨v, A, h1, h2, h5, h3⟩ := g.ok i _ ht
  have hi : i < Γ.length := (List.getElem?_eq_some_iff.mp ht).1
  have sub : ∀ a ∈ hdn X Φ (L.filter fun p => decide (p.2 ∉ A)), a ∈ hdn X Φ L := fun a ha => by
    rcases ha with z | z
    · obtain ⟨p, hp, e⟩ := List.mem_map.mp z
      exact Or.inl (List.mem_map.mpr ⟨p, (List.mem_filter.mp hp).1, e⟩)
    · exact Or.inr z
  have s0 : SameS (hd X Φ L H) (hd X Φ (L.filter fun p => decide (p.2 ∉ A)) H) := Same.s (hid_sub sub)
  refine ⟨L.filter fun p => decide (p.2 ∉ A), fun p hp => (List.mem_filter.mp hp).1, fun p hp => ?_, ⟨c.but, fun a m => c.lv a (sub a m), fun p hp => c.new p (List.mem_filter.mp hp).1, fun p hp => c.om p (List.mem_filter.mp hp).1, c.nd.sublist (List.filter_sublist.map _), fun p hp => c.dj p (List.mem_filter.mp hp).1, Iv.same (Same.refl H) s0 c.at_⟩, ⟨by rw [List.length_set]; exact g.len, fun j t hj => ?_⟩⟩
  · by_cases m : p.2 ∈ A
    · exact .inr (h5 _ m)
    · exact .inl (List.mem_filter.mpr ⟨hp, decide_eq_true m⟩)
  by_cases hij : i = j
  · subst hij
    rw [List.getElem?_set_self hi] at hj
    cases hj
    refine ⟨v, h1, (h3.mono (Same.s tgv_le)).mono (Same.s (hid_sub (M := hdn X Φ (L.filter fun p => decide (p.2 ∉ A))) fun a ha => And.intro (sub a ha) fun hA => ?_))⟩
    rcases ha with z | z
    · obtain ⟨p, hp, e⟩ := List.mem_map.mp z
      have := of_decide_eq_true (List.mem_filter.mp hp).2
      exact this (by rw [e]; exact hA)
    · exact c.out (h2 a hA) z
  · rw [List.getElem?_set_ne hij] at hj
    have q := g.ok j t hj
    cases t with
    | no => trivial
    | dat d =>
      obtain ⟨v, h1, h2⟩ := q
      exact ⟨v, h1, h2.mono s0⟩
    | val v => exact q
    | own ds =>
      obtain ⟨l', vs2, g1, g2, g3, g4⟩ := q
      refine ⟨l', vs2, g1, List.mem_filter.mpr ⟨g2, decide_eq_true fun hA => ?_⟩, g3, g4.mono s0⟩
      exact nd_ne c.nd g2 (h2 l' hA) (Ne.symm hij) rfl
    | tre d =>
      obtain ⟨v, A2, g1, g2, g4, g3⟩ := q
      refine ⟨v, A2, g1, fun b hb => List.mem_filter.mpr ⟨g2 b hb, decide_eq_true fun hA => ?_⟩, g4, g3.mono (tgv_mono (fun _ _ _ h => h) s0)⟩
      exact nd_ne c.nd (g2 b hb) (h2 b hA) (Ne.symm hij) rfl
theorem et_borrow {b : Bool} (ht : Γ[i]? = some (.tre d)) (h : EvT X Φ tt (Γ.set i (.dat d)) b) : EvT X Φ tt Γ b := fun L H σ c g Q q => by
  obtain ⟨L', _, _, c', g'⟩ := borrow c g ht
  exact h L' H σ c' g' Q q
theorem ev_borrow {u : V} (ht : Γ[i]? = some (.tre d)) (h : Ev X Φ te (Γ.set i (.dat d)) e) (hf : flat e = some u) : Ev X Φ te Γ e := fun L H σ c g Q q => by
  obtain ⟨L', _, _, c', g'⟩ := borrow c g ht
  refine h L' H σ c' g' Q fun v H2 e2 r => q v H2 e2 ?_
  rw [dt_flat r hf]
  exact of_flat hf
/-- an own list is rewritten -/
theorem Cur.putL {l : Addr} {vs vs' : List V} (c : Cur X Φ L H) (hl : (i, l) ∈ L) (h : H l = some (.lst vs)) : Cur X Φ L (upd H l (.lst vs')) ∧ SameS (hd X Φ L H) (hd X Φ L (upd H l (.lst vs'))) := by
  have ml : l ∈ hdn X Φ L := Or.inl (List.mem_map.mpr ⟨_, hl, rfl⟩)
  have e : hd X Φ L (upd H l (.lst vs')) = hd X Φ L H := hid_upd ml
  have s0 : SameS (hd X Φ L H) (hd X Φ L (upd H l (.lst vs'))) := by
    rw [e]
    exact SameS.refl _
  refine ⟨⟨⟨fun a o n q => ?_, fun a q z => ?_⟩, fun a m z => ?_, c.new, c.om, c.nd, c.dj, Φ.up [l] (fun b o nb q => ?_) (fun z hz => ?_) s0 c.at_⟩, s0⟩
  · rw [upd_ne fun z => by
      have := c.new _ hl
      rw [← z, q] at this
      cases this]
    exact c.but.keep a o n q
  · by_cases e : a = l
    · rw [e, upd_same] at z
      cases z
    · rw [upd_ne e] at z
      exact c.but.live a q z
  · by_cases q : a = l
    · rw [q, upd_same] at z
      cases z
    · rw [upd_ne q] at z
      exact c.lv a m z
  · rw [upd_ne (by simpa using nb)]
    exact q
  · have : z = l := by simpa using hz
    rw [this, h]
    exact ⟨c.dj _ hl, (fun xs z => by cases z), fun o u z => by cases z⟩
theorem EnvD.putL {l : Addr} {vs' : List V} (c : Cur X Φ L H) (g : EnvD X Φ L H σ Γ) (hl : (i, l) ∈ L) (s0 : SameS (hd X Φ L H) (hd X Φ L (upd H l (.lst vs')))) : EnvD X Φ L (upd H l (.lst vs')) σ (Γ.set i .no) := by
  refine ⟨by rw [List.length_set]; exact g.len, fun j s hj => ?_⟩
  by_cases hij : i = j
  · subst hij
    by_cases hi : i < Γ.length
    · rw [List.getElem?_set_self hi] at hj
      cases hj
      trivial
    · rw [List.getElem?_eq_none (by rw [List.length_set]; omega)] at hj
      cases hj
  · rw [List.getElem?_set_ne hij] at hj
    have q := g.ok j s hj
    cases s with
    | no => trivial
    | dat d =>
      obtain ⟨v, h1, h2⟩ := q
      exact ⟨v, h1, h2.mono s0⟩
    | val v => exact q
    | own ds =>
      obtain ⟨l', vs2, h1, h2, h3, h4⟩ := q
      refine ⟨l', vs2, h1, h2, ?_, h4.mono s0⟩
      rw [upd_ne (nd_ne c.nd h2 hl (Ne.symm hij))]
      exact h3
    | tre d =>
      obtain ⟨v, A, h1, h2, h4, h3⟩ := q
      have kb : ∀ b ∈ A, ∀ o, H b = some o → upd H l (.lst vs') b = some o := fun b hb o e => by
        rw [upd_ne (nd_ne c.nd (h2 b hb) hl (Ne.symm hij))]
        exact e
      exact ⟨v, A, h1, h2, fun b hb => (h4 b hb).imp fun _ z => kb b hb _ z, h3.mono (tgv_mono kb s0)⟩
/-- a part of the tree in slot i -/
def EvP (i : Nat) (d : D) (te : TE) (d' : D) : Prop := ∀ A (N : Ads) (H : Hp) (σ : L2.St) v, σ[i]? = some (some v) → Dt (tgv A N H) v d → ∀ Q : VK, (∀ u, Dt (tgv A N H) u d' → Q u H) → te σ H Q
theorem ep_var : EvP i d (tVar i) d := fun A N H σ v h r Q q => ⟨v, h, q v r⟩
theorem tgv_H {A : List Addr} {N : Ads} {H : Hp} {a : Addr} {o : HO} (h : tgv A N H a = some o) : H a = some o := hid_le _ _ (tgv_le _ _ h)
theorem ep_ixL {P : Program} {w : World} {K : PySem.W.Frag} {ds : List D} {k : Int} (h : EvP i d te (.list ds)) (hk : atI ds k = some e) : EvP i d (tOp (rIxU P w K) te (tC (.int k))) e := fun A N H σ v hv r Q q => h A N H σ v hv r _ fun u ru => by
  cases ru with
  | lst h1 h2 =>
    obtain ⟨z, hz, rz⟩ := dts_atI h2 hk
    exact .inl (.inl ⟨_, _, k, z, rfl, rfl, SqL.of (tgv_H h1), hz, q z rz⟩)
theorem ep_ixT {P : Program} {w : World} {K : PySem.W.Frag} {ds : List D} {k : Int} (h : EvP i d te (.tuple ds)) (hk : atI ds k = some e) : EvP i d (tOp (rIxU P w K) te (tC (.int k))) e := fun A N H σ v hv r Q q => h A N H σ v hv r _ fun u ru => by
  cases ru with
  | tup h1 h2 =>
    obtain ⟨z, hz, rz⟩ := dts_atI h2 hk
    exact .inl (.inr (.inl ⟨_, _, k, z, rfl, rfl, SqT.of (tgv_H h1), hz, q z rz⟩))
/-- part.append(e), of a tree of one's own -/
theorem fw_treApp {K : PySem.W.Frag} {tr : TE} {ds : List D} (ht : Γ[i]? = some (.tre d)) (hp : EvP i d tr (.list ds)) (h : Ev X Φ te Γ e) (hz : ds.length < 100000) (n : N (Γ.set i .no) Φ) : FW X (tDrop (tBM K "list" rAppend tr (tCons te tNil))) Γ Φ N R := fun L H σ D c g k r => by
  obtain ⟨v, A, h1, h2, _, h3⟩ := g.ok i _ ht
  refine hp A _ H σ v h1 h3 _ fun u ru => ?_
  cases ru with
  | @lst l vs _ hl hvs =>
    obtain ⟨mA, hl⟩ := tgv_list hl
    refine ⟨.inl ⟨rfl, vs, SqL.of hl⟩, h L H σ c g _ fun x H1 e1 r1 => ?_⟩
    have c1 := c.up e1
    have hl1 := e1 _ _ hl
    obtain ⟨c2, s2⟩ := Cur.putL (vs' := vs ++ [x]) c1 (h2 l mA) hl1
    exact ⟨l, vs, x, rfl, rfl, hl1, by rw [Dts.len hvs]; exact Nat.lt_of_lt_of_le hz (by decide), k _ _ _ _ _ c2 ((Same.s (Same.hid e1)).trans s2) (EnvD.putL c1 (g.up e1) (h2 l mA) s2) n⟩
end
end SE

set_option Elab.async false
set_option linter.all false
set_option maxRecDepth 100000
set_option maxHeartbeats 4000000
/-! The laws' row of numbers, and what is drawn from it; alike; promises. -/
namespace Sp
open PySem L2 SM SR SD SE
/-- a list that nothing may change -/
def SqF (K : PySem.W.Frag) (H : Hp) (b : Addr) (xs : List V) : Prop := (∃ o, H b = some (.frz o (.lst xs))) ∨ ∃ (o : Obj) (its : Array Value) (n : Nat), K.lookup b = some o ∧ o.cls = .type "list" ∧ o.dict = none ∧ o.data = .seq its n ∧ its.size ≤ sizeLine ∧ Vals xs its.toList
theorem SqF.l {K : PySem.W.Frag} {H : Hp} {b : Addr} {xs : List V} (h : SqF K H b xs) : SqL K H b xs := h.elim (fun z => .inl (.inr z)) .inr
theorem SqF.keep {K : PySem.W.Frag} {H H' : Hp} {b : Addr} {xs : List V} (k : ∀ o, H b = some (.frz o (.lst xs)) → H' b = some (.frz o (.lst xs))) (h : SqF K H b xs) : SqF K H' b xs := h.imp (fun ⟨o, z⟩ => ⟨o, k o z⟩) id
def RowAt (K : PySem.W.Frag) (H : Hp) (r scr : Addr) : Prop := ∃ (ns : List Int) (p s c : Int), H r = some (.lst [.ref scr, .int p, .int s, .int c]) ∧ SqF K H scr (ns.map V.int) ∧ 0 ≤ p ∧ 0 ≤ s ∧ s < 2147483647
def ivRow (K : PySem.W.Frag) (r scr : Addr) : Iv := ⟨[r], fun _ H => RowAt K H r scr, fun Z k n _ h => by
  obtain ⟨ns, p, s, c, h1, h2, h3⟩ := h
  exact ⟨ns, p, s, c, k _ _ (fun z => (n _ z).1 (by simp)) h1, h2.keep fun o z => k _ _ (fun y => (n _ y).2.2 _ _ z) z, h3⟩, fun _ _ h => h⟩
/-- a number below n is drawn -/
def sp_law_taken (P : Program) (w : World) (K : PySem.W.Frag) (a : Ad) : Sp := fun vs H Q E => ∃ r scr n, vs = [.ref r, .int n] ∧ 1 ≤ n ∧ n < 1000000000 ∧ RowAt K H r scr ∧ ∀ k H', 0 ≤ k → k < n → But [r] H H' → RowAt K H' r scr → Q (.int k) H'
/-- a def that draws, and what it may come to -/
def SpRow (K : PySem.W.Frag) (f : List D → D → Prop) : Sp := fun vs H Q E => ∃ (M : Ads) (r scr : Addr) (us : List V) (ds : List D), vs = .ref r :: us ∧ Lv M H ∧ r ∈ M ∧ RowAt K H r scr ∧ Dts (hid M H) us ds ∧ (∃ d, f ds d) ∧ ∀ v d H', f ds d → But [r] H H' → RowAt K H' r scr → Dt (hid M H') v d → Q v H'
/-! ### alike -/
def plainD : Nat → D → Bool
  | 0, _ => false
  | n + 1, .tuple ds => decide (ds.length ≤ 10000) && ds.all (plainD n)
  | n + 1, .list ds => decide (ds.length ≤ 10000) && ds.all (plainD n)
  | _ + 1, .dict _ => false
  | _ + 1, .str x => decide (x.length ≤ 10000) && PyData.canLay0 (.str x)
  | _ + 1, _ => true
open Classical in
noncomputable def f_alike (n : Nat) : List D → Option Rs
  | [x, y] => if x = y ∧ plainD n x = true then some (.ok (.bool true)) else none
  | _ => none
noncomputable def sp_alikeN (n : Nat) : Sp := SpP (f_alike n)
/-- the depth that the laws need -/
noncomputable def sp_law_alike (P : Program) (w : World) (K : PySem.W.Frag) (a : Ad) : Sp := sp_alikeN 16
end Sp

set_option Elab.async false
set_option linter.all false
set_option maxRecDepth 100000
set_option maxHeartbeats 4000000
/-! Readings, printed by gen.py: what all laws share. -/
namespace Sp
open PySem L2 SM SR SD SE
def t_law_taken (P : Program) (w : World) (K : PySem.W.Frag) (a : Ad) (E : XK) : TS :=
  (tSeq (tIfS (tTest (tOp rGtI (tOp (rIxU P w K) (tVar 0) (tC (.int 3))) (tC (.int 0)))) (tSeq (tAsg (tOp rModI (tOp (rIxU P w K) (tVar 0) (tC (.int 3))) (tVar 1)) (gName 2)) (tSeq (tAsg (tOp rDivI (tOp (rIxU P w K) (tVar 0) (tC (.int 3))) (tVar 1)) (gSub (tVar 0) (tC (.int 3)) (rSetU P w))) (tRet (tVar 2)))) tNext) (tSeq (tAsg (tOp (rAddU K) (tOp (rIxU P w K) (tVar 0) (tC (.int 1))) (tC (.int 1))) (gSub (tVar 0) (tC (.int 1)) (rSetU P w))) (tSeq (tIfS (tTest (tOp rGtI (tOp (rIxU P w K) (tVar 0) (tC (.int 1))) (tCB (rLenU K) (tCons (tOp (rIxU P w K) (tVar 0) (tC (.int 0))) tNil)))) (tSeq (tAsg (tOp rModI (tOp (rAddU K) (tOp (rMulU K) (tOp (rIxU P w K) (tVar 0) (tC (.int 2))) (tC (.int 48271))) (tC (.int 11))) (tC (.int 2147483647))) (gSub (tVar 0) (tC (.int 2)) (rSetU P w))) (tRet (tOp rModI (tOp rDivI (tOp (rIxU P w K) (tVar 0) (tC (.int 2))) (tC (.int 7))) (tVar 1)))) tNext) (tSeq (tAsg (tOp (rIxU P w K) (tOp (rIxU P w K) (tVar 0) (tC (.int 0))) (tOp rSubI (tOp (rIxU P w K) (tVar 0) (tC (.int 1))) (tC (.int 1)))) (gName 3)) (tSeq (tAsg (tOp rModI (tOp (rAddU K) (tOp (rAddU K) (tOp (rMulU K) (tOp (rIxU P w K) (tVar 0) (tC (.int 2))) (tC (.int 48271))) (tVar 3)) (tC (.int 11))) (tC (.int 2147483647))) (gSub (tVar 0) (tC (.int 2)) (rSetU P w))) (tSeq (tIfS (tTest (tOp rGeI (tVar 3) (tOp rPowI (tC (.int 10)) (tC (.int 18))))) (tAsg (tOp rDivI (tVar 3) (tVar 1)) (gSub (tVar 0) (tC (.int 3)) (rSetU P w))) tNext) (tRet (tOp rModI (tVar 3) (tVar 1)))))))))
abbrev n_law_taken : List Str := ["_law_row", "_law_many", "_law_found", "_law_cell"]
def t_law_alike (P : Program) (w : World) (K : PySem.W.Frag) (a : Ad) (spA : Sp) (E : XK) : TS :=
  (tSeq (tIfS (tOr (tB (tCB (rIsU K) (tCons (tVar 1) (tCons (tC (.ty "tuple")) tNil)))) (tB (tCB (rIsU K) (tCons (tVar 1) (tCons (tC (.ty "list")) tNil))))) (tSeq (tIfS (tOr (tTest (tOp (rNeD K) (tCB (rIsU K) (tCons (tVar 0) (tCons (tC (.ty "tuple")) tNil))) (tCB (rIsU K) (tCons (tVar 1) (tCons (tC (.ty "tuple")) tNil))))) (tNot (tB (tCB (rIsU K) (tCons (tVar 0) (tCons (tTup (tCons (tC (.ty "tuple")) (tCons (tC (.ty "list")) tNil))) tNil)))))) (tRet (tC (.bl false))) tNext) (tSeq (tIfS (tTest (tOp (rNeD K) (tCB (rLenU K) (tCons (tVar 0) tNil)) (tCB (rLenU K) (tCons (tVar 1) tNil)))) (tRet (tC (.bl false))) tNext) (tRet (tOp (rEqD K) (tLc (iRng1 (tCons (tCB (rLenU K) (tCons (tVar 1) tNil)) tNil)) (gName 2) (tNot (tB (tCall spA [] E0 (tCons (tOp (rIxU P w K) (tVar 0) (tVar 2)) (tCons (tOp (rIxU P w K) (tVar 1) (tVar 2)) tNil))))) (tVar 2) [2]) (tLst tNil))))) tNext) (tSeq (tIfS (tOr (tTest (tOp rIsNone (tVar 1) (tC .non))) (tTest (tOp rIsNone (tVar 0) (tC .non)))) (tRet (tAndV (tOp rIsNone (tVar 1) (tC .non)) (tOp rIsNone (tVar 0) (tC .non)))) tNext) (tSeq (tIfS (tOr (tB (tCB (rIsU K) (tCons (tVar 1) (tCons (tC (.ty "bool")) tNil)))) (tB (tCB (rIsU K) (tCons (tVar 0) (tCons (tC (.ty "bool")) tNil))))) (tRet (tAndV (tCB (rIsU K) (tCons (tVar 1) (tCons (tC (.ty "bool")) tNil))) (tAndV (tCB (rIsU K) (tCons (tVar 0) (tCons (tC (.ty "bool")) tNil))) (tOp (rEqD K) (tVar 0) (tVar 1))))) tNext) (tSeq (tIfS (tB (tCB (rIsU K) (tCons (tVar 1) (tCons (tC (.ty "str")) tNil)))) (tRet (tAndV (tCB (rIsU K) (tCons (tVar 0) (tCons (tC (.ty "str")) tNil))) (tOp (rEqD K) (tVar 0) (tVar 1)))) tNext) (tRet (tAndV (tCB (rIsU K) (tCons (tVar 0) (tCons (tC (.ty "int")) tNil))) (tOp (rEqD K) (tVar 0) (tVar 1))))))))
abbrev n_law_alike : List Str := ["_law_found", "_law_due", "_law_k"]
end Sp

set_option Elab.async false
set_option linter.all false
set_option maxRecDepth 100000
set_option maxHeartbeats 4000000
/-! _law_taken, _law_alike. -/
namespace Sp
open PySem L2 SM SR SD SE
section
variable {P : Program} {w : World} {K : PySem.W.Frag} {a : Ad}
theorem sqF_upd {H : Hp} {r scr : Addr} {ns : List Int} {xs : List V} {o : HO} (h1 : H r = some (.lst xs)) (h2 : SqF K H scr (ns.map V.int)) : SqF K (upd H r o) scr (ns.map V.int) := h2.keep fun u z => by
  rw [upd_ne fun y => by rw [y, h1] at z; cases z]
  exact z
theorem rowAt_upd {H : Hp} {r scr : Addr} {ns : List Int} {p s c : Int} {xs : List V} (h1 : H r = some (.lst xs)) (h2 : SqF K H scr (ns.map V.int)) (hp : 0 ≤ p) (hs : 0 ≤ s) (hs2 : s < 2147483647) : RowAt K (upd H r (.lst [.ref scr, .int p, .int s, .int c])) r scr :=
  ⟨ns, p, s, c, upd_same, sqF_upd h1 h2, hp, hs, hs2⟩
theorem but_upd {H : Hp} {r : Addr} {o o' : HO} (h : H r = some o) : But [r] H (upd H r o') := But.upd (by simp)
theorem ix_row {H : Hp} {r : Addr} {xs : List V} {k : Int} {v : V} {Q : VK} (h : H r = some (.lst xs)) (e : L2.atI xs k = some v) (q : Q v H) : rIxU P w K (.ref r) (.int k) H Q := .inl (.inl ⟨r, xs, k, v, rfl, rfl, SqL.of h, e, q⟩)
theorem ix_sq {H : Hp} {r : Addr} {xs : List V} {k : Int} {v : V} {Q : VK} (h : SqL K H r xs) (e : L2.atI xs k = some v) (q : Q v H) : rIxU P w K (.ref r) (.int k) H Q := .inl (.inl ⟨r, xs, k, v, rfl, rfl, h, e, q⟩)
theorem pure_law_taken (vs : List V) (H : Hp) (Q : VK) (E : XK) (h : sp_law_taken P w K a vs H Q E) : t_law_taken P w K a E { nx := fun _ H' => Q .non H', rt := Q } (L2.start n_law_taken vs) H := by
  obtain ⟨r, scr, n, rfl, n1, n2, ⟨ns, p, s, c, h1, h2, hp, hs, hs2⟩, q⟩ := h
  have hd : 0 < n := by omega
  have st : ∀ {G : Hp} {o : HO} {x y : V} {k : Int} {xs : List V} {i : Nat} {R : Hp → Prop}, G r = some (.lst xs) → True := fun _ => trivial
  refine ⟨_, rfl, ix_row h1 rfl ⟨c, 0, rfl, rfl, _, rfl, ?_⟩⟩
  by_cases hc : 0 < c
  · show if decide (0 < c) = true then _ else _
    rw [if_pos (decide_eq_true hc)]
    refine ⟨_, rfl, ix_row h1 rfl ⟨_, rfl, c, n, rfl, rfl, hd, ?_⟩⟩
    refine ⟨_, rfl, ix_row h1 rfl ⟨_, rfl, c, n, rfl, rfl, ⟨hd, by omega⟩, ?_⟩⟩
    refine ⟨_, rfl, .inl ⟨r, _, 3, 3, rfl, rfl, h1, rfl, ?_⟩⟩
    refine ⟨_, rfl, q _ _ (Int.emod_nonneg _ (by omega)) (Int.emod_lt_of_pos _ hd) (But.upd (by simp)) (rowAt_upd h1 h2 hp hs hs2)⟩
  · show if decide (0 < c) = true then _ else _
    rw [if_neg (by simpa using hc)]
    refine ⟨_, rfl, ix_row h1 rfl (.inl ⟨p, 1, rfl, rfl, _, rfl, .inl ⟨r, _, 1, 1, rfl, rfl, h1, rfl, ?_⟩⟩)⟩
    have b1 : But [r] H (upd H r (.lst [.ref scr, .int (p + 1), .int s, .int c])) := But.upd (by simp)
    have g1 : upd H r (.lst [.ref scr, .int (p + 1), .int s, .int c]) r = some (.lst [.ref scr, .int (p + 1), .int s, .int c]) := upd_same
    have g2 : SqF K (upd H r (.lst [.ref scr, .int (p + 1), .int s, .int c])) scr (ns.map V.int) := sqF_upd h1 h2
    show tSeq _ _ _ _ (upd H r (.lst [.ref scr, .int (p + 1), .int s, .int c]))
    generalize upd H r (.lst [.ref scr, .int (p + 1), .int s, .int c]) = H1 at b1 g1 g2
    have hlen : LenV K (.ref scr) H1 (ns.map V.int).length := .inl ⟨_, g2.l, rfl⟩
    have cm : CMul s 48271 := .inr (by decide)
    have hm : (0 : Int) < 2147483647 := by decide
    refine ⟨_, rfl, ix_row g1 rfl ⟨_, rfl, ix_row g1 rfl ⟨_, _, rfl, hlen, p + 1, _, rfl, rfl, _, rfl, ?_⟩⟩⟩
    by_cases hl : ((ns.map V.int).length : Int) < p + 1
    · show if decide _ = true then _ else _
      rw [if_pos (decide_eq_true hl)]
      refine ⟨_, rfl, ix_row g1 rfl (.inl ⟨s, 48271, rfl, rfl, cm, .inl ⟨_, 11, rfl, rfl, _, 2147483647, rfl, rfl, hm, _, rfl, .inl ⟨r, _, 2, 2, rfl, rfl, g1, rfl, ?_⟩⟩⟩)⟩
      refine ⟨_, rfl, ix_row upd_same rfl ⟨_, 7, rfl, rfl, ⟨by decide, by decide⟩, _, rfl, _, n, rfl, rfl, hd, q _ _ (Int.emod_nonneg _ (by omega)) (Int.emod_lt_of_pos _ hd) (b1.trans (But.upd (by simp))) (rowAt_upd g1 g2 (by omega) (Int.emod_nonneg _ (by decide)) (Int.emod_lt_of_pos _ (by decide)))⟩⟩
    · show if decide _ = true then _ else _
      rw [if_neg (by simpa using hl)]
      rw [List.length_map] at hl
      have hpl : p.toNat < ns.length := by omega
      have hat : L2.atI (ns.map V.int) (p + 1 - 1) = some (.int ns[p.toNat]) := by
        have e : p + 1 - 1 = (p.toNat : Nat) := by omega
        rw [e]
        unfold L2.atI ixN
        rw [if_pos (by omega), if_pos (by rw [List.length_map]; omega)]
        show (ns.map V.int)[((p.toNat : Nat) : Int).toNat]? = _
        rw [Int.toNat_natCast]
        simp [hpl]
      refine ⟨_, rfl, ix_row g1 rfl ⟨_, rfl, ix_row g1 rfl ⟨p + 1, 1, rfl, rfl, ix_sq g2.l hat ?_⟩⟩⟩
      generalize ns[p.toNat] = cell
      refine ⟨_, rfl, ix_row g1 rfl (.inl ⟨s, 48271, rfl, rfl, cm, _, rfl, .inl ⟨_, cell, rfl, rfl, .inl ⟨_, 11, rfl, rfl, _, 2147483647, rfl, rfl, hm, _, rfl, .inl ⟨r, _, 2, 2, rfl, rfl, g1, rfl, ?_⟩⟩⟩⟩)⟩
      have b2 : But [r] H1 (upd H1 r (.lst [.ref scr, .int (p + 1), .int ((s * 48271 + cell + 11) % 2147483647), .int c])) := But.upd (by simp)
      have k1 : upd H1 r (.lst [.ref scr, .int (p + 1), .int ((s * 48271 + cell + 11) % 2147483647), .int c]) r = some (.lst [.ref scr, .int (p + 1), .int ((s * 48271 + cell + 11) % 2147483647), .int c]) := upd_same
      have k2 : SqF K (upd H1 r (.lst [.ref scr, .int (p + 1), .int ((s * 48271 + cell + 11) % 2147483647), .int c])) scr (ns.map V.int) := sqF_upd g1 g2
      show tSeq _ _ _ _ (upd H1 r (.lst [.ref scr, .int (p + 1), .int ((s * 48271 + cell + 11) % 2147483647), .int c]))
      generalize upd H1 r (.lst [.ref scr, .int (p + 1), .int ((s * 48271 + cell + 11) % 2147483647), .int c]) = H2 at b2 k1 k2
      have hs3 : 0 ≤ (s * 48271 + cell + 11) % 2147483647 := Int.emod_nonneg _ (by decide)
      have hs4 : (s * 48271 + cell + 11) % 2147483647 < 2147483647 := Int.emod_lt_of_pos _ (by decide)
      generalize (s * 48271 + cell + 11) % 2147483647 = s2 at k1 hs3 hs4
      refine ⟨_, rfl, 10, 18, rfl, rfl, ⟨by decide, by decide, by decide⟩, cell, _, rfl, rfl, _, rfl, ?_⟩
      by_cases hb : (10 : Int) ^ (18 : Int).toNat ≤ cell
      · show if decide _ = true then _ else _
        rw [if_pos (decide_eq_true hb)]
        refine ⟨_, rfl, _, rfl, cell, n, rfl, rfl, ⟨hd, by omega⟩, _, rfl, .inl ⟨r, _, 3, 3, rfl, rfl, k1, rfl, ?_⟩⟩
        exact ⟨_, rfl, _, rfl, cell, n, rfl, rfl, hd, q _ _ (Int.emod_nonneg _ (by omega)) (Int.emod_lt_of_pos _ hd) ((b1.trans b2).trans (But.upd (by simp))) (rowAt_upd k1 k2 (by omega) hs3 hs4)⟩
      · show if decide _ = true then _ else _
        rw [if_neg (by simpa using hb)]
        exact ⟨_, rfl, _, rfl, cell, n, rfl, rfl, hd, q _ _ (Int.emod_nonneg _ (by omega)) (Int.emod_lt_of_pos _ hd) (b1.trans b2) ⟨ns, p + 1, s2, c, k1, k2, by omega, hs3, hs4⟩⟩
/-! ### alike -/
theorem plain_shd : ∀ {n : Nat} {d : D}, plainD n d = true → Shd n d
  | 0, _, h => by cases h
  | n + 1, .tuple ds, h => by
    simp only [plainD, Bool.and_eq_true, List.all_eq_true] at h
    exact shd_tup fun d hd => plain_shd (h.2 d hd)
  | n + 1, .list ds, h => by
    simp only [plainD, Bool.and_eq_true, List.all_eq_true] at h
    exact shd_lst fun d hd => plain_shd (h.2 d hd)
  | n + 1, .str x, h => by
    simp only [plainD, Bool.and_eq_true] at h
    exact ⟨h.2, by simp [PyData.depth]⟩
  | n + 1, .none, _ => shd_non
  | n + 1, .bool _, _ => shd_bl
  | n + 1, .int _, _ => shd_int
theorem eqv_refl {d : D} (h : PyData.canLay0 d = true) : PyData.eqv d d = true := SeqAt.eqv_refl d h
open Classical in
theorem f_alike_of {n : Nat} {x : D} (h : plainD n x = true) : f_alike n [x, x] = some (.ok (.bool true)) := by
  show (if x = x ∧ plainD n x = true then some (Rs.ok (.bool true)) else none) = _
  rw [if_pos ⟨rfl, h⟩]
section
variable {X : Wd} {Φ : Iv} {E : XK} {Γ : Gm} {n : Nat}
theorem seq_alike {N : Gm → Prop} {R : D → Prop} {ds : List D} {d : D} {mk : TE} (hd : d = .tuple ds ∨ d = .list ds) (h : plainD (n + 1) d = true) (hR : R (.bool true)) :
    SW X Φ (tSeq (tIfS (tOr (tTest (tOp (rNeD K) (tCB (rIsU K) (tCons (tVar 0) (tCons (tC (.ty "tuple")) tNil))) (tCB (rIsU K) (tCons (tVar 1) (tCons (tC (.ty "tuple")) tNil))))) (tNot (tB (tCB (rIsU K) (tCons (tVar 0) (tCons (tTup (tCons (tC (.ty "tuple")) (tCons (tC (.ty "list")) tNil))) tNil)))))) (tRet (tC (.bl false))) tNext) (tSeq (tIfS (tTest (tOp (rNeD K) (tCB (rLenU K) (tCons (tVar 0) tNil)) (tCB (rLenU K) (tCons (tVar 1) tNil)))) (tRet (tC (.bl false))) tNext) (tRet (tOp (rEqD K) (tLc (iRng1 (tCons (tCB (rLenU K) (tCons (tVar 1) tNil)) tNil)) (gName 2) (tNot (tB (tCall (sp_alikeN n) [] E0 (tCons (tOp (rIxU P w K) (tVar 0) (tVar 2)) (tCons (tOp (rIxU P w K) (tVar 1) (tVar 2)) tNil))))) (tVar 2) [2]) (tLst tNil))))) [Sl.dat d, Sl.dat d, Sl.no] N R := by
  have hlen : ds.length ≤ 10000 ∧ ∀ x ∈ ds, plainD n x = true := by
    rcases hd with rfl | rfl <;> · simp only [plainD, Bool.and_eq_true, List.all_eq_true, decide_eq_true_eq] at h; exact h
  have hl : Ev X Φ (tCB (rLenU K) (tCons (tVar 1) tNil)) [Sl.dat d, Sl.dat d, Sl.no] (.int ds.length) := by
    rcases hd with rfl | rfl
    · exact ev_cb (ea_cons (ev_var rfl) ea_nil) cb_lenT
    · exact ev_cb (ea_cons (ev_var rfl) ea_nil) cb_lenL
  have hl0 : Ev X Φ (tCB (rLenU K) (tCons (tVar 0) tNil)) [Sl.dat d, Sl.dat d, Sl.no] (.int ds.length) := by
    rcases hd with rfl | rfl
    · exact ev_cb (ea_cons (ev_var rfl) ea_nil) cb_lenT
    · exact ev_cb (ea_cons (ev_var rfl) ea_nil) cb_lenL
  refine sw_then (sw_if (b := false) (et_eq (et_or (et_test (ev_op (ev_isi (ev_var rfl)) (ev_isi (ev_var rfl)) (od_ne (by rfl) (by rfl)))) fun _ => et_not (et_B (ev_isi2 (ev_var rfl)))) ?_) nofun fun _ => sw_next rfl) ?_
  · rcases hd with rfl | rfl <;> simp [isTy, tyD, PyData.eqv]
  refine sw_then (sw_if (b := false) (et_eq (et_test (ev_op hl0 hl (od_ne (by rfl) (by rfl)))) ?_) nofun fun _ => sw_next rfl) ?_
  · rw [eqv_int]
    simp
  refine sw_ret (ev_eq (ev_op (ev_eq (e := .list []) (ev_lc (xs := List.range ds.length) (enc := dInt) (fun _ => false) (fun _ => .none) (ei_eq (ei_range1 (ea_cons hl ea_nil) (by omega) (by omega)) (by simp [rgD])) (by simp; omega) fun k hk => ⟨_, tgw_name, ?_, nofun⟩) ?_) (ev_lst ea_nil (by simp)) (od_eq (by rfl) (by rfl))) ?_) hR
  · have hk : k < ds.length := by simpa using hk
    have hat : L2.atI ds ((k : Nat) : Int) = some ds[k] := by
      rw [atI_nat rfl hk]
      simp [hk]
    refine et_eq (et_not (et_B (ev_callP (f := f_alike n) (ea_cons (ev_op (ev_var rfl) (ev_var rfl) ?_) (ea_cons (ev_op (ev_var rfl) (ev_var rfl) ?_) ea_nil)) (f_alike_of (hlen.2 ds[k] (List.getElem_mem hk)))))) rfl
    · rcases hd with rfl | rfl
      · exact od_ixT hat
      · exact od_ixL hat
    · rcases hd with rfl | rfl
      · exact od_ixT hat
      · exact od_ixL hat
  · rw [List.filter_eq_nil_iff.mpr (by simp)]
    rfl
  · simp [PyData.eqv, PyData.eqvAll]
end
open Classical in
theorem pure_law_alike {n : Nat} (vs : List V) (H : Hp) (Q : VK) (E : XK) (h : sp_alikeN (n + 1) vs H Q E) : t_law_alike P w K a (sp_alikeN n) E { nx := fun _ H' => Q .non H', rt := Q } (L2.start n_law_alike vs) H := by
  obtain ⟨M, ds, lv, r, hr⟩ := h
  match ds, r, hr with
  | [x, y], r, hr =>
    by_cases hc : x = y ∧ plainD (n + 1) x = true
    · obtain ⟨rfl, hpl⟩ := hc
      have hfa := f_alike_of hpl
      refine sw_fin lv At0.nil (env_start At0.nil r (by simp)) ?_ hr
      rw [hfa]
      have hsh := plain_shd hpl
      by_cases hseq : ∃ ds, x = .tuple ds ∨ x = .list ds
      · obtain ⟨ds, hd⟩ := hseq
        refine sw_seq (N1 := fun _ => False) (sw_if (b := true) (et_eq (et_or (b := true) (et_B (ev_isi (ev_var rfl))) fun z => et_eq (et_B (ev_isi (ev_var rfl))) ?_) (by simp)) (fun _ => seq_alike (mk := tC .non) hd hpl rfl) nofun) fun _ z => z.elim
        rcases hd with rfl | rfl
        · simp [isTy, tyD] at z
        · rfl
      · refine sw_then (sw_if (b := false) (et_eq (et_or (et_B (ev_isi (ev_var rfl))) fun _ => et_B (ev_isi (ev_var rfl))) ?_) nofun fun _ => sw_next rfl) ?_
        · cases x <;> simp_all [isTy, tyD]
        cases x with
        | none => exact sw_seq (N1 := fun _ => False) (sw_if (b := true) (et_eq (et_or (b := true) (et_test (ev_op (ev_var rfl) ev_non od_isN)) nofun) rfl) (fun _ => sw_ret (ev_andV (ev_op (ev_var rfl) ev_non od_isN) fun _ => ev_op (ev_var rfl) ev_non od_isN) rfl) nofun) fun _ z => z.elim
        | bool b =>
          refine sw_then (sw_if (b := false) (et_eq (et_or (et_test (ev_op (ev_var rfl) ev_non od_isN)) fun _ => et_test (ev_op (ev_var rfl) ev_non od_isN)) rfl) nofun fun _ => sw_next rfl) ?_
          refine sw_seq (N1 := fun _ => False) (sw_if (b := true) (et_eq (et_or (b := true) (et_B (ev_isi (ev_var rfl))) nofun) rfl) (fun _ => sw_ret (ev_eq (ev_andV (ev_isi (ev_var rfl)) fun _ => ev_andV (ev_isi (ev_var rfl)) fun _ => ev_op (ev_var rfl) (ev_var rfl) (od_eq (by rfl) (by rfl))) ?_) rfl) nofun) fun _ z => z.elim
          rw [eqv_refl hsh.1]
          rfl
        | int i =>
          refine sw_then (sw_if (b := false) (et_eq (et_or (et_test (ev_op (ev_var rfl) ev_non od_isN)) fun _ => et_test (ev_op (ev_var rfl) ev_non od_isN)) rfl) nofun fun _ => sw_next rfl) ?_
          refine sw_then (sw_if (b := false) (et_eq (et_or (et_B (ev_isi (ev_var rfl))) fun _ => et_B (ev_isi (ev_var rfl))) rfl) nofun fun _ => sw_next rfl) ?_
          refine sw_then (sw_if (b := false) (et_eq (et_B (ev_isi (ev_var rfl))) rfl) nofun fun _ => sw_next rfl) ?_
          refine sw_ret (ev_eq (ev_andV (ev_isi (ev_var rfl)) fun _ => ev_op (ev_var rfl) (ev_var rfl) (od_eq (by rfl) (by rfl))) ?_) rfl
          rw [eqv_refl hsh.1]
          rfl
        | str z =>
          have hz : SeqAt.shaped (.str z) = true := Shd.ok (k := 0) ⟨hsh.1, by simp [PyData.depth]⟩
          refine sw_then (sw_if (b := false) (et_eq (et_or (et_test (ev_op (ev_var rfl) ev_non od_isN)) fun _ => et_test (ev_op (ev_var rfl) ev_non od_isN)) rfl) nofun fun _ => sw_next rfl) ?_
          refine sw_then (sw_if (b := false) (et_eq (et_or (et_B (ev_isi (ev_var rfl))) fun _ => et_B (ev_isi (ev_var rfl))) rfl) nofun fun _ => sw_next rfl) ?_
          refine sw_seq (N1 := fun _ => False) (sw_if (b := true) (et_eq (et_B (ev_isi (ev_var rfl))) rfl) (fun _ => sw_ret (ev_eq (ev_andV (ev_isi (ev_var rfl)) fun _ => ev_op (ev_var rfl) (ev_var rfl) (od_eq hz hz)) ?_) rfl) nofun) fun _ z => z.elim
          rw [eqv_refl hsh.1]
          rfl
        | tuple ds => exact absurd ⟨ds, .inl rfl⟩ hseq
        | list ds => exact absurd ⟨ds, .inr rfl⟩ hseq
        | dict ds => simp [plainD] at hpl
    · exfalso
      have : f_alike (n + 1) [x, y] = none := by
        show (if x = y ∧ plainD (n + 1) x = true then some (Rs.ok (.bool true)) else none) = _
        rw [if_neg hc]
      rw [this] at hr
      exact hr
end
end Sp

set_option Elab.async false
set_option linter.all false
set_option maxRecDepth 100000
set_option maxHeartbeats 4000000
/-! Drawing in expressions; shapes, rows. -/
namespace SE
open PySem L2 SM SR SD Sp
section
variable {X : Wd} {Φ Φ2 : Iv} {H H1 H2 H3 : Hp} {L L' : Lo} {σ : L2.St} {Γ Γ' : Gm} {v : V} {d e : D} {i j : Nat} {ta tb te tr tn : TE} {tt tu : TT} {S : D → Iv → Prop} {N : Gm → Iv → Prop} {R : Ro → Iv → Prop} {r scr : Addr} {E : XK} {P : Program} {w : World} {K : PySem.W.Frag} {a : Ad}
/-- Φ holds the row, and lets it be drawn from -/
structure RowOf (K : PySem.W.Frag) (X : Wd) (Φ : Iv) (r scr : Addr) : Prop where
  ir : r ∈ Φ.fp
  at_ : ∀ N G, Φ.p N G → RowAt K G r scr
  chg : ∀ N G G', r ∈ N → Φ.p N G → But [r] G G' → RowAt K G' r scr → Φ.p N G'
  ok : r ∈ X.A ∨ X.H0 r = none
theorem same_r {N : Ads} (m : r ∈ N) (b : But [r] H H2) : SameS (hid N H) (hid N H2) := fun a o h z => by
  obtain ⟨n, h⟩ := hid_some h
  exact (hid_out n).trans (b.keep a o (fun y => n (by rw [show a = r by simpa using y]; exact m)) h)
theorem Cur.row (ro : RowOf K X Φ r scr) (c : Cur X Φ L H) (b : But [r] H H2) (ra : RowAt K H2 r scr) : Cur X Φ L H2 ∧ SameS (hd X Φ L H) (hd X Φ L H2) ∧ Kp L H H2 := by
  have mr : r ∈ hdn X Φ L := Or.inr (Or.inr ro.ir)
  refine ⟨⟨?_, b.lv c.lv, c.new, c.om, c.nd, c.dj, ro.chg _ _ _ mr c.at_ b ra⟩, same_r mr b, fun p hp => ?_⟩
  · refine ⟨fun x o n h => b.keep x o (fun y => ?_) (c.but.keep x o n h), fun x h => b.live x (c.but.live x h)⟩
    have hx : x = r := by simpa using y
    subst hx
    rcases ro.ok with z | z
    · exact n z
    · rw [z] at h
      cases h
  · have hne : p.2 ∉ [r] := fun y => c.dj p hp (by rw [show p.2 = r by simpa using y]; exact ro.ir)
    cases q : H p.2 with
    | none => exact absurd q (c.lv _ (Or.inl (List.mem_map.mpr ⟨p, hp, rfl⟩)))
    | some o => exact b.keep _ _ hne q
theorem eg_taken {n : Int} (ro : RowOf K X Φ r scr) (hv : EvV X Φ tr Γ (.ref r)) (hn : Ev X Φ tn Γ (.int n)) (h1 : 1 ≤ n) (h2 : n < 1000000000) (s : ∀ k : Int, 0 ≤ k → k < n → S (.int k) Φ) : Eg X Φ (tCall (sp_law_taken P w K a) [] E (tCons tr (tCons tn tNil))) Γ S := fun L H σ c g Q q =>
  hv L H σ c g _ fun H1 e1 => hn L H1 σ (c.up e1) (g.up e1) _ fun v H2 e2 rv => by
    have c2 := c.up (e1.trans e2)
    cases rv
    refine ⟨r, scr, n, rfl, h1, h2, ro.at_ _ _ c2.at_, fun k H' k1 k2 b ra => ?_⟩
    obtain ⟨c3, s3, k3⟩ := Cur.row ro c2 b ra
    exact q _ H' _ Φ c3 ((Same.s (Same.hid (e1.trans e2))).trans s3) ((Kp.same c (e1.trans e2)).trans k3) (s k k1 k2) (.int k)
theorem eg_row {f : List D → D → Prop} {ta : TA} {ds : List D} (ro : RowOf K X Φ r scr) (hv : EvV X Φ tr Γ (.ref r)) (ha : EvA X Φ ta Γ ds) (hx : ∃ d, f ds d) (s : ∀ d, f ds d → S d Φ) : Eg X Φ (tCall (SpRow K f) [] E (tCons tr ta)) Γ S := fun L H σ c g Q q =>
  hv L H σ c g _ fun H1 e1 => ha L H1 σ (c.up e1) (g.up e1) _ fun vs H2 e2 rv => by
    have c2 := c.up (e1.trans e2)
    show SpRow K f ((V.ref r :: vs) ++ []) H2 Q E
    rw [List.append_nil]
    refine ⟨hdn X Φ L, r, scr, vs, ds, rfl, c2.lv, Or.inr (Or.inr ro.ir), ro.at_ _ _ c2.at_, rv, hx, fun v d H' fd b ra rd => ?_⟩
    obtain ⟨c3, s3, k3⟩ := Cur.row ro c2 b ra
    exact q v H' d Φ c3 ((Same.s (Same.hid (e1.trans e2))).trans s3) ((Kp.same c (e1.trans e2)).trans k3) (s d fd) rd
theorem rowOf_one {A : List Addr} {M : Ads} (h : r ∈ A) : RowOf K ⟨A, M, H⟩ (ivRow K r scr) r scr := ⟨by simp [ivRow], fun N G p => p, fun N G G' _ _ _ ra => ra, .inl h⟩
/-- from the walk to the reading, a def that draws -/
theorem fw_finRow {t : TS} {Ns : List Str} {vs : List V} {ds : List D} {f : List D → D → Prop} {Q : VK} (h : SpRow K f vs H Q E) (hs : ∀ (M : Ads) (r scr : Addr) (us : List V) ds, vs = .ref r :: us → Dts (hid M H) us ds → (∃ d, f ds d) → At0 (ivRow K r scr) M H → RowOf K ⟨[r], M, H⟩ (ivRow K r scr) r scr →
    ∃ Γ, EnvD ⟨[r], M, H⟩ (ivRow K r scr) [] H (L2.start Ns vs) Γ ∧ FW ⟨[r], M, H⟩ t Γ (ivRow K r scr) (fun _ _ => False) (fun ro Φ' => Φ' = ivRow K r scr ∧ ∃ d, ro = .dat d ∧ f ds d)) :
    t { nx := fun _ H' => Q .non H', rt := Q } (L2.start Ns vs) H := by
  obtain ⟨M, r, scr, us, ds, e, lv, mr, ra, rv, hx, q⟩ := h
  have h0 : At0 (ivRow K r scr) M H := by
    refine ⟨fun b hb => ?_, fun b o h z => ?_, ra⟩
    · obtain ⟨ns, p, s, c, a1, a2, _⟩ := ra
      have hb : b = r := by simpa [ivRow] using hb
      rw [hb, a1]
      nofun
    · obtain ⟨m, h⟩ := hid_some h
      refine (hid_out ?_).trans h
      rintro (y | y)
      · exact m y
      · have hb : b = r := by simpa [ivRow] using y
        exact m (by rw [hb]; exact mr)
  obtain ⟨Γ, g, hf⟩ := hs M r scr us ds e rv hx h0 (rowOf_one (by simp))
  refine hf [] H _ _ (h0.cur lv) g (fun _ _ _ _ _ _ _ _ z => z.elim) fun v ro H' Φ' b hp rd ed => ?_
  obtain ⟨rfl, d, rfl, fd⟩ := ed
  exact q v d H' fd b hp (Dt.mono (Same.s (hid_sub fun a ha => Or.inl ha)) rd)
/-- x, y, z = ([], .., ..) -/
theorem fg_par3own {l : Nat} {t1 t2 : TE} (hij : i ≠ j) (hil : i ≠ l) (h : Eg X Φ t1 Γ fun d1 Φ1 => Eg X Φ1 t2 Γ fun d2 Φ2 => N (((Γ.set i (.own [])).set j (.dat d1)).set l (.dat d2)) Φ2) : FW X (tPar3 i j l (tCons (tLst tNil) (tCons t1 (tCons t2 tNil)))) Γ Φ N R := fun L H σ D c g k r => by
  refine ⟨by decide, fun p hp => ?_⟩
  obtain ⟨c1, s1, _⟩ := own_new (i := i) (vs := []) (ds := []) c g hp .nil
  have sm := new_same (o := .lst []) hp
  have g1 : EnvD X Φ ((i, p) :: L) (upd H p (.lst [])) σ Γ := g.grow (fun q hq => List.mem_cons_of_mem _ hq) sm s1
  refine h _ _ σ c1 g1 _ fun v1 H2 d1 Φ2 c2 s2 k2 x2 r2 => x2 _ H2 σ c2 (g1.kp s2 k2) _ fun v2 H3 d2 Φ3 c3 s3 k3 x3 r3 => ?_
  have hp3 : H3 p = some (.lst []) := by
    rw [k3 (i, p) List.mem_cons_self, k2 (i, p) List.mem_cons_self]
    exact upd_same
  have g3 := (g1.kp s2 k2).kp s3 k3
  exact ⟨_, _, _, rfl, k _ H3 _ _ Φ3 c3 ((s1.trans s2).trans s3) ((((g3.set (i := i) (v := .ref p) (s := .own []) ⟨p, [], rfl, List.mem_cons_self, hp3, .nil⟩).dat (i := j) (r2.mono s3))).dat (i := l) r3) x3⟩
theorem fg_par2 {t1 t2 : TE} (h : Eg X Φ t1 Γ fun d1 Φ1 => Eg X Φ1 t2 Γ fun d2 Φ2 => N ((Γ.set i (.dat d1)).set j (.dat d2)) Φ2) : FW X (tPar i j (tCons t1 (tCons t2 tNil))) Γ Φ N R := fun L H σ D c g k r =>
  h L H σ c g _ fun v1 H2 d1 Φ2 c2 s2 k2 x2 r2 => x2 L H2 σ c2 (g.kp s2 k2) _ fun v2 H3 d2 Φ3 c3 s3 k3 x3 r3 =>
    ⟨_, _, rfl, k L H3 _ _ Φ3 c3 (s2.trans s3) ((((g.kp s2 k2).kp s3 k3).dat (i := i) (r2.mono s3)).dat (i := j) r3) x3⟩
end
end SE
namespace Sp
open PySem L2 SM SR SD SE
def shapeD (room fill spare : Nat) : D := .tuple [dInt room, dInt fill, dInt spare]
def f_shape : List D → D → Prop := fun ds d => ds = [] ∧ ∃ room fill spare : Nat, 1 ≤ fill ∧ fill ≤ room ∧ room ≤ 4 ∧ spare ≤ 20 ∧ d = shapeD room fill spare
def sp_law_shape (P : Program) (w : World) (K : PySem.W.Frag) (a : Ad) : Sp := SpRow K f_shape
def f_rowsL : List D → D → Prop := fun ds d => ∃ most : Nat, most ≤ 40 ∧ ds = [dInt most] ∧ ∃ rs : List Row, rs.length ≤ most ∧ RowsOk rs ∧ d = dList rs
def sp_law_rows (P : Program) (w : World) (K : PySem.W.Frag) (a : Ad) : Sp := SpRow K f_rowsL
end Sp

set_option Elab.async false
set_option linter.all false
set_option maxRecDepth 100000
set_option maxHeartbeats 4000000
/-! Readings, printed by gen.py. -/
namespace Sp
open PySem L2 SM SR SD SE
def t_law_shape (P : Program) (w : World) (K : PySem.W.Frag) (a : Ad) (E : XK) : TS :=
  (tSeq (tAsg (tOp (rAddU K) (tC (.int 1)) (tCall (sp_law_taken P w K a) [] E (tCons (tVar 0) (tCons (tC (.int 4)) tNil)))) (gName 1)) (tRet (tTup (tCons (tVar 1) (tCons (tOp (rAddU K) (tC (.int 1)) (tCall (sp_law_taken P w K a) [] E (tCons (tVar 0) (tCons (tVar 1) tNil)))) (tCons (tOp (rIxU P w K) (tLst (tCons (tCall (sp_law_taken P w K a) [] E (tCons (tVar 0) (tCons (tC (.int 4)) tNil))) (tCons (tC (.int 20)) (tCons (tCall (sp_law_taken P w K a) [] E (tCons (tVar 0) (tCons (tC (.int 21)) tNil))) tNil)))) (tCall (sp_law_taken P w K a) [] E (tCons (tVar 0) (tCons (tC (.int 3)) tNil)))) tNil))))))
abbrev n_law_shape : List Str := ["_law_row", "_law_room"]
def t_law_rows (P : Program) (w : World) (K : PySem.W.Frag) (a : Ad) (E : XK) : TS :=
  (tSeq (tPar3 2 3 4 (tCons (tLst tNil) (tCons (tOp rSubI (tC (.int 0)) (tC (.int 1))) (tCons (tOp (rIxU P w K) (tLst (tCons (tC (.int 2)) (tCons (tC (.int 5)) (tCons (tC (.int 24)) tNil)))) (tCall (sp_law_taken P w K a) [] E (tCons (tVar 0) (tCons (tC (.int 3)) tNil)))) tNil)))) (tSeq (tFor (iRng1 (tCons (tCall (sp_law_taken P w K a) [] E (tCons (tVar 0) (tCons (tOp (rAddU K) (tVar 1) (tC (.int 1))) tNil))) tNil)) (gName 5) (tSeq (tAsg (tOp (rAddU K) (tOp (rAddU K) (tVar 3) (tC (.int 1))) (tCall (sp_law_taken P w K a) [] E (tCons (tVar 0) (tCons (tVar 4) tNil)))) (gName 3)) (tDrop (tBM K "list" rAppend (tVar 2) (tCons (tTup (tCons (tVar 3) (tCons (tCall (sp_law_taken P w K a) [] E (tCons (tVar 0) (tCons (tC (.int 1000)) tNil))) tNil))) tNil))))) (tRet (tVar 2))))
abbrev n_law_rows : List Str := ["_law_row", "_law_most", "_law_found", "_law_key", "_law_step", "_law_k"]
end Sp

set_option Elab.async false
set_option linter.all false
set_option maxRecDepth 100000
set_option maxHeartbeats 4000000
/-! _law_shape, _law_rows. -/
namespace Sp
open PySem L2 SM SR SD SE
section
variable {P : Program} {w : World} {K : PySem.W.Frag} {a : Ad}
theorem three {k : Int} (h0 : 0 ≤ k) (h1 : k < 3) : k = 0 ∨ k = 1 ∨ k = 2 := by omega
theorem pure_law_shape (vs : List V) (H : Hp) (Q : VK) (E : XK) (h : sp_law_shape P w K a vs H Q E) : t_law_shape P w K a E { nx := fun _ H' => Q .non H', rt := Q } (L2.start n_law_shape vs) H := by
  refine fw_finRow (ds := []) h fun M r scr us ds e rv hx h0 ro => ?_
  obtain ⟨d0, rfl, _⟩ := hx
  cases rv
  subst e
  refine ⟨_, env_startO h0 .nil (by simp), ?_⟩
  have hv : ∀ {s1 : Sl}, EvV ⟨[r], M, H⟩ (ivRow K r scr) (tVar 0) [Sl.val (.ref r), s1] (.ref r) := evv_var rfl
  refine fw_seq (N1 := fun Γ Φ => Φ = ivRow K r scr ∧ ∃ room : Nat, 1 ≤ room ∧ room ≤ 4 ∧ Γ = [Sl.val (.ref r), Sl.dat (dInt room)]) (fg_asg (eg_op (eg_of (ev_int 1) (eg_taken (n := 4) ro (evv_var rfl) (ev_int 4) (by decide) (by decide) fun k k0 k1 => ⟨_, od_addI, rfl, (1 + k).toNat, by omega, by omega, ?_⟩)))) ?_
  · show [Sl.val (.ref r), Sl.dat (.int (1 + k))] = [Sl.val (.ref r), Sl.dat (.int ((1 + k).toNat : Nat))]
    rw [Int.toNat_of_nonneg (by omega)]
  · rintro Γ Φ ⟨rfl, room, r1, r2, rfl⟩
    refine fg_ret (eg_tup (ega_cons (eg_of (ev_var rfl) (ega_cons (eg_op (eg_of (ev_int 1) (eg_taken (n := (room : Nat)) ro (evv_var rfl) (ev_var rfl) (by omega) (by omega) fun k k0 k1 => ⟨_, od_addI, ega_cons (eg_op (eg_lst (ega_cons (eg_taken (n := 4) ro (evv_var rfl) (ev_int 4) (by decide) (by decide) fun a1 a2 a3 => ega_cons (eg_of (ev_int 20) (ega_cons (eg_taken (n := 21) ro (evv_var rfl) (ev_int 21) (by decide) (by decide) fun b1 b2 b3 => ega_nil ⟨by simp, eg_taken (n := 3) ro (evv_var rfl) (ev_int 3) (by decide) (by decide) fun j j0 j1 => ?_⟩)))))) )⟩)))))))
    have fin : ∀ s : Int, 0 ≤ s → s ≤ 20 → EgA ⟨[r], M, H⟩ (ivRow K r scr) tNil [Sl.val (.ref r), Sl.dat (dInt room)] fun ds Φ2 => (dInt room :: (.int (1 + k)) :: .int s :: ds).length ≤ 100000 ∧ (Φ2 = ivRow K r scr ∧ ∃ d, Ro.dat (.tuple (dInt room :: (.int (1 + k)) :: .int s :: ds)) = .dat d ∧ f_shape [] d) := fun s s0 s1 =>
      ega_nil ⟨by simp, rfl, _, rfl, rfl, room, (1 + k).toNat, s.toNat, by omega, by omega, r2, by omega, by
        show PyData.tuple [dInt room, .int (1 + k), .int s] = PyData.tuple [dInt room, .int ((1 + k).toNat : Nat), .int (s.toNat : Nat)]
        rw [Int.toNat_of_nonneg (show 0 ≤ 1 + k by omega), Int.toNat_of_nonneg s0]⟩
    rcases three j0 j1 with rfl | rfl | rfl
    · exact ⟨_, od_ixL rfl, fin a1 a2 (by omega)⟩
    · exact ⟨_, od_ixL rfl, fin 20 (by decide) (by decide)⟩
    · exact ⟨_, od_ixL rfl, fin b1 b2 (by omega)⟩
theorem pure_law_rows (vs : List V) (H : Hp) (Q : VK) (E : XK) (h : sp_law_rows P w K a vs H Q E) : t_law_rows P w K a E { nx := fun _ H' => Q .non H', rt := Q } (L2.start n_law_rows vs) H := by
  refine fw_finRow (ds := []) h fun M r scr us ds e rv hx h0 ro => ?_
  obtain ⟨d0, most, hm, rfl, _⟩ := hx
  subst e
  refine ⟨_, env_startO h0 rv (by simp), ?_⟩
  -- the rows so far, the key ahead
  have inv0 : True := trivial
  refine fw_seq (N1 := fun Γ Φ => Φ = ivRow K r scr ∧ ∃ step : Int, 1 ≤ step ∧ step ≤ 24 ∧ Γ = [Sl.val (.ref r), Sl.dat (dInt most), Sl.own [], Sl.dat (.int (-1)), Sl.dat (.int step), Sl.no]) (fg_par3own (by decide) (by decide) (eg_of (ev_op (ev_int 0) (ev_int 1) od_subI) (eg_op (eg_of (ev_lst (ea_cons (ev_int 2) (ea_cons (ev_int 5) (ea_cons (ev_int 24) ea_nil))) (by simp)) (eg_taken (n := 3) ro (evv_var rfl) (ev_int 3) (by decide) (by decide) fun j j0 j1 => ?_))))) ?_
  · rcases three j0 j1 with rfl | rfl | rfl
    · exact ⟨_, od_ixL rfl, rfl, 2, by decide, by decide, rfl⟩
    · exact ⟨_, od_ixL rfl, rfl, 5, by decide, by decide, rfl⟩
    · exact ⟨_, od_ixL rfl, rfl, 24, by decide, by decide, rfl⟩
  · rintro Γ Φ ⟨rfl, step, s1, s2, rfl⟩
    refine fw_seq (N1 := fun Γ Φ => Φ = ivRow K r scr ∧ ∃ (rs : List Row) (s3 s5 : Sl), rs.length ≤ most ∧ RowsOk rs ∧ Γ = [Sl.val (.ref r), Sl.dat (dInt most), Sl.own (rs.map dRow), s3, Sl.dat (.int step), s5])
      (fg_for (fun ds k Γ Φ => ds.length ≤ most ∧ Φ = ivRow K r scr ∧ ∃ (rs : List Row) (key : Int) (s5 : Sl), rs.length = k ∧ RowsOk rs ∧ (∀ x ∈ rs, x.1 ≤ key) ∧ -1 ≤ key ∧ key ≤ -1 + 24 * k ∧ Γ = [Sl.val (.ref r), Sl.dat (dInt most), Sl.own (rs.map dRow), Sl.dat (.int key), Sl.dat (.int step), s5])
        (egi_range1 (ega_cons (eg_taken (n := (most : Nat) + 1) ro (evv_var rfl) (ev_op (ev_var rfl) (ev_int 1) od_addI) (by omega) (by omega) fun k k0 k1 => ega_nil ⟨k, rfl, by omega, by omega, by simp [rgD]; omega, rfl, [], -1, _, rfl, ⟨.nil, nofun⟩, nofun, by omega, by omega, rfl⟩))) (fun ds k d Γ1 Φ1 hk hI => ?_) fun ds Γ1 Φ1 hI => ?_) ?_
    · obtain ⟨hl, rfl, rs, key, s5, h1, h2, h3, h4, h5, rfl⟩ := hI
      have hkl : k < ds.length := (List.getElem?_eq_some_iff.mp hk).1
      refine ⟨_, tg_name, fw_seq (N1 := fun Γ Φ => Φ = ivRow K r scr ∧ ∃ key2 : Int, key < key2 ∧ key2 ≤ key + 24 ∧ Γ = [Sl.val (.ref r), Sl.dat (dInt most), Sl.own (rs.map dRow), Sl.dat (.int key2), Sl.dat (.int step), Sl.dat d]) (fg_asg (eg_op (eg_of (ev_op (ev_var rfl) (ev_int 1) od_addI) (eg_taken (n := step) ro (evv_var rfl) (ev_var rfl) (by omega) (by omega) fun t t0 t1 => ⟨_, od_addI, rfl, key + 1 + t, by omega, by omega, rfl⟩)))) ?_⟩
      rintro Γ2 Φ2 ⟨rfl, key2, q1, q2, rfl⟩
      refine fg_app (ds := rs.map dRow) rfl (by simp; omega) (eg_tup (ega_cons (eg_of (ev_var rfl) (ega_cons (eg_taken (n := 1000) ro (evv_var rfl) (ev_int 1000) (by decide) (by decide) fun t t0 t1 => ega_nil ⟨by simp, hl, rfl, rs ++ [(key2, t)], key2, _, by simp [h1], ⟨?_, ?_⟩, ?_, by omega, by push_cast; omega, by simp; rfl⟩)))))
      · refine List.pairwise_append.mpr ⟨h2.rise, by simp, fun x hx y hy => ?_⟩
        rw [List.mem_singleton.mp hy]
        have := h3 x hx
        show x.1 < key2
        omega
      · intro x hx
        rcases List.mem_append.mp hx with hx | hx
        · exact h2.num x hx
        · rw [List.mem_singleton.mp hx]
          refine ⟨?_, ?_, t0, ?_⟩
          · show 0 ≤ key2
            omega
          · show key2 ≤ 999
            omega
          · show t ≤ 999
            omega
      · intro x hx
        rcases List.mem_append.mp hx with hx | hx
        · have := h3 x hx
          omega
        · rw [List.mem_singleton.mp hx]
          exact Int.le_refl _
    · obtain ⟨hl, rfl, rs, key, s5, h1, h2, h3, h4, h5, rfl⟩ := hI
      exact ⟨rfl, rs, _, s5, by omega, h2, rfl⟩
    · rintro Γ Φ ⟨rfl, rs, s3, s5, h1, h2, rfl⟩
      exact fw_retOwn rfl ⟨rfl, _, rfl, most, hm, rfl, rs, h1, h2, rfl⟩
end
end Sp

set_option Elab.async false
set_option linter.all false
set_option maxRecDepth 100000
set_option maxHeartbeats 4000000
/-! New trees; the laws' own file. -/
namespace SE
open PySem L2 SM SR SD Sp
section
variable {X : Wd} {Φ Φ2 : Iv} {H H1 H2 H3 : Hp} {L L' : Lo} {σ : L2.St} {Γ Γ' : Gm} {v : V} {d e : D} {i j : Nat} {ta tb te tr tn : TE} {tt tu : TT} {N : Gm → Iv → Prop} {R : Ro → Iv → Prop} {E : XK}
/-- a worth whose lists are all new -/
def EvF (X : Wd) (Φ : Iv) (te : TE) (Γ : Gm) (d : D) : Prop := ∀ L H σ, Cur X Φ L H → EnvD X Φ L H σ Γ → ∀ Q : VK, (∀ v A H2, Same H H2 → A.Nodup → (∀ l ∈ A, H l = none) → Dt (tgv A (hdn X Φ L) H2) v d → Q v H2) → te σ H Q
def EvFA (X : Wd) (Φ : Iv) (ta : TA) (Γ : Gm) (ds : List D) : Prop := ∀ L H σ, Cur X Φ L H → EnvD X Φ L H σ Γ → ∀ Q : List V → Hp → Prop, (∀ vs A H2, Same H H2 → A.Nodup → (∀ l ∈ A, H l = none ∧ H2 l ≠ none) → Dts (tgv A (hdn X Φ L) H2) vs ds → Q vs H2) → ta σ H Q
theorem tgv_tup {A : List Addr} {M N : Ads} (s : ∀ a ∈ N, a ∈ M) : ∀ a xs, hid M H a = some (.tup xs) → tgv A N H a = some (.tup xs) := fun a xs h => by
  obtain ⟨m, h⟩ := hid_some h
  unfold tgv
  by_cases q : a ∈ A
  · rw [if_pos q]
    exact h
  · rw [if_neg q, if_neg fun z => m (s a z), h]
    rfl
theorem tgv_sub {A B : List Addr} {N : Ads} (s : ∀ a ∈ A, a ∈ B) : SameS (tgv A N H) (tgv B N H) := fun a o h z => by
  unfold tgv at *
  by_cases q : a ∈ B
  · rw [if_pos q]
    by_cases m : a ∈ A
    · rw [if_pos m] at h
      exact h
    · rw [if_neg m] at h
      by_cases n : a ∈ N
      · rw [if_pos n] at h
        cases h
      · rw [if_neg n] at h
        cases q : H a with
        | none =>
          rw [q] at h
          cases h
        | some u =>
          rw [q] at h
          cases u <;> first | exact h | cases h
  · rw [if_neg fun m => q (s a m)] at h
    rw [if_neg q]
    exact h
theorem dts_nol {A : List Addr} {M N : Ads} {vs : List V} {ds : List D} (s : ∀ a ∈ N, a ∈ M) (r : Dts (hid M H) vs ds) (h : ∀ d ∈ ds, noL d = true) : Dts (tgv A N H) vs ds := by
  induction r with
  | nil => exact .nil
  | cons r t ih => exact .cons (r.nol (tgv_tup s) (h _ List.mem_cons_self)) (ih fun d hd => h d (List.mem_cons_of_mem _ hd))
theorem ef_of (h : Ev X Φ te Γ d) (n : noL d = true) : EvF X Φ te Γ d := fun L H σ c g Q q => h L H σ c g Q fun v H2 e r => q v [] H2 e List.nodup_nil nofun (r.nol (tgv_tup fun _ z => z) n)
theorem ev_of_F (h : EvF X Φ te Γ d) : Ev X Φ te Γ d := fun L H σ c g Q q => h L H σ c g Q fun v A H2 e nd hA r => q v H2 e ((r.mono (Same.s tgv_le)).mono (Same.s (hid_sub fun a m => And.intro m fun z => by
  have := c.lv a m
  exact this (hA a z))))
theorem efa_nil : EvFA X Φ tNil Γ [] := fun L H σ c g Q q => q [] [] H (Same.refl H) List.nodup_nil nofun .nil
theorem efa_cons {tr : TA} {ds : List D} (h : EvF X Φ te Γ d) (hr : EvFA X Φ tr Γ ds) : EvFA X Φ (tCons te tr) Γ (d :: ds) := fun L H σ c g Q q =>
  h L H σ c g _ fun v A H1 e1 nd1 hA1 r1 => hr L H1 σ (c.up e1) (g.up e1) _ fun vs B H2 e2 nd2 hB r2 => by
    have lv : ∀ l ∈ A.filter (fun l => (H1 l).isSome), H1 l ≠ none := fun l hl z => by
      have := (List.mem_filter.mp hl).2
      rw [z] at this
      cases this
    refine q (v :: vs) (A.filter (fun l => (H1 l).isSome) ++ B) H2 (e1.trans e2) ?_ (fun l hl => ?_) (.cons ?_ (Dts.mono (tgv_sub fun a m => List.mem_append_right _ m) r2))
    · refine List.nodup_append.mpr ⟨nd1.sublist List.filter_sublist, nd2, fun x hx y hy z => ?_⟩
      subst z
      exact lv x hx (hB x hy).1
    · rcases List.mem_append.mp hl with hl | hl
      · refine ⟨hA1 l (List.mem_filter.mp hl).1, ?_⟩
        cases q : H1 l with
        | none => exact absurd q (lv l hl)
        | some o =>
          rw [e2 l o q]
          nofun
      · exact ⟨e1.free (hB l hl).1, (hB l hl).2⟩
    · have s1 : SameS (tgv A (hdn X Φ L) H1) (tgv (A.filter fun l => (H1 l).isSome) (hdn X Φ L) H1) := fun a o h z => by
        unfold tgv at *
        by_cases m : a ∈ A
        · rw [if_pos m] at h
          rw [if_pos (List.mem_filter.mpr ⟨m, by rw [h]; rfl⟩)]
          exact h
        · rw [if_neg m] at h
          rw [if_neg fun y => m (List.mem_filter.mp y).1]
          exact h
      exact ((r1.mono s1).mono (tgv_mono (fun l _ o h => e2 l o h) (Same.s (Same.hid e2)))).mono (tgv_sub fun a m => List.mem_append_left _ m)
theorem ef_tup {ta : TA} {ds : List D} (h : EvFA X Φ ta Γ ds) (hl : ds.length ≤ 100000) : EvF X Φ (tTup ta) Γ (.tuple ds) := fun L H σ c g Q q =>
  h L H σ c g _ fun vs A H1 e1 nd hA r1 => ⟨by rw [Dts.len r1]; exact Nat.le_trans hl (by decide), fun p hp => by
    have cc := (c.up e1).lv
    have hp2 : p ∉ A := fun z => (hA p z).2 hp
    refine q _ A _ (e1.trans (new_same hp)) nd (fun l hl => (hA l hl).1) (.tup ?_ (Dts.mono (tgv_mono (fun l _ o h => new_same hp l o h) (Same.s (Same.hid (new_same hp)))) r1))
    unfold tgv
    rw [if_neg hp2, if_neg (cc.out hp), upd_same]
    rfl⟩
theorem ef_lst {ta : TA} {ds : List D} (h : EvFA X Φ ta Γ ds) (hl : ds.length ≤ 100000) : EvF X Φ (tLst ta) Γ (.list ds) := fun L H σ c g Q q =>
  h L H σ c g _ fun vs A H1 e1 nd hA r1 => ⟨by rw [Dts.len r1]; exact Nat.le_trans hl (by decide), fun p hp => by
    have hp2 : p ∉ A := fun z => (hA p z).2 hp
    refine q _ (p :: A) _ (e1.trans (new_same hp)) (List.nodup_cons.mpr ⟨hp2, nd⟩) (fun l hl => ?_) (.lst ?_ (Dts.mono (tgv_sub fun a m => List.mem_cons_of_mem _ m) (Dts.mono (tgv_mono (fun l _ o h => new_same hp l o h) (Same.s (Same.hid (new_same hp)))) r1)))
    · rcases List.mem_cons.mp hl with rfl | hl
      · exact e1.free hp
      · exact (hA l hl).1
    · unfold tgv
      rw [if_pos List.mem_cons_self, upd_same]⟩
theorem ef_lc {α : Type} {wi : TI} {gt : TG} {vs : List Nat} {xs : List α} {enc : α → D} (p : α → Bool) (f : α → D) (hi : EvI X Φ wi Γ (xs.map enc)) (hz : xs.length < 100000)
    (hs : ∀ x ∈ xs, ∃ Γ2, TgW X Φ gt vs (enc x) (wipeG Γ vs) Γ2 ∧ EvT X Φ tt Γ2 (p x) ∧ (p x = true → Ev X Φ te Γ2 (f x))) (hn : ∀ x ∈ xs, noL (f x) = true) : EvF X Φ (tLc wi gt tt te vs) Γ (.list ((xs.filter p).map f)) := fun L H σ c gg Q q =>
  ev_lc0 p f hi hz hs L H σ c gg Q fun D us H1 e n nD h r => q _ [D] H1 e (by simp) (fun l hl => by rw [List.mem_singleton.mp hl]; exact n) (.lst (by unfold tgv; rw [if_pos (List.mem_singleton.mpr rfl)]; exact h) (dts_nol (fun a ha => mem_cons_hdn.mpr (.inr ha)) r fun d hd => by
    obtain ⟨x, hx, rfl⟩ := List.mem_map.mp hd
    exact hn x (List.mem_filter.mp hx).1))
theorem ef_lcm {α : Type} {wi : TI} {gt : TG} {vs : List Nat} {xs : List α} {enc : α → D} (f : α → D) (hi : EvI X Φ wi Γ (xs.map enc)) (hz : xs.length < 100000)
    (hs : ∀ x ∈ xs, ∃ Γ2, TgW X Φ gt vs (enc x) (wipeG Γ vs) Γ2 ∧ Ev X Φ te Γ2 (f x)) (hn : ∀ x ∈ xs, noL (f x) = true) : EvF X Φ (tLc wi gt tYes te vs) Γ (.list (xs.map f)) := by
  have h := ef_lc (tt := tYes) (p := fun _ => true) f hi hz (fun x hx => by
    obtain ⟨Γ2, h1, h2⟩ := hs x hx
    exact ⟨Γ2, h1, et_yes, fun _ => h2⟩) hn
  rwa [List.filter_eq_self.mpr fun _ _ => rfl] at h
theorem ef_eq (h : EvF X Φ te Γ d) (e' : d = e) : EvF X Φ te Γ e := e' ▸ h
theorem fw_retF (h : EvF X Φ te Γ d) (hr : R (.fr X.H0 d) Φ) : FW X (tRet te) Γ Φ N R := fun L H σ D c g k r =>
  h L H σ c g _ fun v A H1 e1 nd hA rd => r v (.fr X.H0 d) H1 Φ (c.up e1).but (c.up e1).end_ ⟨A, nd, fun l hl => c.but.free (hA l hl), rd.mono fun a o h z => by
    unfold tgv at *
    by_cases m : a ∈ A
    · rw [if_pos m] at h ⊢
      exact h
    · rw [if_neg m] at h ⊢
      by_cases n : a ∈ hdn X Φ L
      · rw [if_pos n] at h
        cases h
      · rw [if_neg n] at h
        rw [if_neg fun y => n (Or.inr y)]
        exact h⟩ hr
end
end SE
namespace Sp
open PySem L2 SM SR SD SE
/-- a def that writes nothing, and tells new lists only -/
def SpF (f : List D → Option D) : Sp := fun vs H Q E => ∃ M ds, Lv M H ∧ Dts (hid M H) vs ds ∧ ∃ d, f ds = some d ∧ ∀ v A H', Same H H' → A.Nodup → (∀ l ∈ A, H l = none) → Dt (tgv A M H') v d → Q v H'
section
variable {X : Wd} {Φ : Iv} {M : Ads} {H : Hp} {Γ : Gm} {E : XK} {ta : TA} {ds : List D} {d : D} {Q : VK}
theorem ef_callF {f : List D → Option D} (h : EvA X Φ ta Γ ds) (e : f ds = some d) : EvF X Φ (tCall (SpF f) [] E ta) Γ d := fun L H σ c g Q q => h L H σ c g _ fun vs H1 e1 r => by
  rw [List.append_nil]
  exact ⟨hdn X Φ L, ds, (c.up e1).lv, r, d, e, fun v A H' e2 nd hA rd => q v A H' (e1.trans e2) nd (fun l hl => e1.free (hA l hl)) rd⟩
theorem sf_fin {t : TS} {Ns : List Str} {vs : List V} (lv : Lv M H) (g : EnvD (wd M H) Iv.nil [] H (L2.start Ns vs) Γ) (hs : FW (wd M H) t Γ Iv.nil (fun _ _ => False) (fun ro Φ' => Φ' = Iv.nil ∧ ro = .fr H d)) (hq : ∀ v A H', Same H H' → A.Nodup → (∀ l ∈ A, H l = none) → Dt (tgv A M H') v d → Q v H') :
    t { nx := fun _ H' => Q .non H', rt := Q } (L2.start Ns vs) H := by
  refine hs [] H (L2.start Ns vs) _ (At0.nil.cur lv) g (fun _ _ _ _ _ _ _ _ z => z.elim) fun v ro H' Φ' b hp rd ed => ?_
  obtain ⟨rfl, rfl⟩ := ed
  obtain ⟨A, nd, hA, rd⟩ := rd
  refine hq v A H' b.same nd hA (rd.mono fun a o h z => ?_)
  unfold tgv at *
  by_cases m : a ∈ A
  · rw [if_pos m] at h ⊢
    exact h
  · rw [if_neg m] at h ⊢
    by_cases n : a ∈ M
    · rw [if_pos (show a ∈ fnn (wd M H) Iv.nil from Or.inl n)] at h
      cases h
    · rw [if_neg n]
      split at h
      · cases h
      · exact h
end
end Sp

set_option Elab.async false
set_option linter.all false
set_option maxRecDepth 100000
set_option maxHeartbeats 4000000
/-! The laws' own file: a dict of lists. -/
namespace Sp
open PySem L2 SM SR SD SE
/-- its places -/
structure MA where
  (m lf lp ls lm : Addr)
def MA.foot (G : MA) : List Addr := [G.m, G.lf, G.lp, G.ls, G.lm]
def mKvs (G : MA) (S : FS) : List (Key × V) := [(.inr "room", .int (S.room : Nat)), (.inr "fences", .ref G.lf), (.inr "pages", .ref G.lp), (.inr "spills", .ref G.ls), (.inr "many", .int S.many), (.inr "left", oI S.left), (.inr "down", .bl S.down), (.inr "marks", .ref G.lm)]
def ModAt (N : Ads) (H : Hp) (G : MA) (S : FS) : Prop := ∃ vps vss, H G.m = some (.dK (mKvs G S)) ∧ H G.lf = some (.lst (S.fences.map V.int)) ∧ H G.lp = some (.lst vps) ∧ Dts (hid N H) vps (S.pages.map dPage) ∧ H G.ls = some (.lst vss) ∧ Dts (hid N H) vss (S.spills.map dCell) ∧ H G.lm = some (.lst ((S.marks.map (·.2)).map V.int)) ∧ G.foot.Nodup
theorem noL_page (p : Pg) : noL (dPage p) = true := by
  obtain ⟨rs, l⟩ := p
  cases l <;> simp [noL, noL.noLs, noLs_rows]
theorem noL_cell (c : Option Cl) : noL (dCell c) = true := by
  cases c with
  | none => rfl
  | some c =>
    obtain ⟨r, l⟩ := c
    cases l <;> simp [noL, noL.noLs]
theorem dts_nolH {M A : Ads} {H : Hp} {vs : List V} {ds : List D} (n : ∀ l ∈ A, ∃ xs, H l = some (.lst xs)) (r : Dts (hid M H) vs ds) (h : ∀ d ∈ ds, noL d = true) : Dts (hid (HAppend.hAppend M A) H) vs ds := by
  induction r with
  | nil => exact .nil
  | cons r t ih => exact .cons (r.nol (hid_tups n) (h _ List.mem_cons_self)) (ih fun d hd => h d (List.mem_cons_of_mem _ hd))
def ivM (G : MA) (S : FS) : Iv where
  fp := G.foot
  p := fun N H => ModAt N H G S
  up := by
    intro M N H H' Z k n s h
    have out : ∀ b ∈ G.foot, b ∉ Z := fun b hb hz => (n b hz).1 hb
    obtain ⟨vps, vss, h1, h2, h3, h4, h5, h6, h7, h8⟩ := h
    exact ⟨vps, vss, k _ _ (out _ (by simp [MA.foot])) h1, k _ _ (out _ (by simp [MA.foot])) h2, k _ _ (out _ (by simp [MA.foot])) h3, h4.mono s, k _ _ (out _ (by simp [MA.foot])) h5, h6.mono s, k _ _ (out _ (by simp [MA.foot])) h7, h8⟩
  nol := by
    intro M H A n h
    obtain ⟨vps, vss, h1, h2, h3, h4, h5, h6, h7, h8⟩ := h
    refine ⟨vps, vss, h1, h2, h3, dts_nolH (fun l hl => (n l hl).2) h4 fun d hd => ?_, h5, dts_nolH (fun l hl => (n l hl).2) h6 fun d hd => ?_, h7, h8⟩
    · obtain ⟨p, _, rfl⟩ := List.mem_map.mp hd
      exact noL_page p
    · obtain ⟨p, _, rfl⟩ := List.mem_map.mp hd
      exact noL_cell p
/-! ### promises -/
def f_laid : List D → Option D
  | [.list ds, .int fill] => if 1 ≤ fill ∧ fill ≤ 1000 ∧ ds.length ≤ 1000 then (rowsD ds).map fun rs => .tuple [.list ((fencesOf (partsOf fill.toNat rs)).map PyData.int), .list ((partsOf fill.toNat rs).map fun p => dPage (p, none))] else none
  | _ => none
def sp_law_laid (P : Program) (w : World) (K : PySem.W.Frag) (a : Ad) : Sp := SpF f_laid
def sp_law_made (P : Program) (w : World) (K : PySem.W.Frag) (a : Ad) : Sp := fun vs H Q E => ∃ (M : Ads) (room fill spare : Nat) (rs : List Row), Lv M H ∧ Dts (hid M H) vs [shapeD room fill spare, dList rs] ∧ 1 ≤ fill ∧ fill ≤ 1000 ∧ spare ≤ 1000 ∧ rs.length ≤ 1000 ∧
  ∀ G H', Same H H' → (∀ b ∈ G.foot, H b = none) → ModAt M H' G (mkFS room fill spare rs) → Q (.ref G.m) H'
/-- a def that reads the laws' file -/
def AtM (M : Ads) (H : Hp) (o : Addr) (S : FS) : Prop := ∃ G : MA, G.m = o ∧ ModAt M H G S
def f_pictureL (S : FS) : List D → Option Rs
  | [] => some (.ok (dPic S))
  | _ => none
def sp_law_picture (P : Program) (w : World) (K : PySem.W.Frag) (a : Ad) : Sp := SpO AtM f_pictureL
end Sp

set_option Elab.async false
set_option linter.all false
set_option maxRecDepth 100000
set_option maxHeartbeats 4000000
/-! Readings, printed by gen.py. -/
namespace Sp
open PySem L2 SM SR SD SE
def t_law_laid (P : Program) (w : World) (K : PySem.W.Frag) (a : Ad) (E : XK) : TS :=
  (tSeq (tAsg (tLc (iRng3 (tCons (tC (.int 0)) (tCons (tCB (rLenU K) (tCons (tVar 0) tNil)) (tCons (tVar 1) tNil)))) (gName 3) tYes (tCB (rTupU K) (tCons (tSl (rSlU K) (tVar 0) (tPart (tVar 3)) (tPart (tOp (rAddU K) (tVar 3) (tVar 1)))) tNil)) [3]) (gName 2)) (tSeq (tAsg (tIf (tTest (tOp (rNeD K) (tVar 2) (tLst tNil))) (tVar 2) (tLst (tCons (tTup tNil) tNil))) (gName 2)) (tRet (tTup (tCons (tLc (iSeqU K (tSl (rSlU K) (tVar 2) tNoPart (tPart (tUn rNegI (tC (.int 1)))))) (gName 4) tYes (tOp (rIxU P w K) (tOp (rIxU P w K) (tVar 4) (tUn rNegI (tC (.int 1)))) (tC (.int 0))) [4]) (tCons (tLc (iSeqU K (tVar 2)) (gName 4) tYes (tTup (tCons (tVar 4) (tCons (tC .non) tNil))) [4]) tNil))))))
abbrev n_law_laid : List Str := ["_law_rows_here", "_law_fill", "_law_parts", "_law_k", "_law_part"]
def t_law_made (P : Program) (w : World) (K : PySem.W.Frag) (a : Ad) (E : XK) : TS :=
  (tSeq (tAsg (tCall (sp_law_laid P w K a) [] E (tCons (tVar 1) (tCons (tOp (rIxU P w K) (tVar 0) (tC (.int 1))) tNil))) (gTup K 2 (gCons (gName 2) (gCons (gName 3) gNil)))) (tSeq (tAsg (tDisp [((tC (.str "room")), (tOp (rIxU P w K) (tVar 0) (tC (.int 0)))), ((tC (.str "fences")), (tVar 2)), ((tC (.str "pages")), (tVar 3)), ((tC (.str "spills")), (tOp (rMulU K) (tLst (tCons (tC .non) tNil)) (tOp (rIxU P w K) (tVar 0) (tC (.int 2)))))]) (gName 4)) (tSeq (tDrop (tDUpd (tVar 4) (tDisp [((tC (.str "many")), (tC (.int 0))), ((tC (.str "left")), (tC .non)), ((tC (.str "down")), (tC (.bl false))), ((tC (.str "marks")), (tLst tNil))]))) (tRet (tVar 4)))))
abbrev n_law_made : List Str := ["_law_shape_here", "_law_rows_here", "_law_fences", "_law_pages", "_law_m"]
def t_law_picture (P : Program) (w : World) (K : PySem.W.Frag) (a : Ad) (E : XK) : TS :=
  (tRet (tTup (tCons (tCB (rTupU K) (tCons (tOp (rIxU P w K) (tVar 0) (tC (.str "fences"))) tNil)) (tCons (tCB (rTupU K) (tCons (tOp (rIxU P w K) (tVar 0) (tC (.str "pages"))) tNil)) (tCons (tCB (rTupU K) (tCons (tOp (rIxU P w K) (tVar 0) (tC (.str "spills"))) tNil)) tNil)))))
abbrev n_law_picture : List Str := ["_law_m"]
end Sp

set_option Elab.async false
set_option linter.all false
set_option maxRecDepth 100000
set_option maxHeartbeats 4000000
/-! _law_laid, _law_made, _law_picture. -/
namespace Sp
open PySem L2 SM SR SD SE
theorem dts_int (G : Hp) (ns : List Int) : Dts G (ns.map V.int) (ns.map PyData.int) := by
  induction ns with
  | nil => exact .nil
  | cons n ns ih => exact .cons (.int n) ih
section
variable {P : Program} {w : World} {K : PySem.W.Frag} {a : Ad}
theorem partsR {n : Nat} {rs : List Row} (hn : 1 ≤ n) : (if (List.range (nParts rs.length n)).map (fun j => (rs.drop (j * n)).take n) = [] then [[]] else (List.range (nParts rs.length n)).map (fun j => (rs.drop (j * n)).take n)) = partsOf n rs := by
  unfold partsOf
  by_cases h : rs = []
  · subst h
    simp [nParts]
  · rw [if_neg h, parts_eq (by omega) _ _ (Nat.le_refl _), if_neg]
    intro z
    have hl : 0 < rs.length := List.length_pos_iff.mpr h
    have := congrArg List.length z
    simp [nParts] at this
    exact h this
theorem pure_law_laid (vs : List V) (H : Hp) (Q : VK) (E : XK) (h : sp_law_laid P w K a vs H Q E) : t_law_laid P w K a E { nx := fun _ H' => Q .non H', rt := Q } (L2.start n_law_laid vs) H := by
  obtain ⟨M, ds, lv, r, d, hd, hq⟩ := h
  match ds, r, hd with
  | [.list ds, .int fill], r, hd =>
    simp only [f_laid] at hd
    split at hd
    · rename_i hc
      obtain ⟨h1, h2, h3⟩ := hc
      cases hrs : rowsD ds with
      | none => simp [hrs] at hd
      | some rs =>
        have := rowsD_map hrs
        subst this
        obtain ⟨n, rfl⟩ := Int.eq_ofNat_of_zero_le (show 0 ≤ fill by omega)
        rw [hrs] at hd
        simp only [Option.map_some, Int.toNat_natCast, Option.some.injEq] at hd
        subst hd
        have hl : rs.length ≤ 1000 := by simpa using h3
        have hnp : nParts rs.length n ≤ 1000 := by
          unfold nParts
          split
          · omega
          · have := Nat.div_le_self (rs.length - 1) n
            omega
        have hlen := parts_len (n := n) (rs := rs) (by omega)
        refine sf_fin lv (env_start At0.nil r (by simp)) ?_ hq
        refine fw_then (Γ' := [Sl.dat (.list (rs.map dRow)), Sl.dat (.int (n : Nat)), Sl.dat (.list (((List.range (nParts rs.length n)).map fun j => (rs.drop (j * n)).take n).map dRows)), Sl.no, Sl.no]) (Φ' := Iv.nil) (fw_asg (d := .list (((List.range (nParts rs.length n)).map fun j => (rs.drop (j * n)).take n).map dRows)) (ev_eq (ev_lcm (xs := List.range (nParts rs.length n)) (enc := fun j => .int ((j * n : Nat) : Int)) (fun j => dRows ((rs.drop (j * n)).take n)) (ei_eq (ei_range3 (ea_cons (ev_int 0) (ea_cons (ev_cb (ea_cons (ev_var rfl) ea_nil) cb_lenL) (ea_cons (ev_var rfl) ea_nil))) (by rw [List.length_map]; exact rgC_up (by omega) (by omega) (by omega))) ?_) (by simp; omega) fun j hj => ⟨_, tgw_name, ?_⟩) (by rw [List.map_map]; rfl)) ⟨rfl, rfl⟩) ?_
        · unfold rgD
          refine List.map_congr_left fun j _ => ?_
          simp
        · refine ev_cb (ea_cons (ev_eq (e := .list (((rs.drop (j * n)).take n).map dRow)) (ev_slL (ev_var rfl) (eo_some (ev_var rfl)) (eo_some (ev_op (ev_var rfl) (ev_var rfl) od_addI))) ?_) ea_nil) cb_tupL
          have e2 : ((j * n : Nat) : Int) + (n : Int) = ((j * n + n : Nat) : Int) := by omega
          rw [e2, cut_nat (by omega)]
          simp
        have hpR := partsR (rs := rs) (show 1 ≤ n by omega)
        generalize ((List.range (nParts rs.length n)).map fun j => (rs.drop (j * n)).take n) = qs at hpR
        refine fw_then (Γ' := [Sl.dat (.list (rs.map dRow)), Sl.dat (.int (n : Nat)), Sl.dat (.list ((partsOf n rs).map dRows)), Sl.no, Sl.no]) (Φ' := Iv.nil) (fw_asg (d := .list ((partsOf n rs).map dRows)) (ev_if (b := !qs.isEmpty) ?_ (fun hb => ?_) fun hb => ?_) ⟨rfl, rfl⟩) ?_
        · refine et_test (ev_eq (ev_op (ev_var rfl) (ev_lst ea_nil (by simp)) (od_ne (shd_lst (k := 2) fun d hd => ?_).ok (by rfl))) ?_)
          · obtain ⟨r, _, rfl⟩ := List.mem_map.mp hd
            exact shd_rows
          · rw [eqv_nilL]
            simp
        · have hne : qs ≠ [] := by simpa using hb
          rw [if_neg hne] at hpR
          rw [← hpR]
          exact ev_var rfl
        · have hnil : qs = [] := by simpa using hb
          rw [if_pos hnil] at hpR
          rw [← hpR]
          exact ev_lst (ea_cons (ev_tup ea_nil (by simp)) ea_nil) (by simp)
        have hne : ∀ p ∈ (partsOf n rs).dropLast, p ≠ [] := fun p hp => by
          by_cases hz : rs = []
          · subst hz
            cases hp
          · exact parts_ne (n := n) (by omega) hz ((List.dropLast_sublist _).subset hp)
        generalize partsOf n rs = ps at hlen hne
        refine fw_retF (ef_tup (efa_cons (ef_eq (ef_lcm (xs := ps.dropLast) (enc := dRows) (fun p => .int (match p.getLast? with | some r => r.1 | none => 0)) (ei_seqL (ev_eq (ev_slL (ev_var rfl) eo_none (eo_some (ev_neg (ev_int _)))) (by rw [cut_dropLast, List.map_dropLast]))) (by simp; omega) (fun p hp => ⟨_, tgw_name, ?_⟩) fun _ _ => rfl) ?_) (efa_cons (ef_lcm (xs := ps) (enc := dRows) (fun p => dPage (p, none)) (ei_seqL (ev_var rfl)) (by omega) (fun p hp => ⟨_, tgw_name, ev_tup (ea_cons (ev_var rfl) (ea_cons ev_non ea_nil)) (by simp)⟩) fun p _ => noL_page (p, none)) efa_nil)) (by simp)) ⟨rfl, rfl⟩
        · cases hl : p.getLast? with
          | none => exact absurd (by simpa using hl) (hne p hp)
          | some r0 => exact ev_op (ev_op (ev_var rfl) (ev_neg (ev_int _)) (od_ixT (atI_last hl))) (ev_int _) (od_ixT rfl)
        · show PyData.list (ps.dropLast.map _) = PyData.list ((ps.dropLast.map _).map PyData.int)
          rw [List.map_map]
          rfl
    · cases hd
theorem pure_law_picture (vs : List V) (H : Hp) (Q : VK) (E : XK) (h : sp_law_picture P w K a vs H Q E) : t_law_picture P w K a E { nx := fun _ H' => Q .non H', rt := Q } (L2.start n_law_picture vs) H := by
  obtain ⟨M, o, us, S, ds, rfl, lv, ⟨G, rfl, vps, vss, h1, h2, h3, h4, h5, h6, h7, h8⟩, r, hr⟩ := h
  match ds, r, hr with
  | [], .nil, hr =>
    have ix : ∀ {H' : Hp} {k : Str} {v : V} {Q : VK}, Same H H' → valV (mKvs G S) (.inr k) = some v → Q v H' → rIxU P w K (.ref G.m) (.str k) H' Q := fun {H' k v Q} e hv q => .inr (.inl ⟨G.m, v, rfl, .inl ⟨_, .inr k, .inl (e _ _ h1), rfl, hv.symm⟩, q⟩)
    refine ⟨_, rfl, ix (Same.refl H) rfl ⟨_, _, rfl, .inl ⟨SqL.of h2, fun p1 n1 => ?_⟩⟩⟩
    have e1 := new_same (o := .tup (S.fences.map V.int)) n1
    refine ⟨_, rfl, ix e1 rfl ⟨_, _, rfl, .inl ⟨SqL.of (e1 _ _ h3), fun p2 n2 => ?_⟩⟩⟩
    have e2 := new_same (o := .tup vps) n2
    refine ⟨_, rfl, ix (e1.trans e2) rfl ⟨_, _, rfl, .inl ⟨SqL.of ((e1.trans e2) _ _ h5), fun p3 n3 => ?_⟩⟩⟩
    have e3 := new_same (o := .tup vss) n3
    refine ⟨by show 3 ≤ sizeLine; decide, fun p4 n4 => ?_⟩
    have e4 := new_same (o := .tup [.ref p1, .ref p2, .ref p3]) n4
    have lv1 := lv.mono e1
    have lv2 := lv1.mono e2
    have lv3 := lv2.mono e3
    have t1 := ((e2.trans e3).trans e4) _ _ (upd_same (H := H) (a := p1) (o := .tup (S.fences.map V.int)))
    have t2 := (e3.trans e4) _ _ (upd_same (a := p2) (o := .tup vps))
    have t3 := e4 _ _ (upd_same (a := p3) (o := .tup vss))
    refine hr _ _ (((e1.trans e2).trans e3).trans e4) (.tup (xs := [.ref p1, .ref p2, .ref p3]) ((hid_out (lv3.out n4)).trans upd_same) (.cons (.tup ((hid_out (lv.out n1)).trans t1) (dts_int _ _)) (.cons (.tup ((hid_out (lv1.out n2)).trans t2) (h4.mono (Same.s (Same.hid (((e1.trans e2).trans e3).trans e4))))) (.cons (.tup ((hid_out (lv2.out n3)).trans t3) (h6.mono (Same.s (Same.hid (((e1.trans e2).trans e3).trans e4))))) .nil))))
theorem pure_law_made (vs : List V) (H : Hp) (Q : VK) (E : XK) (h : sp_law_made P w K a vs H Q E) : t_law_made P w K a E { nx := fun _ H' => Q .non H', rt := Q } (L2.start n_law_made vs) H := by
  obtain ⟨M, room, fill, spare, rs, lv, r, f1, f2, hs, hl, q⟩ := h
  cases r with
  | @cons v1 _ us _ r1 r =>
    cases r with
    | @cons v2 _ us _ r2 r =>
      cases r
      have g := env_start (A := []) (N := n_law_made) At0.nil (.cons r1 (.cons r2 .nil)) (by simp)
      have hf : f_laid [dList rs, dInt fill] = some (.tuple [.list ((fencesOf (partsOf fill rs)).map PyData.int), .list ((partsOf fill rs).map fun p => dPage (p, none))]) := by
        simp only [f_laid]
        rw [if_pos ⟨by omega, by omega, by simpa using hl⟩, rowsD_of]
        simp only [Option.map_some, Int.toNat_natCast]
      refine ef_callF (X := wd M H) (Φ := Iv.nil) (f := f_laid) (ea_cons (ev_var rfl) (ea_cons (ev_op (ev_var rfl) (ev_int 1) (od_ixT rfl)) ea_nil)) hf [] H _ (At0.nil.cur lv) g _ fun v A H1 e1 nd hA rd => ?_
      have hlen := parts_len (n := fill) (rs := rs) (by omega)
      cases rd with
      | @tup pt xs _ ht hxs =>
        cases hxs with
        | @cons u1 _ _ _ a1 hxs =>
          cases hxs with
          | @cons u2 _ _ _ a2 hxs =>
            cases hxs
            cases a1 with
            | @lst lf vf _ hlf rf =>
              cases a2 with
              | @lst lp vp _ hlp rp =>
                obtain ⟨mf, kf⟩ := tgv_list hlf
                obtain ⟨mp, kp⟩ := tgv_list hlp
                have evf : vf = (fencesOf (partsOf fill rs)).map V.int := dts_ints rf
                subst evf
                have hlen2 : vp.length = (partsOf fill rs).length := by
                  have := Dts.len rp
                  simpa using this
                have nfp : lf ≠ lp := fun z => by
                  subst z
                  rw [kf] at kp
                  simp only [Option.some.injEq, HO.lst.injEq] at kp
                  have := congrArg List.length kp
                  rw [hlen2] at this
                  simp [fencesOf] at this
                  omega
                have kt := tgv_H ht
                have m1 : ∀ {d : D} {v : V}, Dt (hid M H) v d → Dt (hid M H1) v d := fun r => r.mono (Same.s (Same.hid e1))
                have rp : Dts (hid M H1) vp ((partsOf fill rs).map fun p => dPage (p, none)) := by
                  have key : ∀ {vs : List V} {ds : List D}, Dts (tgv A (hdn (wd M H) Iv.nil []) H1) vs ds → (∀ d ∈ ds, noL d = true) → Dts (hid M H1) vs ds := by
                    intro vs ds r
                    induction r with
                    | nil => exact fun _ => .nil
                    | cons r t ih =>
                      intro hn
                      refine .cons (r.nol (fun b ys hb => ?_) (hn _ List.mem_cons_self)) (ih fun d hd => hn d (List.mem_cons_of_mem _ hd))
                      refine (hid_out fun mb => ?_).trans (tgv_H hb)
                      unfold tgv at hb
                      by_cases q : b ∈ A
                      · exact lv b mb (hA b q)
                      · rw [if_neg q, if_pos (show b ∈ hdn (wd M H) Iv.nil [] from Or.inr (Or.inl mb))] at hb
                        cases hb
                  refine key rp fun d hd => ?_
                  obtain ⟨p, _, rfl⟩ := List.mem_map.mp hd
                  exact noL_page _
                cases r1 with
                | @tup p1 w1 _ hs1 rs1 =>
                  cases rs1 with
                  | cons b1 rs1 =>
                    cases rs1 with
                    | cons b2 rs1 =>
                      cases rs1 with
                      | cons b3 rs1 =>
                        cases rs1
                        cases b1
                        cases b2
                        cases b3
                        have hs1 := hid_le _ _ hs1
                        have ix : ∀ {H' : Hp} {k : Int} {v : V} {Q : VK}, Same H H' → L2.atI [V.int room, V.int fill, V.int spare] k = some v → Q v H' → rIxU P w K (.ref p1) (.int k) H' Q := fun {H' k v Q} e hv q => .inl (.inr (.inl ⟨p1, _, k, v, rfl, rfl, SqT.of (e _ _ hs1), hv, q⟩))
                        refine ⟨_, _, rfl, SqT.of kt, rfl, _, _, rfl, _, _, rfl, rfl, fun m nm => ?_⟩
                        have em := new_same (o := .dK []) nm
                        have e1m := e1.trans em
                        refine ⟨_, rfl, ix e1m rfl ⟨_, rfl, _, rfl, ⟨by show 1 ≤ sizeLine; decide, fun p nn => ⟨_, rfl, ix (e1m.trans (new_same nn)) rfl (.inr (.inl ⟨p, spare, [.non], rfl, rfl, upd_same, by omega, by omega, by simp; exact Nat.le_trans hs (by decide), fun ls nls => ⟨?_, [(.inr "room", .int (room : Nat)), (.inr "fences", .ref lf), (.inr "pages", .ref lp), (.inr "spills", .ref ls)], rfl, by simp, ?_⟩⟩))⟩⟩⟩⟩
                        · have h1 : m ≠ ls := fun z => by
                            rw [← z, upd_ne (fun y => by rw [← y, upd_same] at nn; cases nn), upd_same] at nls
                            cases nls
                          have h2 : m ≠ p := fun y => by
                            rw [← y, upd_same] at nn
                            cases nn
                          show upd (upd (upd H1 m (.dK [])) p _) ls _ m = _
                          rw [upd_ne h1, upd_ne h2, upd_same]
                        · have h1 : m ≠ ls := fun z => by
                            rw [← z, upd_ne (fun y => by rw [← y, upd_same] at nn; cases nn), upd_same] at nls
                            cases nls
                          have h2 : m ≠ p := fun y => by
                            rw [← y, upd_same] at nn
                            cases nn
                          have hpls : p ≠ ls := fun z => by
                            rw [← z, upd_same] at nls
                            cases nls
                          obtain ⟨H3, hH3⟩ : ∃ H3, upd (upd (upd (upd H1 m (.dK [])) p (.lst [.non])) ls (.lst (List.replicate (spare : Int).toNat [V.non]).flatten)) m (.dK (mergeK [] [(.inr "room", .int (room : Nat)), (.inr "fences", .ref lf), (.inr "pages", .ref lp), (.inr "spills", .ref ls)])) = H3 := ⟨_, rfl⟩
                          show tSeq _ _ _ _ (upd (upd (upd (upd H1 m (.dK [])) p (.lst [.non])) ls (.lst (List.replicate (spare : Int).toNat [V.non]).flatten)) m (.dK (mergeK [] [(.inr "room", .int (room : Nat)), (.inr "fences", .ref lf), (.inr "pages", .ref lp), (.inr "spills", .ref ls)])))
                          rw [hH3]
                          have k3m : H3 m = some (.dK [(.inr "room", .int (room : Nat)), (.inr "fences", .ref lf), (.inr "pages", .ref lp), (.inr "spills", .ref ls)]) := by
                            rw [← hH3, upd_same]
                            rfl
                          have nls1 : H1 ls = none := by
                            rw [upd_ne (Ne.symm hpls), upd_ne (Ne.symm h1)] at nls
                            exact nls
                          have np1 : H1 p = none := by
                            rw [upd_ne (Ne.symm h2)] at nn
                            exact nn
                          have e13 : Same H1 H3 := fun b o hb => by
                            rw [← hH3, upd_ne (ne_of_none hb nm), upd_ne (ne_of_none hb nls1), upd_ne (ne_of_none hb np1), upd_ne (ne_of_none hb nm)]
                            exact hb
                          have k3s : H3 ls = some (.lst (List.replicate spare V.non)) := by
                            rw [← hH3, upd_ne (Ne.symm h1), upd_same]
                            simp
                          refine ⟨_, rfl, m, rfl, .inl ⟨_, .inl k3m⟩, fun m2 nm2 => ?_⟩
                          have em2 := new_same (o := .dK []) nm2
                          refine ⟨by show 0 ≤ sizeLine; decide, fun lm nlm => ⟨?_, [(.inr "many", .int 0), (.inr "left", .non), (.inr "down", .bl false), (.inr "marks", .ref lm)], rfl, by simp, ?_⟩⟩
                          · have : m2 ≠ lm := fun z => by
                              rw [← z, upd_same] at nlm
                              cases nlm
                            rw [upd_ne this, upd_same]
                          · have hlm2 : m2 ≠ lm := fun z => by
                              rw [← z, upd_same] at nlm
                              cases nlm
                            have nlm3 : H3 lm = none := by
                              rw [upd_ne (Ne.symm hlm2)] at nlm
                              exact nlm
                            have hmm : m ≠ m2 := ne_of_none k3m nm2
                            obtain ⟨H4, hH4⟩ : ∃ H4, upd (upd (upd H3 m2 (.dK [])) lm (.lst [])) m2 (.dK (mergeK [] [(.inr "many", .int 0), (.inr "left", .non), (.inr "down", .bl false), (.inr "marks", .ref lm)])) = H4 := ⟨_, rfl⟩
                            show ∃ b kvs more, _ ∧ _ ∧ (upd (upd (upd H3 m2 (.dK [])) lm (.lst [])) m2 (.dK (mergeK [] [(.inr "many", .int 0), (.inr "left", .non), (.inr "down", .bl false), (.inr "marks", .ref lm)]))) _ = _ ∧ _ ∧ _ ∧ _
                            rw [hH4]
                            have e34 : Same H3 H4 := fun b o hb => by
                              rw [← hH4, upd_ne (ne_of_none hb nm2), upd_ne (ne_of_none hb nlm3), upd_ne (ne_of_none hb nm2)]
                              exact hb
                            have k4lm : H4 lm = some (.lst []) := by
                              rw [← hH4, upd_ne (Ne.symm hlm2), upd_same]
                            have k4m2 : H4 m2 = some (.dK [(.inr "many", .int 0), (.inr "left", .non), (.inr "down", .bl false), (.inr "marks", .ref lm)]) := by
                              rw [← hH4]
                              exact upd_same
                            refine ⟨m2, [(.inr "room", .int (room : Nat)), (.inr "fences", .ref lf), (.inr "pages", .ref lp), (.inr "spills", .ref ls)], [(.inr "many", .int 0), (.inr "left", .non), (.inr "down", .bl false), (.inr "marks", .ref lm)], rfl, hmm, e34 _ _ k3m, k4m2, by simp, _, rfl, ?_⟩
                            have keep : ∀ b o, b ≠ m → H4 b = some o → upd H4 m (.dK (mergeK [(.inr "room", .int (room : Nat)), (.inr "fences", .ref lf), (.inr "pages", .ref lp), (.inr "spills", .ref ls)] [(.inr "many", .int 0), (.inr "left", .non), (.inr "down", .bl false), (.inr "marks", .ref lm)])) b = some o := fun b o nb hb => by
                              rw [upd_ne nb]
                              exact hb
                            have e14 := e13.trans e34
                            have nmH : H m = none := e1.free nm
                            have e4 : Same H (upd H4 m (.dK (mergeK [(.inr "room", .int (room : Nat)), (.inr "fences", .ref lf), (.inr "pages", .ref lp), (.inr "spills", .ref ls)] [(.inr "many", .int 0), (.inr "left", .non), (.inr "down", .bl false), (.inr "marks", .ref lm)]))) := fun b o hb => keep b o (ne_of_none hb nmH) (e14 _ _ (e1 _ _ hb))
                            have s4 : SameS (hid M H1) (hid M (upd H4 m (.dK (mergeK [(.inr "room", .int (room : Nat)), (.inr "fences", .ref lf), (.inr "pages", .ref lp), (.inr "spills", .ref ls)] [(.inr "many", .int 0), (.inr "left", .non), (.inr "down", .bl false), (.inr "marks", .ref lm)])))) := fun b o hb z => by
                              obtain ⟨nb, hb⟩ := hid_some hb
                              exact (hid_out nb).trans (keep b o (ne_of_none hb nm) (e14 _ _ hb))
                            have mlf : lf ≠ m := ne_of_none kf nm
                            have mlp : lp ≠ m := ne_of_none kp nm
                            refine q ⟨m, lf, lp, ls, lm⟩ _ e4 (fun b hb => ?_) ⟨vp, List.replicate spare .non, ?_, keep _ _ mlf (e14 _ _ kf), keep _ _ mlp (e14 _ _ kp), ?_, keep _ _ (Ne.symm h1) (e34 _ _ k3s), ?_, keep _ _ ?_ k4lm, ?_⟩
                            · have hb : b = m ∨ b = lf ∨ b = lp ∨ b = ls ∨ b = lm := by simpa [MA.foot] using hb
                              rcases hb with rfl | rfl | rfl | rfl | rfl
                              · exact nmH
                              · exact hA _ mf
                              · exact hA _ mp
                              · exact e1.free nls1
                              · exact e1.free (e13.free nlm3)
                            · rw [upd_same]
                              rfl
                            · show Dts _ vp (((partsOf fill rs).map fun p => (p, none)).map dPage)
                              rw [List.map_map]
                              exact rp.mono s4
                            · have : ∀ n : Nat, Dts (hid M (upd H4 m (.dK (mergeK [(.inr "room", .int (room : Nat)), (.inr "fences", .ref lf), (.inr "pages", .ref lp), (.inr "spills", .ref ls)] [(.inr "many", .int 0), (.inr "left", .non), (.inr "down", .bl false), (.inr "marks", .ref lm)])))) (List.replicate n V.non) (List.replicate n PyData.none) := fun n => by
                                induction n with
                                | zero => exact .nil
                                | succ n ih => exact .cons .non ih
                              show Dts _ _ ((List.replicate spare none).map dCell)
                              rw [List.map_replicate]
                              exact this spare
                            · exact fun (z : lm = m) => by
                                rw [z, k3m] at nlm3
                                cases nlm3
                            · have a1 : ls ≠ lf := fun z => by
                                rw [z, kf] at nls1
                                cases nls1
                              have a2 : ls ≠ lp := fun z => by
                                rw [z, kp] at nls1
                                cases nls1
                              have b1 : lm ≠ m := fun z => by
                                rw [z, k3m] at nlm3
                                cases nlm3
                              have b2 : lm ≠ ls := fun z => by
                                rw [z, k3s] at nlm3
                                cases nlm3
                              have b3 : lm ≠ lf := fun z => by
                                rw [z, e13 _ _ kf] at nlm3
                                cases nlm3
                              have b4 : lm ≠ lp := fun z => by
                                rw [z, e13 _ _ kp] at nlm3
                                cases nlm3
                              simp [MA.foot, Ne.symm mlf, Ne.symm mlp, h1, Ne.symm b1, nfp, Ne.symm a1, Ne.symm b3, Ne.symm a2, Ne.symm b4, Ne.symm b2]
end
end Sp

set_option Elab.async false
set_option linter.all false
set_option maxRecDepth 100000
set_option maxHeartbeats 4000000
/-! What a law holds: the row, its own file, the program's file. -/
namespace SE
open PySem L2 SM SR SD Sp
section
variable {X : Wd} {Φ Ψ Φ2 : Iv} {H H1 H2 H3 : Hp} {L L' : Lo} {σ : L2.St} {Γ Γ' : Gm} {v : V} {d e : D} {i j : Nat} {ta tb te tr tn : TE} {tt tu : TT} {t : TS} {S : D → Iv → Prop} {N N1 : Gm → Iv → Prop} {R : Ro → Iv → Prop} {r scr : Addr} {E : XK} {P : Program} {w : World} {K : PySem.W.Frag} {a : Ad}
theorem mem_and {b : Addr} : b ∈ hdn X (Φ.and Ψ) L ↔ b ∈ hdn X Φ L ∨ b ∈ Ψ.fp := by
  constructor
  · rintro (h | h | h)
    · exact .inl (Or.inl h)
    · exact .inl (Or.inr (Or.inl h))
    · rcases List.mem_append.mp h with h | h
      · exact .inl (Or.inr (Or.inr h))
      · exact .inr h
  · rintro ((h | h | h) | h)
    · exact Or.inl h
    · exact Or.inr (Or.inl h)
    · exact Or.inr (Or.inr (List.mem_append_left _ h))
    · exact Or.inr (Or.inr (List.mem_append_right _ h))
/-- something new is held, too -/
theorem Cur.add (c : Cur X Φ L H) (e : Same H H2) (fresh : ∀ b ∈ Ψ.fp, H b = none) (live : ∀ b ∈ Ψ.fp, H2 b ≠ none) (p : Ψ.p (hdn X (Φ.and Ψ) L) H2) : Cur X (Φ.and Ψ) L H2 ∧ SameS (hd X Φ L H) (hd X (Φ.and Ψ) L H2) := by
  have s : SameS (hd X Φ L H) (hd X (Φ.and Ψ) L H2) := fun b o h z => by
    obtain ⟨m, h⟩ := hid_some h
    refine (hid_out fun y => ?_).trans (e b o h)
    rcases mem_and.mp y with y | y
    · exact m y
    · have := fresh b y
      rw [h] at this
      cases this
  refine ⟨⟨(c.up e).but, fun b m => ?_, c.new, c.om, c.nd, fun q hq z => ?_, Φ.up [] (fun b o _ h => e b o h) (fun z hz => by cases hz) s c.at_, p⟩, s⟩
  · rcases mem_and.mp m with m | m
    · exact (c.up e).lv b m
    · exact live b m
  · rcases List.mem_append.mp z with z | z
    · exact c.dj q hq z
    · exact c.lv q.2 (Or.inl (List.mem_map.mpr ⟨q, hq, rfl⟩)) (fresh _ z)
/-- the second is let go -/
theorem Cur.and1 (c : Cur X (Φ.and Ψ) L H) : Cur X Φ L H ∧ SameS (hd X (Φ.and Ψ) L H) (hd X Φ L H) := by
  have s : Same (hd X (Φ.and Ψ) L H) (hd X Φ L H) := hid_sub fun b m => mem_and.mpr (.inl m)
  exact ⟨⟨c.but, fun b m => c.lv b (mem_and.mpr (.inl m)), c.new, c.om, c.nd, fun q hq z => c.dj q hq (List.mem_append_left _ z), Iv.same (Same.refl H) (Same.s s) c.at_.1⟩, Same.s s⟩
/-- weaker behind -/
theorem fw_post (h : FW X t Γ Φ N1 R) (hn : ∀ L1 H1 σ1 Γ1 Φ1, Cur X Φ1 L1 H1 → EnvD X Φ1 L1 H1 σ1 Γ1 → N1 Γ1 Φ1 → ∃ Γ2 Φ2, Cur X Φ2 L1 H1 ∧ SameS (hd X Φ1 L1 H1) (hd X Φ2 L1 H1) ∧ EnvD X Φ2 L1 H1 σ1 Γ2 ∧ N Γ2 Φ2) : FW X t Γ Φ N R := fun L H σ D c g k r => h L H σ D c g (fun L' H' σ' Γ' Φ' c' s' g' n => by
  obtain ⟨Γ2, Φ2, c2, s2, g2, n2⟩ := hn L' H' σ' Γ' Φ' c' g' n
  exact k L' H' σ' Γ2 Φ2 c2 (s'.trans s2) g2 n2) r
/-- slots are forgotten -/
theorem EnvD.less (g : EnvD X Φ L H σ Γ) (hl : Γ'.length = Γ.length) (h : ∀ (i : Nat) (s : Sl), Γ'[i]? = some s → s = Sl.no ∨ Γ[i]? = some s) : EnvD X Φ L H σ Γ' := ⟨hl.trans g.len, fun i s e => by
  rcases h i s e with rfl | h
  · trivial
  · exact g.ok i s h⟩
theorem RowOf.and (ro : RowOf K X Φ r scr) (n : r ∉ Ψ.fp) : RowOf K X (Φ.and Ψ) r scr where
  ir := List.mem_append_left _ ro.ir
  at_ := fun N G p => ro.at_ N G p.1
  chg := fun N G G' m p b ra => ⟨ro.chg N G G' m p.1 b ra, Ψ.up [r] (fun x o nx h => b.keep x o nx h) (fun z hz => by
    have hz : z = r := by simpa using hz
    subst hz
    obtain ⟨ns, q1, q2, q3, h1, _⟩ := ro.at_ N G p.1
    rw [h1]
    exact ⟨n, (fun xs z => by cases z), fun o u z => by cases z⟩) (same_r m b) p.2⟩
  ok := ro.ok
/-- new lists become a tree of one's own -/
theorem tre_new {A : List Addr} (c : Cur X Φ L H) (g : EnvD X Φ L H σ Γ) (e : Same H H2) (nd : A.Nodup) (hA : ∀ l ∈ A, H l = none) (rd : Dt (tgv A (hdn X Φ L) H2) v d) :
    ∃ L', Cur X Φ L' H2 ∧ SameS (hd X Φ L H) (hd X Φ L' H2) ∧ EnvD X Φ L' H2 (σ.set i (some v)) (Γ.set i (.tre d)) := by
  obtain ⟨B, hB⟩ : ∃ B, B = A.filter fun l => match H2 l with | some (.lst _) => true | _ => false := ⟨_, rfl⟩
  have hB1 : ∀ l ∈ B, l ∈ A ∧ ∃ xs, H2 l = some (.lst xs) := fun l hl => by
    rw [hB] at hl
    obtain ⟨m, z⟩ := List.mem_filter.mp hl
    refine ⟨m, ?_⟩
    split at z
    · rename_i xs q
      exact ⟨xs, q⟩
    · cases z
  have ndB : B.Nodup := by
    rw [hB]
    exact nd.sublist List.filter_sublist
  have hA0 : ∀ l ∈ B, l ∉ hdn X Φ L ∧ H l = none := fun l hl => ⟨c.lv.out (hA l (hB1 l hl).1), hA l (hB1 l hl).1⟩
  have rdB : Dt (tgv B (hdn X Φ L) H2) v d := rd.mono fun b o h z => by
    unfold tgv at *
    by_cases m : b ∈ A
    · rw [if_pos m] at h
      by_cases mb : b ∈ B
      · rw [if_pos mb]
        exact h
      · rw [if_neg mb, if_neg (c.lv.out (hA b m)), h]
        cases o with
        | lst xs =>
          refine absurd ?_ mb
          rw [hB]
          refine List.mem_filter.mpr ⟨m, ?_⟩
          rw [h]
        | _ => rfl
    · rw [if_neg m] at h
      rw [if_neg fun y => m (hB1 b y).1]
      exact h
  have c2 := c.up e
  have mem : ∀ x, x ∈ hdn X Φ (B.map (fun l => (i, l)) ++ L) ↔ x ∈ B ∨ x ∈ hdn X Φ L := fun x => by
    constructor
    · rintro (m | m)
      · rw [List.map_append, List.map_map] at m
        rcases List.mem_append.mp m with m | m
        · obtain ⟨l, hl, rfl⟩ := List.mem_map.mp m
          exact .inl hl
        · exact .inr (Or.inl m)
      · exact .inr (Or.inr m)
    · rintro (m | m | m)
      · refine Or.inl ?_
        rw [List.map_append, List.map_map]
        exact List.mem_append_left _ (List.mem_map.mpr ⟨x, m, rfl⟩)
      · refine Or.inl ?_
        rw [List.map_append]
        exact List.mem_append_right _ m
      · exact Or.inr m
  have s0 : SameS (hd X Φ L H) (hd X Φ (B.map (fun l => (i, l)) ++ L) H2) := fun x o q z => by
    obtain ⟨m, q⟩ := hid_some q
    refine (hid_out fun y => ?_).trans (e x o q)
    rcases (mem x).mp y with y | y
    · have := (hA0 x y).2
      rw [q] at this
      cases this
    · exact m y
  have pm : ∀ p ∈ B.map (fun l => (i, l)) ++ L, (∃ l ∈ B, p = (i, l)) ∨ p ∈ L := fun p hp => by
    rcases List.mem_append.mp hp with m | m
    · obtain ⟨l, hl, rfl⟩ := List.mem_map.mp m
      exact .inl ⟨l, hl, rfl⟩
    · exact .inr m
  refine ⟨B.map (fun l => (i, l)) ++ L, ⟨c2.but, fun x m => ?_, fun p hp => ?_, fun p hp => ?_, ?_, fun p hp => ?_, ?_⟩, s0, (g.grow (fun p hp => List.mem_append_right _ hp) e s0).set (s := .tre d) ⟨v, B, rfl, fun l hl => List.mem_append_left _ (List.mem_map.mpr ⟨l, hl, rfl⟩), fun l hl => (hB1 l hl).2, rdB.mono fun x o q z => ?_⟩⟩
  · rcases (mem x).mp m with m | m
    · obtain ⟨_, xs, e2⟩ := hB1 x m
      rw [e2]
      nofun
    · exact c2.lv x m
  · rcases pm p hp with ⟨l, hl, rfl⟩ | hp
    · exact c.but.free (hA0 l hl).2
    · exact c.new p hp
  · rcases pm p hp with ⟨l, hl, rfl⟩ | hp
    · exact fun z => (hA0 l hl).1 (Or.inr (Or.inl z))
    · exact c.om p hp
  · rw [List.map_append, List.map_map, List.nodup_append]
    refine ⟨by simpa [Function.comp_def] using ndB, c.nd, fun x hx y hy z => ?_⟩
    obtain ⟨l, hl, rfl⟩ := List.mem_map.mp hx
    exact (hA0 l hl).1 (Or.inl (by rw [show l = y from z]; exact hy))
  · rcases pm p hp with ⟨l, hl, rfl⟩ | hp
    · exact fun z => (hA0 l hl).1 (Or.inr (Or.inr z))
    · exact c.dj p hp
  · refine Iv.same (Same.refl H2) (Same.s (hid_sub fun x m => ?_)) (Φ.nol (fun x => x ∈ B) (fun l hl => ⟨fun z => (hA0 l hl).1 (Or.inr (Or.inr z)), (hB1 l hl).2⟩) c2.at_)
    rcases (mem x).mp m with m | m
    · exact Or.inr m
    · exact Or.inl m
  · unfold tgv at *
    by_cases m : x ∈ B
    · rw [if_pos m] at q ⊢
      exact q
    · rw [if_neg m] at q ⊢
      by_cases m1 : x ∈ hdn X Φ L
      · rw [if_pos m1] at q
        cases q
      · rw [if_neg m1] at q
        rw [if_neg]
        · exact q
        · intro y
          rcases (mem x).mp y with y | y
          · exact m y
          · exact m1 y
theorem fw_asgEF (h : EvF X Φ te Γ d) (n : N (Γ.set i (.tre d)) Φ) : FW X (tAsg te (gName i)) Γ Φ N R := fun L H σ D c g k r => h L H σ c g _ fun v A H2 e nd hA rd => by
  obtain ⟨L', c', s', g'⟩ := tre_new (i := i) c g e nd hA rd
  exact k L' H2 _ _ Φ c' s' g' n
/-- list(x): a copy -/
theorem ef_copy {ta : TA} {ds : List D} (h : EvA X Φ ta Γ [.list ds]) (hn : ∀ d ∈ ds, noL d = true) : EvF X Φ (tCB (rListU K) ta) Γ (.list ds) := fun L H σ c g Q q => h L H σ c g _ fun vs H1 e1 r => by
  cases r with
  | cons r1 r2 =>
    cases r2
    cases r1 with
    | lst ha hv =>
      refine ⟨_, _, rfl, .inl (sqL ha), fun p hp => q _ [p] _ (e1.trans (new_same hp)) (by simp) (fun l hl => by rw [List.mem_singleton.mp hl]; exact e1.free hp) (.lst ?_ (dts_nol (fun _ z => z) (Dts.mono (Same.s (Same.hid (new_same hp))) hv) hn))⟩
      unfold tgv
      rw [if_pos (List.mem_singleton.mpr rfl), upd_same]
end
end SE

set_option Elab.async false
set_option linter.all false
set_option maxRecDepth 100000
set_option maxHeartbeats 4000000
/-! The row, the laws' file, the program's file: made, read. -/
namespace Sp
open PySem L2 SM SR SD SE
section
variable {X : Wd} {Φ Ψ Φ2 : Iv} {H H1 H2 H3 : Hp} {L L' : Lo} {σ : L2.St} {Γ Γ' : Gm} {v : V} {d e : D} {i j : Nat} {ta : TA} {tb te tr tn : TE} {tt tu : TT} {t : TS} {N N1 : Gm → Iv → Prop} {R : Ro → Iv → Prop} {r scr : Addr} {E : XK} {P : Program} {w : World} {K : PySem.W.Frag} {a : Ad} {S : FS} {F : FA} {G : MA}
theorem ModAt.hide {M N : Ads} (h : ModAt M H G S) (s : ∀ b ∈ N, b ∈ M ∨ b ∈ G.foot) : ModAt N H G S := by
  obtain ⟨vps, vss, h1, h2, h3, h4, h5, h6, h7, h8⟩ := h
  have tup : ∀ b xs, hid M H b = some (.tup xs) → hid N H b = some (.tup xs) := fun b xs hb => by
    obtain ⟨m, hb⟩ := hid_some hb
    refine (hid_out fun y => ?_).trans hb
    rcases s b y with y | y
    · exact m y
    · have hb2 : b = G.m ∨ b = G.lf ∨ b = G.lp ∨ b = G.ls ∨ b = G.lm := by simpa [MA.foot] using y
      rcases hb2 with rfl | rfl | rfl | rfl | rfl
      · rw [h1] at hb; cases hb
      · rw [h2] at hb; cases hb
      · rw [h3] at hb; cases hb
      · rw [h5] at hb; cases hb
      · rw [h7] at hb; cases hb
  have key : ∀ {vs : List V} {ds : List D}, Dts (hid M H) vs ds → (∀ d ∈ ds, noL d = true) → Dts (hid N H) vs ds := by
    intro vs ds r
    induction r with
    | nil => exact fun _ => .nil
    | cons r t ih => exact fun hn => .cons (r.nol tup (hn _ List.mem_cons_self)) (ih fun d hd => hn d (List.mem_cons_of_mem _ hd))
  refine ⟨vps, vss, h1, h2, h3, key h4 fun d hd => ?_, h5, key h6 fun d hd => ?_, h7, h8⟩
  · obtain ⟨p, _, rfl⟩ := List.mem_map.mp hd
    exact noL_page p
  · obtain ⟨p, _, rfl⟩ := List.mem_map.mp hd
    exact noL_cell p
theorem ModAt.live (h : ModAt (N := M) H G S) : ∀ b ∈ G.foot, H b ≠ none := by
  obtain ⟨vps, vss, h1, h2, h3, h4, h5, h6, h7, h8⟩ := h
  intro b y
  have hb2 : b = G.m ∨ b = G.lf ∨ b = G.lp ∨ b = G.ls ∨ b = G.lm := by simpa [MA.foot] using y
  rcases hb2 with rfl | rfl | rfl | rfl | rfl
  · rw [h1]; nofun
  · rw [h2]; nofun
  · rw [h3]; nofun
  · rw [h5]; nofun
  · rw [h7]; nofun
/-- m = _law_made(shape, rows) -/
theorem fw_made {room fill spare : Nat} {rs : List Row} (ha : EvA X Φ ta Γ [shapeD room fill spare, dList rs]) (h1 : 1 ≤ fill) (h2 : fill ≤ 1000) (h3 : spare ≤ 1000) (h4 : rs.length ≤ 1000)
    (n : ∀ G : MA, (∀ b ∈ G.foot, b ∉ Φ.fp) → N (Γ.set i (.val (.ref G.m))) (Φ.and (ivM G (mkFS room fill spare rs)))) : FW X (tAsg (tCall (sp_law_made P w K a) [] E ta) (gName i)) Γ Φ N R := fun L H σ D c g k _ =>
  ha L H σ c g _ fun vs H1 e1 r => by
    have c1 := c.up e1
    rw [List.append_nil]
    refine ⟨hdn X Φ L, room, fill, spare, rs, c1.lv, r, h1, h2, h3, h4, fun G H' e2 fr md => ?_⟩
    obtain ⟨c2, s2⟩ := Cur.add (Ψ := ivM G (mkFS room fill spare rs)) c1 e2 fr md.live (md.hide fun b hb => mem_and.mp hb)
    have g2 := (g.up e1).kp s2 (Kp.same c1 e2)
    exact k L H' _ _ _ c2 ((Same.s (Same.hid e1)).trans s2) (g2.set (s := .val (.ref G.m)) rfl) (n G fun b hb z => c1.lv b (Or.inr (Or.inr z)) (fr b hb))
theorem FileAt.live (h : FileAt P w a M H F S) : ∀ b ∈ F.foot, H b ≠ none := h.at0.lv
theorem FileAt.hide {M N : Ads} {A : Ads} (h : FileAt P w a M H F S) (hA : ∀ l ∈ A, l ∉ F.foot ∧ ∃ xs, H l = some (.lst xs)) (s : ∀ b ∈ N, b ∈ M ∨ b ∈ F.foot ∨ b ∈ A) : FileAt P w a N H F S := by
  have h1 : FileAt P w a (HAppend.hAppend M A) H F S := (ivF P w a F S).nol A hA h
  refine (ivF P w a F S).up [] (fun _ _ _ h => h) (fun z hz => by cases hz) (fun b o hb z => ?_) h1
  obtain ⟨m, hb⟩ := hid_some hb
  refine (hid_out fun y => ?_).trans hb
  rcases s b y with y | y | y
  · exact m (Or.inl y)
  · have := h.noseq b y o hb
    rw [this] at z
    cases z
  · exact m (Or.inr y)
/-- f = File(..), the rows handed in being a tree of one's own -/
theorem fw_file {room fill spare : Nat} {rs : List Row} (ht : Γ[j]? = some (.tre (dList rs))) (ha : EvA X Φ ta (Γ.set j (.dat (dList rs))) [dInt room, dInt fill, dInt spare, dList rs]) (h1 : 1 ≤ fill) (h2 : fill ≤ room) (h3 : room ≤ 4) (h4 : spare ≤ 20) (h5 : badRow (rs.map dRow) = none)
    (n : ∀ F : FA, (∀ b ∈ F.foot, b ∉ Φ.fp) → N (Γ.set i (.val (.ref F.f))) (Φ.and (ivF P w a F (mkFS room fill spare rs)))) : FW X (tAsg (tMake a.File (sp_File___init P w K a) [] E ta) (gName i)) Γ Φ N R := fun L H σ D c g k _ => by
  obtain ⟨L', sub, rem, c', g'⟩ := borrow c g ht
  refine ha L' H σ c' g' _ fun vs H1 e1 r x dx nx ndx ne => ?_
  have c1 := c'.up e1
  have sm : Same H1 (upd (upd H1 dx (.own x)) x (.ins a.File dx [])) := fun b o hb => by
    rw [upd_ne (ne_of_none hb nx), upd_ne (ne_of_none hb ndx)]
    exact hb
  have c1' := c1.up sm
  have hsh : shapeOk (dInt room) (dInt fill) (dInt spare) = true := by
    have a1 : isNum (dInt room) 1 4 = true := by simp [isNum]; omega
    have a2 : isNum (dInt fill) 1 room = true := by simp [isNum]; omega
    have a3 : isNum (dInt spare) 0 20 = true := by simp [isNum]; omega
    simp only [shapeOk]
    rw [a1, a2, a3]
    rfl
  rw [List.append_nil]
  refine ⟨hdn X Φ L', x, dx, vs, dInt room, dInt fill, dInt spare, rs.map dRow, rfl, c1'.lv, upd_same, r.mono (Same.s (Same.hid sm)), (fun z => by rw [hsh] at z; cases z), (fun _ i hi => by rw [h5] at hi; cases hi), fun room2 fill2 spare2 rs2 q1 q2 q3 _ _ _ _ _ q4 _ F H' hF fr b fa => ⟨rfl, ?_⟩⟩
  have e1' : room = room2 := by
    have := q1
    simp [dInt] at this
    omega
  have e2' : fill = fill2 := by
    have := q2
    simp [dInt] at this
    omega
  have e3' : spare = spare2 := by
    have := q3
    simp [dInt] at this
    omega
  have e4' : rs = rs2 := by
    have : rowsD (rs.map dRow) = rowsD (rs2.map dRow) := by rw [q4]
    rw [rowsD_of, rowsD_of] at this
    exact Option.some.inj this
  subst e1' e2' e3' e4'
  have frH1 : ∀ y ∈ F.foot, H1 y = none := fun y hy => by
    have hy : y = F.f ∨ y = F.s ∨ y = F.c ∨ y = F.m := by simpa [FA.foot] using hy
    rcases hy with rfl | rfl | rfl | rfl
    · rw [hF]; exact nx
    · exact sm.free (fr _ (by simp))
    · exact sm.free (fr _ (by simp))
    · exact sm.free (fr _ (by simp))
  have e12 : Same H1 H' := fun y o hy => b.keep y o (by
    intro z
    have : y = x := by simpa using z
    rw [this, nx] at hy
    cases hy) (sm _ _ hy)
  have eAll := e1.trans e12
  have cc := c.up e1
  have hf : FileAt P w a (hdn X (Φ.and (ivF P w a F (mkFS room fill spare rs))) L) H' F (mkFS room fill spare rs) := by
    refine FileAt.hide (A := fun l => ∃ q ∈ L, q.2 = l ∧ q ∉ L' ∧ ∃ xs, H' l = some (.lst xs)) fa (fun l hl => ?_) fun y hy => ?_
    · obtain ⟨q, hq, rfl, _, hx⟩ := hl
      exact ⟨fun z => cc.lv q.2 (Or.inl (List.mem_map.mpr ⟨q, hq, rfl⟩)) (frH1 _ z), hx⟩
    · rcases mem_and.mp hy with (hy | hy) | hy
      · obtain ⟨q, hq, rfl⟩ := List.mem_map.mp hy
        by_cases m : q ∈ L'
        · exact .inl (Or.inl (List.mem_map.mpr ⟨q, m, rfl⟩))
        · rcases rem q hq with z | ⟨xs, hx⟩
          · exact absurd z m
          · exact .inr (.inr ⟨q, hq, rfl, m, xs, eAll _ _ hx⟩)
      · exact .inl (Or.inr hy)
      · exact .inr (.inl hy)
  obtain ⟨c2, s2⟩ := Cur.add (Ψ := ivF P w a F (mkFS room fill spare rs)) cc e12 frH1 fa.live hf
  have g2 := (g.up e1).kp s2 (Kp.same cc e12)
  rw [← hF]
  exact k L H' _ _ _ c2 ((Same.s (Same.hid e1)).trans s2) (g2.set (s := .val (.ref F.f)) rfl) (n F fun y hy z => cc.lv y (Or.inr (Or.inr z)) (frH1 y hy))
/-- row = [script, 0, 0, 0], and what comes behind it -/
theorem law_enter {Ns : List Str} {ns : List Int} {Q : VK} (hN : 1 < Ns.length) (hs : SqF K H scr (ns.map V.int)) (h : ∀ (X : Wd) (r : Addr), RowOf K X (ivRow K r scr) r scr → FW X t ((List.replicate Ns.length Sl.no).set 1 (.val (.ref r))) (ivRow K r scr) (fun _ _ => False) (fun ro _ => ro = .dat (.bool true))) (hq : ∀ H', Q (.bl true) H') :
    tSeq (tAsg (tLst (tCons (tVar 0) (tCons (tC (.int 0)) (tCons (tC (.int 0)) (tCons (tC (.int 0)) tNil))))) (gName 1)) t { nx := fun _ H' => Q .non H', rt := Q } (L2.start Ns [.ref scr]) H := by
  refine ⟨_, rfl, by show 4 ≤ sizeLine; decide, fun r nr => ?_⟩
  have e := new_same (o := .lst [.ref scr, .int 0, .int 0, .int 0]) nr
  have ra : RowAt K (upd H r (.lst [.ref scr, .int 0, .int 0, .int 0])) r scr := ⟨ns, 0, 0, 0, upd_same, hs.keep fun o z => e _ _ z, by decide, by decide, by decide⟩
  refine h ⟨[r], fun _ => False, upd H r (.lst [.ref scr, .int 0, .int 0, .int 0])⟩ r (rowOf_one (by simp)) [] _ _ _ ⟨But.refl _ _, fun b m => ?_, nofun, nofun, List.nodup_nil, nofun, ra⟩ ⟨?_, fun i s hi => ?_⟩ (fun _ _ _ _ _ _ _ _ z => z.elim) fun v ro H' Φ' _ _ rd ed => ?_
  · rcases m with m | m | m
    · cases m
    · exact m.elim
    · have hb : b = r := by simpa [ivRow] using m
      rw [hb, upd_same]
      nofun
  · simp [L2.start]
    omega
  · by_cases h1 : i = 1
    · subst h1
      rw [List.getElem?_set_self (by simpa using hN)] at hi
      cases hi
      show ((L2.start Ns [.ref scr]).set 1 (some (.ref r)))[1]? = some (some (.ref r))
      rw [List.getElem?_set_self (by simp [L2.start]; omega)]
    · rw [List.getElem?_set_ne (Ne.symm h1)] at hi
      rw [List.eq_of_mem_replicate (List.mem_of_getElem? hi)]
      trivial
  · subst ed
    cases rd
    exact hq H'
end
end Sp

set_option Elab.async false
set_option linter.all false
set_option maxRecDepth 100000
set_option maxHeartbeats 4000000
/-! Plain facts of a new file. -/
namespace Sp
open PySem L2 SM SR SD SE
theorem mk_chain {room fill spare : Nat} {rs : List Row} {pg : Pg} (h : pg ∈ (mkFS room fill spare rs).pages) : chainOf (mkFS room fill spare rs) pg = [] ∧ pg.2 = none := by
  obtain ⟨p, _, rfl⟩ := List.mem_map.mp h
  exact ⟨rfl, rfl⟩
theorem parts_le {n : Nat} {rs p : List Row} (hn : 0 < n) (hp : p ∈ partsOf n rs) : p.length ≤ n := by
  unfold partsOf at hp
  split at hp
  · rw [List.mem_singleton.mp hp]
    simp
  · rw [parts_eq hn _ _ (Nat.le_refl _)] at hp
    obtain ⟨j, _, rfl⟩ := List.mem_map.mp hp
    simp
    omega
theorem mk_wf {room fill spare : Nat} {rs : List Row} (h1 : 1 ≤ fill) (h2 : fill ≤ 4) (h3 : rs.length ≤ 900) : WFc (mkFS room fill spare rs) := by
  have hl := parts_len (n := fill) (rs := rs) (by omega)
  refine ⟨fun pg h => ?_, fun pg h => ?_, ?_⟩
  · obtain ⟨e1, e2⟩ := mk_chain h
    rw [e1, e2]
    exact .nil
  · obtain ⟨p, hp, rfl⟩ := List.mem_map.mp h
    have := parts_le (by omega) hp
    show p.length ≤ 4
    omega
  · simp [mkFS]
    omega
theorem parts_flat {n : Nat} (hn : 0 < n) : ∀ (k : Nat) (rs : List Row), rs.length ≤ k → (parts n k rs).flatten = rs
  | 0, rs, h => by
    have : rs = [] := List.length_eq_zero_iff.mp (by omega)
    subst this
    rfl
  | k + 1, [], h => rfl
  | k + 1, r :: rs, h => by
    have hd : ((r :: rs).drop n).length ≤ k := by
      simp only [List.length_drop, List.length_cons] at h ⊢
      omega
    unfold parts
    rw [List.flatten_cons, parts_flat hn k _ hd, List.take_append_drop]
theorem partsOf_flat {n : Nat} {rs : List Row} (hn : 0 < n) : (partsOf n rs).flatten = rs := by
  unfold partsOf
  split
  · rename_i h
    rw [h]
    rfl
  · exact parts_flat hn _ _ (Nat.le_refl _)
theorem mk_rows {room fill spare : Nat} {rs : List Row} (h1 : 1 ≤ fill) : allRows (mkFS room fill spare rs) = rs := by
  have key : ∀ ps : List (List Row), (ps.map fun p => ((p, none) : Pg)).flatMap (rowsOf (mkFS room fill spare rs)) = ps.flatten := by
    intro ps
    induction ps with
    | nil => rfl
    | cons p ps ih =>
      rw [List.map_cons, List.flatMap_cons, ih, List.flatten_cons]
      congr 1
      show p ++ [] = p
      rw [List.append_nil]
  exact (key _).trans (partsOf_flat (by omega))
theorem mk_looks {room fill spare : Nat} {rs : List Row} : manyLooks (mkFS room fill spare rs) (mkFS room fill spare rs).pages = (partsOf fill rs).length := by
  have key : ∀ ps : List (List Row), ((ps.map fun p => ((p, none) : Pg)).map fun pg => 1 + (chainOf (mkFS room fill spare rs) pg).length).sum = ps.length := by
    intro ps
    induction ps with
    | nil => rfl
    | cons p ps ih =>
      rw [List.map_cons, List.map_cons, List.sum_cons, ih, List.length_cons]
      show 1 + 0 + ps.length = ps.length + 1
      omega
  exact key _
end Sp

set_option Elab.async false
set_option linter.all false
set_option maxRecDepth 100000
set_option maxHeartbeats 4000000
/-! A key's worth is on its page. -/
namespace Sp
open PySem L2 SM SR SD SE
theorem lastVal_app (a b : List Row) (k : Int) : lastVal (a ++ b) k = match lastVal b k with | some v => some v | none => lastVal a k := by
  unfold lastVal
  rw [List.foldl_append]
  generalize a.foldl _ _ = o
  induction b generalizing o with
  | nil => rfl
  | cons r b ih =>
    rw [List.foldl_cons, List.foldl_cons]
    by_cases h : r.1 = k
    · rw [if_pos h, if_pos h, ih (some r.2)]
      cases b.foldl (fun o r => if r.1 = k then some r.2 else o) none <;> rfl
    · rw [if_neg h, if_neg h]
      exact ih o
theorem lastVal_none {a : List Row} {k : Int} (h : ∀ r ∈ a, r.1 ≠ k) : lastVal a k = none := by
  unfold lastVal
  induction a with
  | nil => rfl
  | cons r a ih =>
    rw [List.foldl_cons, if_neg (h r List.mem_cons_self)]
    exact ih fun x hx => h x (List.mem_cons_of_mem _ hx)
theorem filter_none {fs : List Int} {k : Int} (h : ∀ f ∈ fs, ¬ f < k) : atP fs k = 0 := by
  unfold atP
  rw [List.filter_eq_nil_iff.mpr fun f hf => by simpa using h f hf]
  rfl
/-- rows by pages, the keys rising -/
theorem page_val (k : Int) : ∀ ps : List (List Row), ps ≠ [] → (∀ p ∈ ps.dropLast, p ≠ []) → ps.flatten.Pairwise (fun x y => x.1 < y.1) → lastVal ps.flatten k = lastVal (ps.getD (atP (fencesOf ps) k) []) k
  | [], h, _, _ => absurd rfl h
  | [p], _, _, _ => by
    show lastVal ([p].flatten) k = lastVal p k
    simp
  | p :: q :: ps, _, hn, hr => by
    have hp : p ≠ [] := hn p (by simp [List.dropLast])
    obtain ⟨l, hl⟩ : ∃ l, p.getLast? = some l := by
      cases h : p.getLast? with
      | none => exact absurd (by simpa using h) hp
      | some l => exact ⟨l, rfl⟩
    have hlm : l ∈ p := List.mem_of_getLast? hl
    have ef : fencesOf (p :: q :: ps) = l.1 :: fencesOf (q :: ps) := by
      simp [fencesOf, List.dropLast, hl]
    rw [List.flatten_cons] at hr ⊢
    obtain ⟨h1, h2, h3⟩ := List.pairwise_append.mp hr
    have le : ∀ x ∈ p, x.1 ≤ l.1 := fun x hx => by
      have hsp : p = p.dropLast ++ [l] := by
        have h4 := List.dropLast_concat_getLast hp
        have h5 : p.getLast hp = l := by
          rw [List.getLast?_eq_some_getLast hp] at hl
          exact Option.some.inj hl
        rw [h5] at h4
        exact h4.symm
      rw [hsp] at hx h1
      rcases List.mem_append.mp hx with hx | hx
      · have := (List.pairwise_append.mp h1).2.2 x hx l (by simp)
        omega
      · rw [List.mem_singleton.mp hx]
        exact Int.le_refl _
    have ff : ∀ f ∈ fencesOf (q :: ps), ∃ y ∈ (q :: ps).flatten, y.1 = f := fun f hf => by
      unfold fencesOf at hf
      obtain ⟨s, hs, e⟩ := List.mem_map.mp hf
      have hs2 : s ∈ q :: ps := (List.dropLast_sublist _).subset hs
      have hsn : s ≠ [] := hn s (by rw [List.dropLast_cons_of_ne_nil (by simp)]; exact List.mem_cons_of_mem _ hs)
      cases h : s.getLast? with
      | none => exact absurd (by simpa using h) hsn
      | some y =>
        rw [h] at e
        exact ⟨y, List.mem_flatten.mpr ⟨s, hs2, List.mem_of_getLast? h⟩, e⟩
    rw [lastVal_app, ef]
    by_cases hk : l.1 < k
    · have e0 : lastVal p k = none := lastVal_none fun x hx z => by
        have := le x hx
        omega
      have ea : atP (l.1 :: fencesOf (q :: ps)) k = atP (fencesOf (q :: ps)) k + 1 := by
        unfold atP
        rw [List.filter_cons, if_pos (by simpa using hk), List.length_cons]
      rw [e0, ea, page_val k (q :: ps) (by simp) (fun s hs => hn s (by rw [List.dropLast_cons_of_ne_nil (by simp)]; exact List.mem_cons_of_mem _ hs)) h2]
      simp only [List.getD_cons_succ]
      cases lastVal ((q :: ps).getD (atP (fencesOf (q :: ps)) k) []) k <;> rfl
    · have e0 : lastVal (q :: ps).flatten k = none := lastVal_none fun x hx z => by
        have := h3 l hlm x hx
        omega
      have ea : atP (l.1 :: fencesOf (q :: ps)) k = 0 := filter_none fun f hf => by
        rcases List.mem_cons.mp hf with rfl | hf
        · exact hk
        · obtain ⟨y, hy, e⟩ := ff f hf
          have := h3 l hlm y hy
          omega
      rw [e0, ea]
      rfl
end Sp

set_option Elab.async false
set_option linter.all false
set_option maxRecDepth 100000
set_option maxHeartbeats 4000000
/-! Readings, printed by gen.py. -/
namespace Sp
open PySem L2 SM SR SD SE
def t_law (P : Program) (w : World) (K : PySem.W.Frag) (a : Ad) (E : XK) : TS :=
  (tSeq (tAsg (tLst (tCons (tVar 0) (tCons (tC (.int 0)) (tCons (tC (.int 0)) (tCons (tC (.int 0)) tNil))))) (gName 1)) (tSeq (tFor (iRng1 (tCons (tC (.int 4)) tNil)) (gName 2) (tSeq (tPar 3 4 (tCons (tCall (sp_law_shape P w K a) [] E (tCons (tVar 1) tNil)) (tCons (tCall (sp_law_rows P w K a) [] E (tCons (tVar 1) (tCons (tC (.int 40)) tNil))) tNil))) (tSeq (tAsg (tCall (sp_law_made P w K a) [] E (tCons (tVar 3) (tCons (tVar 4) tNil))) (gName 5)) (tSeq (tAsg (tCB (rListU K) (tCons (tVar 4) tNil)) (gName 6)) (tSeq (tAsg (tMake a.File (sp_File___init P w K a) [] E (tCons (tOp (rIxU P w K) (tVar 3) (tC (.int 0))) (tCons (tOp (rIxU P w K) (tVar 3) (tC (.int 1))) (tCons (tOp (rIxU P w K) (tVar 3) (tC (.int 2))) (tCons (tVar 6) tNil))))) (gName 7)) (tSeq (tDrop (tBM K "list" rAppend (tVar 6) (tCons (tTup tNil) tNil))) (tSeq (tFor (iRng1 (tCons (tC (.int 2)) tNil)) (gName 8) (tSeq (tAsg (tLst (tCons (tMeth a.File "picture" (sp_File_picture P w K a) [] E (tVar 7) tNil) (tCons (tMeth a.File "writes" (sp_File_writes P w K a) [] E (tVar 7) tNil) (tCons (tMeth a.File "walk" (sp_File_walk P w K a) [] E (tVar 7) tNil) tNil)))) (gName 9)) (tSeq (tIfS (tNot (tB (tCall (sp_law_alike P w K a) [] E (tCons (tVar 9) (tCons (tLst (tCons (tCall (sp_law_picture P w K a) [] E (tCons (tVar 5) tNil)) (tCons (tC (.int 0)) (tCons (tTup (tCons (tVar 4) (tCons (tCB (rLenU K) (tCons (tOp (rIxU P w K) (tVar 5) (tC (.str "pages"))) tNil)) tNil))) tNil)))) tNil))))) (tRet (tC (.bl false))) tNext) (tDrop (tBM K "list" rAppend (tOp (rIxU P w K) (tOp (rIxU P w K) (tVar 9) (tC (.int 2))) (tC (.int 0))) (tCons (tTup tNil) tNil)))))) (tSeq (tAsg (tOp (rAddU K) (tOp (rAddU K) (tLst (tCons (tC (.int 0)) (tCons (tC (.int 999)) tNil))) (tLc (iSeqU K (tVar 4)) (gName 13) tYes (tOp (rIxU P w K) (tVar 13) (tC (.int 0))) [13])) (tLc (iRng1 (tCons (tC (.int 9)) tNil)) (gName 12) tYes (tCall (sp_law_taken P w K a) [] E0 (tCons (tVar 1) (tCons (tC (.int 1000)) tNil))) [12])) (gName 10)) (tFor (iSeqU K (tVar 10)) (gName 11) (tIfS (tNot (tB (tCall (sp_law_alike P w K a) [] E (tCons (tLst (tCons (tMeth a.File "found" (sp_File_found P w K a) [] E (tVar 7) (tCons (tVar 11) tNil)) (tCons (tMeth a.File "looks" (sp_File_looks P w K a) [] E (tVar 7) (tCons (tVar 11) tNil)) tNil))) (tCons (tLst (tCons (tDGet1 (tCB (rDictU K) (tCons (tVar 4) tNil)) (tVar 11)) (tCons (tC (.int 1)) tNil))) tNil))))) (tRet (tC (.bl false))) tNext)))))))))) (tRet (tC (.bl true)))))
abbrev n_law : List Str := ["_law_script", "_law_row", "_law_turn", "_law_shape_here", "_law_some", "_law_m", "_law_handed", "_law_file", "_law_again", "_law_found", "_law_keys", "_law_key", "_law_k", "_law_one"]
end Sp

set_option Elab.async false
set_option linter.all false
set_option maxRecDepth 100000
set_option maxHeartbeats 4000000
/-! Methods of a file in any slot; defs that read the laws' file. -/
namespace Sp
open PySem L2 SM SR SD SE
section
variable {P : Program} {w : World} {K : PySem.W.Frag} {a : Ad} {X : Wd} {Φ : Iv} {Γ : Gm} {d : D} {E : XK} {ta : TA} {m : Str} {ds : List D} {r : Rs} {F : FA} {S : FS} {G : MA} {i : Nat}
theorem er_selfI {f : FS → List D → Option Rs} (h : FIn P w a Φ F S) (wf : WFc S) (hv : Γ[i]? = some (.val (.ref F.f))) (ha : EvA X Φ ta Γ ds) (e : f S ds = some r) (hm : (fF S.room S.spare F.s F.m S.count).lookup m = none := by rfl) :
    EvR X Φ (tMeth a.File m (SpO (AtF P w a) f) [] E (tVar i) ta) Γ E r :=
  er_meth (evv_var hv) (fun N G p => by
    obtain ⟨dx, cs, h1, h2, h3, h4⟩ := h N G p
    exact ⟨dx, _, h1, hm⟩) (fun N G p => ⟨F, rfl, h N G p, wf⟩) ha e
theorem ev_selfI {f : FS → List D → Option Rs} (h : FIn P w a Φ F S) (wf : WFc S) (hv : Γ[i]? = some (.val (.ref F.f))) (ha : EvA X Φ ta Γ ds) (e : f S ds = some (.ok d)) (hm : (fF S.room S.spare F.s F.m S.count).lookup m = none := by rfl) :
    Ev X Φ (tMeth a.File m (SpO (AtF P w a) f) [] E (tVar i) ta) Γ d := ev_ok (er_selfI h wf hv ha e hm)
/-- Φ holds the laws' file -/
abbrev MIn (Φ : Iv) (G : MA) (S : FS) : Prop := ∀ N Hh, Φ.p N Hh → ModAt N Hh G S
theorem ev_callM {f : FS → List D → Option Rs} {tm : TE} (h : MIn Φ G S) (hv : EvV X Φ tm Γ (.ref G.m)) (ha : EvA X Φ ta Γ ds) (e : f S ds = some (.ok d)) : Ev X Φ (tCall (SpO AtM f) [] E (tCons tm ta)) Γ d := fun L H σ c g Q q =>
  hv L H σ c g _ fun H1 e1 => ha L H1 σ (c.up e1) (g.up e1) _ fun vs H2 e2 rr => by
    have cc := c.up (e1.trans e2)
    show SpO AtM f ((V.ref G.m :: vs) ++ []) H2 Q E
    rw [List.append_nil]
    refine ⟨_, G.m, vs, S, ds, rfl, cc.lv, ⟨G, rfl, h _ _ cc.at_⟩, rr, ?_⟩
    rw [e]
    exact fun v H' e3 r3 => q v H' ((e1.trans e2).trans e3) r3
/-- len(m['pages']) -/
theorem ev_lenPages (h : MIn Φ G S) (hv : Γ[i]? = some (.val (.ref G.m))) : Ev X Φ (tCB (rLenU K) (tCons (tOp (rIxU P w K) (tVar i) (tC (.str "pages"))) tNil)) Γ (dInt S.pages.length) := fun L H σ c g Q q => by
  obtain ⟨vps, vss, h1, h2, h3, h4, h5, h6, h7, h8⟩ := h _ _ c.at_
  refine ⟨_, g.ok i _ hv, .inr (.inl ⟨G.m, .ref G.lp, rfl, .inl ⟨_, .inr "pages", .inl h1, rfl, rfl⟩, _, _, rfl, .inl ⟨_, SqL.of h3, rfl⟩, ?_⟩)⟩
  have e := Dts.len h4
  rw [List.length_map] at e
  rw [e]
  exact q _ H (Same.refl H) (.int _)
end
end Sp

set_option Elab.async false
set_option linter.all false
set_option maxRecDepth 100000
set_option maxHeartbeats 4000000
/-! Law k02. -/
namespace Sp
open PySem L2 SM SR SD SE
theorem rows_bad {rs : List Row} (h : RowsOk rs) (hl : rs.length ≤ 40) : badRow (rs.map dRow) = none := by
  unfold badRow
  rw [List.find?_eq_none]
  intro i hi
  have hi : i < rs.length := by simpa using hi
  have hg : ∀ j, j < rs.length → (rs.map dRow).getD j .none = dRow (rs.getD j (0, 0)) := fun j hj => by simp [hj]
  have hm : ∀ j (hj : j < rs.length), rs.getD j (0, 0) = rs[j] := fun j hj => by simp [hj]
  have h1 := h.num rs[i] (List.getElem_mem hi)
  have h40 : ¬ 40 ≤ i := by omega
  have hrow : isRow (dRow rs[i]) = true := by
    simp only [isRow, isNum, Bool.and_eq_true, decide_eq_true_eq]
    omega
  unfold badRowAt
  rw [hg i hi, hm i hi, hrow]
  by_cases h0 : 0 < i
  · rw [hg (i - 1) (by omega), hm (i - 1) (by omega)]
    have := List.pairwise_iff_getElem.mp h.rise (i - 1) i (by omega) hi (by omega)
    have e3 : decide (keyOfRow (dRow rs[i]) ≤ keyOfRow (dRow rs[i - 1])) = false := decide_eq_false (by show ¬ rs[i].1 ≤ rs[i - 1].1; omega)
    rw [e3, decide_eq_false h40]
    simp
  · simp [h40, h0]
theorem parts_neK {n : Nat} (hn : 0 < n) : ∀ (k : Nat) (rs : List Row), ∀ p ∈ parts n k rs, p ≠ []
  | 0, rs, p, h => by cases h
  | k + 1, [], p, h => by cases h
  | k + 1, r :: rs, p, h => by
    unfold parts at h
    rcases List.mem_cons.mp h with rfl | h
    · obtain ⟨m, rfl⟩ : ∃ m, n = m + 1 := ⟨n - 1, by omega⟩
      simp
    · exact parts_neK hn k _ p h
theorem partsOf_ne {n : Nat} {rs : List Row} (hn : 0 < n) : partsOf n rs ≠ [] ∧ ∀ p ∈ (partsOf n rs).dropLast, p ≠ [] := by
  unfold partsOf
  split
  · exact ⟨by simp, fun p hp => by cases hp⟩
  · rename_i h
    refine ⟨?_, fun p hp => parts_neK hn _ _ p ((List.dropLast_sublist _).subset hp)⟩
    cases rs with
    | nil => exact absurd rfl h
    | cons r rs => simp [parts]
theorem mk_page {room fill spare : Nat} {rs : List Row} (k : Int) : pageAt (mkFS room fill spare rs) k = ((partsOf fill rs).getD (atP (fencesOf (partsOf fill rs)) k) [], none) := by
  show ((partsOf fill rs).map fun p => ((p, none) : Pg)).getD (atP (fencesOf (partsOf fill rs)) k) ([], none) = _
  simp only [List.getD_eq_getElem?_getD, List.getElem?_map]
  cases (partsOf fill rs)[atP (fencesOf (partsOf fill rs)) k]? <;> rfl
theorem mk_found {room fill spare : Nat} {rs : List Row} (h1 : 1 ≤ fill) (hok : RowsOk rs) (k : Int) : lastVal (rowsOf (mkFS room fill spare rs) (pageAt (mkFS room fill spare rs) k)) k = lastVal rs k := by
  rw [mk_page]
  have e : rowsOf (mkFS room fill spare rs) ((partsOf fill rs).getD (atP (fencesOf (partsOf fill rs)) k) [], none) = (partsOf fill rs).getD (atP (fencesOf (partsOf fill rs)) k) [] := by
    show (partsOf fill rs).getD (atP (fencesOf (partsOf fill rs)) k) [] ++ [] = _
    rw [List.append_nil]
  obtain ⟨h2, h3⟩ := partsOf_ne (rs := rs) (show 0 < fill by omega)
  have h4 := page_val k (partsOf fill rs) h2 h3 (by rw [partsOf_flat (by omega)]; exact hok.rise)
  rw [e, ← h4, partsOf_flat (by omega)]
theorem mk_looks1 {room fill spare : Nat} {rs : List Row} (k : Int) : looksOf (mkFS room fill spare rs) k = 1 := by
  unfold looksOf
  rw [mk_page]
  split
  · rfl
  · split
    · rfl
    · show 1 + min _ 0 = 1
      rw [Nat.min_zero]
theorem mk_fnd {a : Ad} {room fill spare : Nat} {rs : List Row} (h1 : 1 ≤ fill) (hok : RowsOk rs) {k : Int} (h2 : 0 ≤ k) (h3 : k ≤ 999) : f_found a (mkFS room fill spare rs) [.int k] = some (.ok (dO (lastVal rs k))) := by
  have : isNum (.int k) 0 999 = true := by simp [isNum]; omega
  show some (if isNum (.int k) 0 999 then _ else _) = _
  rw [if_pos this, mk_found h1 hok]
theorem mk_lks {a : Ad} {room fill spare : Nat} {rs : List Row} {k : Int} (h2 : 0 ≤ k) (h3 : k ≤ 999) : f_looks a (mkFS room fill spare rs) [.int k] = some (.ok (.int 1)) := by
  have : isNum (.int k) 0 999 = true := by simp [isNum]; omega
  show some (if isNum (.int k) 0 999 then _ else _) = _
  rw [if_pos this, mk_looks1]
  rfl
/-! plain trees -/
theorem pl_int {n : Nat} {i : Int} : plainD (n + 1) (.int i) = true := rfl
theorem pl_non {n : Nat} : plainD (n + 1) .none = true := rfl
theorem pl_tup {n : Nat} {ds : List D} (h : ds.length ≤ 10000) (ha : ∀ d ∈ ds, plainD n d = true) : plainD (n + 1) (.tuple ds) = true := by
  simp only [plainD, Bool.and_eq_true, decide_eq_true_eq, List.all_eq_true]
  exact ⟨h, ha⟩
theorem pl_lst {n : Nat} {ds : List D} (h : ds.length ≤ 10000) (ha : ∀ d ∈ ds, plainD n d = true) : plainD (n + 1) (.list ds) = true := by
  simp only [plainD, Bool.and_eq_true, decide_eq_true_eq, List.all_eq_true]
  exact ⟨h, ha⟩
theorem pl_row {n : Nat} (r : Row) : plainD (n + 2) (dRow r) = true := pl_tup (by simp) fun d hd => by
  rcases List.mem_cons.mp hd with rfl | hd
  · rfl
  · rw [List.mem_singleton.mp hd]
    rfl
theorem pl_rows {n : Nat} {rs : List Row} (h : rs.length ≤ 10000) : plainD (n + 3) (dRows rs) = true := pl_tup (by simpa using h) fun d hd => by
  obtain ⟨r, _, rfl⟩ := List.mem_map.mp hd
  exact pl_row r
theorem pl_list {n : Nat} {rs : List Row} (h : rs.length ≤ 10000) : plainD (n + 3) (dList rs) = true := pl_lst (by simpa using h) fun d hd => by
  obtain ⟨r, _, rfl⟩ := List.mem_map.mp hd
  exact pl_row r
theorem pl_link {n : Nat} (l : Option Nat) : plainD (n + 1) (dLink l) = true := by cases l <;> rfl
theorem pl_page {n : Nat} {p : Pg} (h : p.1.length ≤ 10000) : plainD (n + 4) (dPage p) = true := pl_tup (by simp) fun d hd => by
  rcases List.mem_cons.mp hd with rfl | hd
  · exact pl_rows h
  · rw [List.mem_singleton.mp hd]
    exact pl_link _
theorem pl_cell {n : Nat} (c : Option Cl) : plainD (n + 3) (dCell c) = true := by
  cases c with
  | none => rfl
  | some c =>
    refine pl_tup (by simp) fun d hd => ?_
    rcases List.mem_cons.mp hd with rfl | hd
    · exact pl_row _
    · rw [List.mem_singleton.mp hd]
      exact pl_link _
theorem pl_ints {n : Nat} {xs : List Int} (h : xs.length ≤ 10000) : plainD (n + 2) (.tuple (xs.map .int)) = true := pl_tup (by simpa using h) fun d hd => by
  obtain ⟨r, _, rfl⟩ := List.mem_map.mp hd
  rfl
theorem pl_pic {n : Nat} {S : FS} (h1 : S.fences.length ≤ 10000) (h2 : S.pages.length ≤ 10000) (h3 : S.spills.length ≤ 10000) (h4 : ∀ p ∈ S.pages, p.1.length ≤ 10000) : plainD (n + 6) (dPic S) = true := pl_tup (by simp) fun d hd => by
  rcases List.mem_cons.mp hd with rfl | hd
  · exact pl_ints h1
  rcases List.mem_cons.mp hd with rfl | hd
  · exact pl_tup (by simpa using h2) fun d hd => by
      obtain ⟨p, hp, rfl⟩ := List.mem_map.mp hd
      exact pl_page (h4 p hp)
  · rw [List.mem_singleton.mp hd]
    exact pl_tup (by simpa using h3) fun d hd => by
      obtain ⟨p, hp, rfl⟩ := List.mem_map.mp hd
      exact pl_cell p
def dueD (room fill spare : Nat) (rs : List Row) : D := .list [dPic (mkFS room fill spare rs), .int 0, .tuple [dList rs, dInt (partsOf fill rs).length]]
theorem pl_due {room fill spare : Nat} {rs : List Row} (h1 : 1 ≤ fill) (h2 : fill ≤ 4) (h3 : spare ≤ 20) (hl : rs.length ≤ 40) : plainD 16 (dueD room fill spare rs) = true := by
  have wf := mk_wf (room := room) (spare := spare) h1 h2 (show rs.length ≤ 900 by omega)
  have hp := parts_len (n := fill) (rs := rs) (by omega)
  refine pl_lst (by simp) fun d hd => ?_
  rcases List.mem_cons.mp hd with rfl | hd
  · refine pl_pic ?_ ?_ ?_ fun p hp => ?_
    · simp [mkFS, fencesOf]; omega
    · have := wf.np; omega
    · simp [mkFS]; omega
    · have := wf.sz p hp; omega
  rcases List.mem_cons.mp hd with rfl | hd
  · rfl
  · rw [List.mem_singleton.mp hd]
    exact pl_tup (by simp) fun d hd => by
      rcases List.mem_cons.mp hd with rfl | hd
      · exact pl_list (by omega)
      · rw [List.mem_singleton.mp hd]
        rfl
theorem pl_o {n : Nat} (o : Option Int) : plainD (n + 1) (dO o) = true := by cases o <;> rfl
theorem All2.mem {α : Type} {A : α → D → Prop} {xs : List α} {ds : List D} (h : All2 A xs ds) : ∀ d ∈ ds, ∃ x ∈ xs, A x d := by
  induction h with
  | nil =>
    intro d hd
    cases hd
  | cons a t ih =>
    intro d hd
    rcases List.mem_cons.mp hd with rfl | hd
    · exact ⟨_, List.mem_cons_self, a⟩
    · obtain ⟨x, hx, q⟩ := ih d hd
      exact ⟨x, List.mem_cons_of_mem _ hx, q⟩
/-- less is known -/
inductive LeG : Gm → Gm → Prop
  | nil : LeG [] []
  | same {s : Sl} {Γ Δ : Gm} : LeG Γ Δ → LeG (s :: Γ) (s :: Δ)
  | no {s : Sl} {Γ Δ : Gm} : LeG Γ Δ → LeG (.no :: Γ) (s :: Δ)
theorem LeG.len {Γ Δ : Gm} (h : LeG Γ Δ) : Γ.length = Δ.length := by
  induction h <;> simp_all
theorem LeG.at_ {Γ Δ : Gm} (h : LeG Γ Δ) : ∀ (i : Nat) (s : Sl), Γ[i]? = some s → s = Sl.no ∨ Δ[i]? = some s := by
  induction h with
  | nil =>
    intro i s e
    simp at e
  | same t ih =>
    intro i s e
    cases i with
    | zero => exact .inr e
    | succ i => exact ih i s (by simpa using e)
  | no t ih =>
    intro i s e
    cases i with
    | zero => exact .inl (by simpa using e.symm)
    | succ i => exact ih i s (by simpa using e)
def spLaw (K : PySem.W.Frag) : Sp := fun vs H Q E => ∃ (scr : Addr) (ns : List Int), vs = [.ref scr] ∧ SqF K H scr (ns.map V.int) ∧ ∀ H', Q (.bl true) H'
section
variable {P : Program} {w : World} {K : PySem.W.Frag} {a : Ad}
abbrev G0 (r : Addr) : Gm := [.no, .val (.ref r), .no, .no, .no, .no, .no, .no, .no, .no, .no, .no, .no, .no]
theorem pure_law (kc : Kc K a) (vs : List V) (H : Hp) (Q : VK) (E : XK) (h : spLaw K vs H Q E) : t_law P w K a E { nx := fun _ H' => Q .non H', rt := Q } (L2.start n_law vs) H := by
  obtain ⟨scr, ns, rfl, hs, hq⟩ := h
  refine law_enter (K := K) (by decide) hs (fun X r ro => ?_) hq
  refine fw_seq (N1 := fun Γ Φ => Φ = ivRow K r scr ∧ Γ = G0 r) (fw_for (ei_range1 (ea_cons (ev_int 4) ea_nil) (by decide) (by decide)) (fun k Γ Φ => Φ = ivRow K r scr ∧ Γ = G0 r) ⟨rfl, rfl⟩ (fun k d Γ1 Φ1 hk hI => ?_) fun Γ1 Φ1 hI => hI) fun Γ1 Φ1 hI => ?_
  · obtain ⟨rfl, rfl⟩ := hI
    refine ⟨_, tg_name, ?_⟩
    show FW X _ [.no, .val (.ref r), .dat d, .no, .no, .no, .no, .no, .no, .no, .no, .no, .no, .no] (ivRow K r scr) _ _
    -- the shape, the rows
    refine fw_seq (N1 := fun Γ Φ => Φ = ivRow K r scr ∧ ∃ (room fill spare : Nat) (rs : List Row), 1 ≤ fill ∧ fill ≤ room ∧ room ≤ 4 ∧ spare ≤ 20 ∧ rs.length ≤ 40 ∧ RowsOk rs ∧ Γ = [.no, .val (.ref r), .dat d, .dat (shapeD room fill spare), .dat (dList rs), .no, .no, .no, .no, .no, .no, .no, .no, .no])
      (fg_par2 (eg_row (f := f_shape) ro (evv_var rfl) ea_nil ⟨_, rfl, 1, 1, 0, by decide, by decide, by decide, by decide, rfl⟩ fun d1 h1 => eg_row (f := f_rowsL) ro (evv_var rfl) (ea_cons (ev_int 40) ea_nil) ⟨_, 40, by decide, rfl, [], by decide, ⟨.nil, nofun⟩, rfl⟩ fun d2 h2 => ?_)) fun Γ2 Φ2 hI => ?_
    · obtain ⟨_, room, fill, spare, a1, a2, a3, a4, rfl⟩ := h1
      obtain ⟨most, _, e, rs, b1, b2, rfl⟩ := h2
      have : most = 40 := by
        simp [dInt] at e
        omega
      exact ⟨rfl, room, fill, spare, rs, a1, a2, a3, a4, by omega, b2, rfl⟩
    · obtain ⟨rfl, room, fill, spare, rs, a1, a2, a3, a4, hl, hok, rfl⟩ := hI
      refine fw_seq (N1 := fun Γ Φ => ∃ G : MA, (∀ b ∈ G.foot, b ∉ (ivRow K r scr).fp) ∧ Φ = (ivRow K r scr).and (ivM G (mkFS room fill spare rs)) ∧ Γ = [.no, .val (.ref r), .dat d, .dat (shapeD room fill spare), .dat (dList rs), .val (.ref G.m), .no, .no, .no, .no, .no, .no, .no, .no])
        (fw_made (ea_cons (ev_var rfl) (ea_cons (ev_var rfl) ea_nil)) a1 (by omega) (by omega) (by omega) fun G hG => ⟨G, hG, rfl, rfl⟩) fun Γ3 Φ3 hI => ?_
      obtain ⟨G, hG, rfl, rfl⟩ := hI
      refine fw_seq (N1 := fun Γ Φ => Φ = (ivRow K r scr).and (ivM G (mkFS room fill spare rs)) ∧ Γ = [.no, .val (.ref r), .dat d, .dat (shapeD room fill spare), .dat (dList rs), .val (.ref G.m), .tre (dList rs), .no, .no, .no, .no, .no, .no, .no])
        (fw_asgEF (ef_copy (ea_cons (ev_var rfl) ea_nil) fun x hx => by
          obtain ⟨y, _, rfl⟩ := List.mem_map.mp hx
          rfl) ⟨rfl, rfl⟩) fun Γ4 Φ4 hI => ?_
      obtain ⟨rfl, rfl⟩ := hI
      refine fw_seq (N1 := fun Γ Φ => ∃ F : FA, (∀ b ∈ F.foot, b ∉ ((ivRow K r scr).and (ivM G (mkFS room fill spare rs))).fp) ∧ Φ = ((ivRow K r scr).and (ivM G (mkFS room fill spare rs))).and (ivF P w a F (mkFS room fill spare rs)) ∧ Γ = [.no, .val (.ref r), .dat d, .dat (shapeD room fill spare), .dat (dList rs), .val (.ref G.m), .tre (dList rs), .val (.ref F.f), .no, .no, .no, .no, .no, .no])
        (fw_file (j := 6) (rs := rs) (room := room) (fill := fill) (spare := spare) rfl (ea_cons (ev_op (ev_var rfl) (ev_int 0) (od_ixT rfl)) (ea_cons (ev_op (ev_var rfl) (ev_int 1) (od_ixT rfl)) (ea_cons (ev_op (ev_var rfl) (ev_int 2) (od_ixT rfl)) (ea_cons (ev_var rfl) ea_nil)))) a1 a2 a3 a4 (rows_bad hok hl) fun F hF => ⟨F, hF, rfl, rfl⟩) fun Γ5 Φ5 hI => ?_
      obtain ⟨F, hF, rfl, rfl⟩ := hI
      refine fw_seq (N1 := fun Γ Φ => Φ = ((ivRow K r scr).and (ivM G (mkFS room fill spare rs))).and (ivF P w a F (mkFS room fill spare rs)) ∧ Γ = [.no, .val (.ref r), .dat d, .dat (shapeD room fill spare), .dat (dList rs), .val (.ref G.m), .no, .val (.ref F.f), .no, .no, .no, .no, .no, .no])
        (fw_treApp (i := 6) (d := dList rs) rfl ep_var (ev_tup ea_nil (by simp)) (by simp; omega) ⟨rfl, rfl⟩) fun Γ6 Φ6 hI => ?_
      obtain ⟨rfl, rfl⟩ := hI
      have nr1 : r ∉ (ivM G (mkFS room fill spare rs)).fp := fun z => hG r z (by simp [ivRow])
      have nr2 : r ∉ (ivF P w a F (mkFS room fill spare rs)).fp := fun z => hF r z (List.mem_append_left _ (by simp [ivRow]))
      have ro3 := (ro.and nr1).and nr2
      have wf := mk_wf (room := room) (spare := spare) (rs := rs) a1 (by omega) (by omega)
      have hI : FIn P w a (((ivRow K r scr).and (ivM G (mkFS room fill spare rs))).and (ivF P w a F (mkFS room fill spare rs))) F (mkFS room fill spare rs) := fun _ _ p => p.2
      have hM : MIn (((ivRow K r scr).and (ivM G (mkFS room fill spare rs))).and (ivF P w a F (mkFS room fill spare rs))) G (mkFS room fill spare rs) := fun _ _ p => p.1.2
      -- twice the same is told
      refine fw_seq (N1 := fun Γ Φ => Φ = ((ivRow K r scr).and (ivM G (mkFS room fill spare rs))).and (ivF P w a F (mkFS room fill spare rs)) ∧ ∃ s8, Γ = [.no, .val (.ref r), .dat d, .dat (shapeD room fill spare), .dat (dList rs), .val (.ref G.m), .no, .val (.ref F.f), s8, .no, .no, .no, .no, .no])
        (fw_for (ei_range1 (ea_cons (ev_int 2) ea_nil) (by decide) (by decide)) (fun _ Γ Φ => Φ = ((ivRow K r scr).and (ivM G (mkFS room fill spare rs))).and (ivF P w a F (mkFS room fill spare rs)) ∧ ∃ s8, Γ = [.no, .val (.ref r), .dat d, .dat (shapeD room fill spare), .dat (dList rs), .val (.ref G.m), .no, .val (.ref F.f), s8, .no, .no, .no, .no, .no]) ⟨rfl, .no, rfl⟩ (fun k2 d2 Γ7 Φ7 hk2 hJ => ?_) fun Γ7 Φ7 hJ => hJ) fun Γ7 Φ7 hJ => ?_
      · obtain ⟨rfl, s8, rfl⟩ := hJ
        refine ⟨_, tg_name, ?_⟩
        refine fw_seq (N1 := fun Γ Φ => Φ = ((ivRow K r scr).and (ivM G (mkFS room fill spare rs))).and (ivF P w a F (mkFS room fill spare rs)) ∧ Γ = [.no, .val (.ref r), .dat d, .dat (shapeD room fill spare), .dat (dList rs), .val (.ref G.m), .no, .val (.ref F.f), .dat d2, .tre (dueD room fill spare rs), .no, .no, .no, .no])
          (fw_asgF (d := dueD room fill spare rs) (fun X' => ev_eq (ev_lst (ea_cons (ev_selfI (f := f_picture) hI wf rfl ea_nil rfl) (ea_cons (ev_selfI (f := f_writes) hI wf rfl ea_nil rfl) (ea_cons (ev_selfI (f := f_walk a) hI wf rfl ea_nil rfl) ea_nil))) (by simp)) (by rw [mk_rows a1, mk_looks]; rfl)) ⟨rfl, rfl⟩) fun Γ8 Φ8 hJ => ?_
        obtain ⟨rfl, rfl⟩ := hJ
        refine fw_seq (N1 := fun Γ Φ => Φ = ((ivRow K r scr).and (ivM G (mkFS room fill spare rs))).and (ivF P w a F (mkFS room fill spare rs)) ∧ Γ = [.no, .val (.ref r), .dat d, .dat (shapeD room fill spare), .dat (dList rs), .val (.ref G.m), .no, .val (.ref F.f), .dat d2, .tre (dueD room fill spare rs), .no, .no, .no, .no])
          (fw_if (b := false) (et_borrow (i := 9) rfl (et_eq (et_not (et_B (ev_callP (f := f_alike 16) (ds := [dueD room fill spare rs, dueD room fill spare rs]) (ea_cons (ev_var rfl) (ea_cons (ev_eq (ev_lst (ea_cons (ev_callM (f := f_pictureL) hM (evv_var rfl) ea_nil rfl) (ea_cons (ev_int 0) (ea_cons (ev_tup (ea_cons (ev_var rfl) (ea_cons (ev_lenPages hM rfl) ea_nil)) (by simp)) ea_nil))) (by simp)) (by unfold dueD; simp [mkFS])) ea_nil)) (f_alike_of (pl_due a1 (by omega) a4 hl))))) rfl)) nofun fun _ => fw_next ⟨rfl, rfl⟩) fun Γ9 Φ9 hJ => ?_
        obtain ⟨rfl, rfl⟩ := hJ
        exact fw_treApp (i := 9) rfl (ep_ixT (ep_ixL ep_var rfl) rfl) (ev_tup ea_nil (by simp)) (by simp; omega) ⟨rfl, _, rfl⟩
      obtain ⟨rfl, s8, rfl⟩ := hJ
      refine fw_seq (N1 := fun Γ Φ => Φ = ((ivRow K r scr).and (ivM G (mkFS room fill spare rs))).and (ivF P w a F (mkFS room fill spare rs)) ∧ ∃ ks : List D, (∀ x ∈ ks, ∃ k : Int, 0 ≤ k ∧ k ≤ 999 ∧ x = .int k) ∧ Γ = [.no, .val (.ref r), .dat d, .dat (shapeD room fill spare), .dat (dList rs), .val (.ref G.m), .no, .val (.ref F.f), s8, .no, .dat (.list ks), .no, .no, .no])
        (fg_asg (eg_op (eg_of (ev_op (ev_lst (ea_cons (ev_int 0) (ea_cons (ev_int 999) ea_nil)) (by simp)) (ev_lcm (xs := rs) (enc := dRow) (fun r => .int r.1) (ei_seqL (ev_var rfl)) (by omega) fun x hx => ⟨_, tgw_name, ev_op (ev_var rfl) (ev_int 0) (od_ixT rfl)⟩) (od_addL (by simp; omega)))
          (eg_lcm (xs := List.range 9) (enc := fun k : Nat => .int (0 + (k : Nat) * 1)) (fun _ x => ∃ k : Int, 0 ≤ k ∧ k ≤ 999 ∧ x = .int k) (ei_range1 (ea_cons (ev_int 9) ea_nil) (by decide) (by decide)) (by simp) (fun x hx => ⟨_, tgw_name, eg_taken ro3 (evv_var rfl) (ev_int 1000) (by decide) (by decide) fun k h1 h2 => ⟨⟨k, h1, by omega, rfl⟩, rfl⟩⟩) fun ds h => ⟨_, od_addL (by have := h.len; simp at this; simp; omega), rfl, _, fun x hx => ?_, rfl⟩)))) fun Γ8 Φ8 hJ => ?_
      · rcases List.mem_append.mp hx with hx | hx
        · rcases List.mem_append.mp hx with hx | hx
          · rcases List.mem_cons.mp hx with rfl | hx
            · exact ⟨0, by decide, by decide, rfl⟩
            · rw [List.mem_singleton.mp hx]
              exact ⟨999, by decide, by decide, rfl⟩
          · obtain ⟨q, hq, rfl⟩ := List.mem_map.mp hx
            have := hok.num q hq
            exact ⟨q.1, by omega, by omega, rfl⟩
        · obtain ⟨_, _, q⟩ := All2.mem h x hx
          exact q
      obtain ⟨rfl, ks, hks, rfl⟩ := hJ
      refine fw_post (N1 := fun Γ Φ => Φ = ((ivRow K r scr).and (ivM G (mkFS room fill spare rs))).and (ivF P w a F (mkFS room fill spare rs)) ∧ ∃ s11, Γ = [.no, .val (.ref r), .dat d, .dat (shapeD room fill spare), .dat (dList rs), .val (.ref G.m), .no, .val (.ref F.f), s8, .no, .dat (.list ks), s11, .no, .no])
        (fw_for (ei_seqL (ev_var rfl)) (fun _ Γ Φ => Φ = ((ivRow K r scr).and (ivM G (mkFS room fill spare rs))).and (ivF P w a F (mkFS room fill spare rs)) ∧ ∃ s11, Γ = [.no, .val (.ref r), .dat d, .dat (shapeD room fill spare), .dat (dList rs), .val (.ref G.m), .no, .val (.ref F.f), s8, .no, .dat (.list ks), s11, .no, .no]) ⟨rfl, .no, rfl⟩ (fun k2 d2 Γ7 Φ7 hk2 hJ => ?_) fun Γ7 Φ7 hJ => hJ) fun L1 H1 σ1 Γ1 Φ1 c1 g1 n1 => ?_
      · obtain ⟨rfl, s11, rfl⟩ := hJ
        obtain ⟨k, k0, k9, rfl⟩ := hks d2 (List.mem_of_getElem? hk2)
        refine ⟨_, tg_name, ?_⟩
        exact fw_if (b := false) (et_eq (et_not (et_B (ev_callP (f := f_alike 16) (ds := [.list [dO (lastVal rs k), .int 1], .list [dO (lastVal rs k), .int 1]]) (ea_cons (ev_lst (ea_cons (ev_selfI (f := f_found a) hI wf rfl (ea_cons (ev_var rfl) ea_nil) (mk_fnd a1 hok k0 k9)) (ea_cons (ev_selfI (f := f_looks a) hI wf rfl (ea_cons (ev_var rfl) ea_nil) (mk_lks k0 k9)) ea_nil)) (by simp)) (ea_cons (ev_lst (ea_cons (ev_dget (ea_cons (ev_var rfl) ea_nil) (ev_var rfl)) (ea_cons (ev_int 1) ea_nil)) (by simp)) ea_nil)) (f_alike_of (pl_lst (by simp) fun x hx => by
          rcases List.mem_cons.mp hx with rfl | hx
          · exact pl_o _
          · rw [List.mem_singleton.mp hx]
            rfl))))) rfl) nofun fun _ => fw_next ⟨rfl, _, rfl⟩
      · obtain ⟨rfl, s11, rfl⟩ := n1
        obtain ⟨c2, s2⟩ := c1.and1
        obtain ⟨c3, s3⟩ := c2.and1
        have le : LeG (G0 r) [.no, .val (.ref r), .dat d, .dat (shapeD room fill spare), .dat (dList rs), .val (.ref G.m), .no, .val (.ref F.f), s8, .no, .dat (.list ks), s11, .no, .no] := .same (.same (.no (.no (.no (.no (.same (.no (.no (.same (.no (.no (.same (.same .nil)))))))))))))
        exact ⟨G0 r, ivRow K r scr, c3, s2.trans s3, (g1.kp (s2.trans s3) Kp.refl).less le.len le.at_, rfl, rfl⟩
  · obtain ⟨rfl, rfl⟩ := hI
    exact fw_ret (ev_bl true) rfl
end
end Sp

set_option Elab.async false
set_option linter.all false
set_option maxRecDepth 100000
set_option maxHeartbeats 4000000
/-! The end of a law: facts by looks, the walk. -/
namespace Sp
open PySem PySem.Spec PyProof.Rows L2 SM SR SD SE
/-- an exception class with an __init__ of its own -/
def oexB (K : PySem.W.Frag) (C : Addr) : Bool := (match K.lookup C with
  | some ⟨.type "type", _, .cls cd, sl⟩ => (match cd.mro, sl.toList with
    | .ref B :: bm, [_, _, _, _, some (.builtin n), _] => decide (B = C) && (decide (n = "ValueError.__new__") && (cd.hasDict && (!cd.hasDel && PySem.HandSPX.refsVE bm)))
    | _, _ => false)
  | _ => false) && (He.eqO (PySem.W.findIn K (.ref C) "__setattr__") (some (some (.builtin "object.__setattr__"))) && (decide (PySem.W.subIn K (.ref C) (.type "BaseException") = some true) && (decide (PySem.W.typeIn K (.ref C) = some (.type "type")) && PySem.W.keepIn K (.ref C))))
theorem oexB_ok {K : PySem.W.Frag} {C : Addr} (h : oexB K C = true) : OexC K C := by
  obtain ⟨h1, h⟩ := He.ba h
  obtain ⟨h2, h⟩ := He.ba h
  obtain ⟨h3, h⟩ := He.ba h
  obtain ⟨h4, h5⟩ := He.ba h
  refine ⟨?_, He.eqO_ok h2, of_decide_eq_true h3, of_decide_eq_true h4, h5⟩
  split at h1
  · rename_i dd cd sl ho
    split at h1
    · rename_i B bm k0 k1 k2 k3 n k5 hm hs
      obtain ⟨e1, h1⟩ := He.ba h1
      obtain ⟨e2, h1⟩ := He.ba h1
      obtain ⟨e3, h1⟩ := He.ba h1
      obtain ⟨e4, e5⟩ := He.ba h1
      have e1 := of_decide_eq_true e1
      have e2 := of_decide_eq_true e2
      obtain ⟨nm, bs, mro, ns, qn, hd, sn, sub, ab, col, del⟩ := cd
      obtain ⟨l⟩ := sl
      dsimp only at hm hs e3 e4
      have e4 : del = false := by simpa using e4
      subst hm hs e1 e2 e3 e4
      exact ⟨nm, qn, ns, bs, bm, sn, sub, ab, col, dd, k0, k1, k2, k3, k5, ho, e5⟩
    · cases h1
  · cases h1
/-- the class above them -/
def xsB (K : PySem.W.Frag) (C : Addr) : Bool := PySem.W.readsIn K C (.type "type") && (He.eqO (PySem.W.specialIn K (.ref C) "__getattribute__") (some (some (.builtin "type.__getattribute__"))) && (decide (PySem.W.typeIn K (.ref C) = some (.type "type")) && (match PySem.W.findCls K (.ref C) (.type "type") "__init__" with
  | some (.val (.builtin n)) => decide (n = "ValueError.__init__")
  | _ => false)))
theorem xsB_ok {K : PySem.W.Frag} {mg : Str → Option Value} {x : Str} {C : Addr} (g : mg x = some (.ref C)) (h : xsB K C = true) : Xs K mg x C := by
  obtain ⟨h1, h⟩ := He.ba h
  obtain ⟨h2, h⟩ := He.ba h
  obtain ⟨h3, h4⟩ := He.ba h
  refine ⟨g, ⟨h1, He.eqO_ok h2⟩, of_decide_eq_true h3, ?_⟩
  split at h4
  · rename_i n q
    rw [q, of_decide_eq_true h4]
  · cases h4
/-- its field, its __init__ -/
def xfB (K : PySem.W.Frag) (C : Addr) (f : Str) : Bool := oexB K C && (He.eqO (PySem.W.findIn K (.ref C) f) (some none) && (He.eqO (PySem.W.findIn K (.ref C) "__init__") (some (some (.ref (He.ma K C "__init__")))) && decide (PySem.W.typeIn K (.ref (He.ma K C "__init__")) = some (.type "function"))))
theorem xfB_ok {P : Program} {w : World} {K : PySem.W.Frag} {mg : Str → Option Value} {base : Heap} {k : Nat} {x : Str} {C : Addr} {f p : Str} {fd : FuncData} (g : mg x = some (.ref C)) (h : xfB K C f = true) (b : Binds K fd ["self", p] []) (F : FnOk P w K mg base (L2.CX P w) k (He.ma K C "__init__") fd ["self", p] (spXi f K C)) : Xf P w K mg base k x C f := by
  obtain ⟨h1, h⟩ := He.ba h
  obtain ⟨h2, h⟩ := He.ba h
  obtain ⟨h3, h4⟩ := He.ba h
  exact ⟨g, oexB_ok h1, He.eqO_ok h2, _, _, _, He.eqO_ok h3, of_decide_eq_true h4, b, F⟩
theorem xcB_ok {K : PySem.W.Frag} {mg : Str → Option Value} {x : Str} (g : mg x = some (.ref (He.ga K x))) (h : (He.Fa.exc x).ok K = true) : Xc K mg x (He.ga K x) := by
  obtain ⟨h1, h2, h3, h4⟩ := He.exc_ok h
  exact ⟨g, h1, h2, h3, h4⟩
/-- the end, the exceptions' form hanging on the world -/
theorem walk_ofW {l : PySem.W.OpenLaw} {n k : Nat} {q : Program} {loose : List Str} {XP : (Str → Option Value) → Heap → Prop} {YP : World → Heap → Prop} {d : DefRec} {x : Str}
    (hn : l.most = some n) (hn2 : n ≤ sizeLine) (hdf : d.params.defaults = []) (hr : Room k callerA)
    (F : ∀ (w : World) (mg : Str → Option Value) (fa : Addr) (h : Heap), YP w h → h.Ns mainGlobals mg → mg d.name = some (.ref fa) → ∃ (K : PySem.W.Frag) (fd : FuncData) (sp : Sp), K.In h ∧ (∀ (s : Shared) (u : Value), BindsTo s fd ⟨[u], []⟩ [(x, u)]) ∧ (∀ (H : Hp) (a : Addr) (ns : List Int), ns.length ≤ n → Only H → SqL K H a (ns.map V.int) → sp [.ref a] H (fun v _ => v = .bl true) fun _ _ _ => False) ∧ ∀ base : Heap, K.In base → base.Ns mainGlobals mg → FnOk l.prog w K mg base (L2.CX l.prog w) k fa fd [x] sp) :
    PySem.W.WalkO q loose XP YP l.row.toRowW d [] (fun f vs => PySem.call f vs) :=
  Att.attach_call hn hdf fun w s₀ s₁ mg mb fa o pm cd doc a vs ns G Y ho hd hcd hmg hobj hints hlen hg => by
    obtain ⟨K, fd, sp, KX, hb, hsp, hF⟩ := F w mg fa _ Y G.T.g hmg
    refine law_call (CX := L2.CX l.prog w) KX G.T.g G.T.b G.T.builtins G.T.nolimit hg hobj hints (Nat.le_trans hlen hn2) hr hF hb (fun H hO hS => hsp H a ns hlen hO hS) fun H e s' z => ?_
    obtain ⟨_, _, _, _, _, _, _, _, _, _, _, _, f⟩ := z
    exact f
/-! ### the hook, with the statics' table -/
open PySem.W in
def asY (g : Addr → Option Obj) (n : Nat) : List Addr := HAppend.hAppend (He.asD g n) [cStatics]
def frY (g : Addr → Option Obj) (n : Nat) : PySem.W.Frag := He.frT g (asY g n)
def obsY (n : Nat) (fa : List He.Fa) (fn : List He.DefD) (tf : List He.Defn) (ex : PySem.W.Frag → Bool) (g : Addr → Option Obj) : He.AlX := (He.obsT fa fn [] (frY g n), ex (frY g n) && He.tabsB g tf (frY g n))
theorem saysY_of {n : Nat} {fa : List He.Fa} {fn : List He.DefD} {tf : List He.Defn} {ex : PySem.W.Frag → Bool} {w : World} {h : Heap} (e : obsY n fa fn tf ex h.get? = He.valX fn [] w) : He.SaysX fa fn [] tf ex w h (frY h.get? n) := by
  obtain ⟨K, hK⟩ : ∃ K, frY h.get? n = K := ⟨_, rfl⟩
  have e1 : He.obsT fa fn [] K = He.valT fn [] w := hK ▸ congrArg (fun z : He.AlX => z.1) e
  have e2 : (ex K && He.tabsB h.get? tf K) = true := hK ▸ congrArg (fun z : He.AlX => z.2) e
  obtain ⟨h1, h2⟩ := He.ba e2
  have look : ∀ p ∈ tf, PySem.W.codeHdIn K (He.cT K p).1 (He.cT K p).2 = true ∧ ∃ o, h.get? (He.cT K p).2 = some o ∧ He.emptyTab o = true := fun p hp => by
    obtain ⟨h3, h4⟩ := He.ba (List.all_eq_true.mp h2 p hp)
    refine ⟨h3, ?_⟩
    cases q : h.get? (He.cT K p).2 with
    | none => simp [q] at h4
    | some o => exact ⟨o, rfl, by simpa [q] using h4⟩
  rw [hK]
  refine ⟨e1, h1, fun p hp => (look p hp).1, fun p hp => ?_, fun p hp => ?_⟩
  · obtain ⟨_, o, q, z⟩ := look p hp
    rw [← hK] at q ⊢
    exact He.frT_none q z
  · obtain ⟨_, o, q, z⟩ := look p hp
    rw [q, He.emptyTab_eq z]
def hookY (n : Nat) (fa : List He.Fa) (fn : List He.DefD) (tf : List He.Defn) (ex : PySem.W.Frag → Bool) : PySem.W.Hook where
  α := He.AlX
  obs := fun s => obsY n fa fn tf ex s.heap.get?
  val := fun w => He.valX fn [] w
  says := fun w h => ∃ K : PySem.W.Frag, K.In h ∧ He.SaysX fa fn [] tf ex w h K
  of := fun _ _ e => ⟨_, He.frT_in, saysY_of e⟩
  keeps := fun _ _ _ ⟨K, kin, c⟩ k => ⟨K, PySem.W.Frag.In.keeps kin k, c.t, c.more, c.hd, c.out, fun p hp => k _ _ (c.empty p hp)⟩
theorem obsY_eq {n : Nat} {fa : List He.Fa} {fn : List He.DefD} {tf : List He.Defn} {ex : PySem.W.Frag → Bool} {g : Addr → Option Obj} {s : Shared} (h : ∀ a, g a = s.heap.get? a) : obsY n fa fn tf ex g = (hookY n fa fn tf ex).obs s := by
  obtain rfl : g = s.heap.get? := funext h
  rfl
/-! lengths -/
theorem len_P {f : List D → Option Rs} {n : Nat} (h : ∀ ds r, f ds = some r → ds.length = n) : ∀ vs H Q E, SpP f vs H Q E → vs.length = n := fun vs H Q E ⟨M, ds, lv, r, t⟩ => by
  rw [Dts.len r]
  cases e : f ds with
  | none =>
    rw [e] at t
    exact t.elim
  | some x => exact h ds x e
theorem len_O {S : Type} {At : Ads → Hp → Addr → S → Prop} {f : S → List D → Option Rs} {n : Nat} (h : ∀ s ds r, f s ds = some r → ds.length = n) : ∀ vs H Q E, SpO At f vs H Q E → vs.length = n + 1 := fun vs H Q E ⟨M, o, us, s, ds, ev, lv, at_, r, t⟩ => by
  rw [ev, List.length_cons, Dts.len r]
  cases e : f s ds with
  | none =>
    rw [e] at t
    exact t.elim
  | some x => rw [h s ds x e]
end Sp

set_option Elab.async false
set_option linter.all false
set_option maxRecDepth 100000
set_option maxHeartbeats 4000000
/-! How many arguments each def takes. -/
namespace Sp
open PySem PySem.Spec PyProof.Rows L2 SM SR SD SE
theorem sqF_of {K : PySem.W.Frag} {H : Hp} {a : Addr} {xs : List V} (hO : Only H) (h : SqL K H a xs) : SqF K H a xs := by
  rcases h with (h | h) | h
  · rcases hO a with n | ⟨o, ys, n⟩
    · rw [n] at h
      cases h
    · rw [n] at h
      cases h
  · exact .inl h
  · exact .inr h
theorem len_W {P : Program} {w : World} {a : Ad} {f : RS → List D → Option (RS × Rs)} {n : Nat} (h : ∀ s ds r, f s ds = some r → ds.length = n) : ∀ vs H Q E, SpW P w a f vs H Q E → vs.length = n + 1 := fun vs H Q E ⟨M, F, R, us, ds, ev, lv, at_, r, t⟩ => by
  rw [ev, List.length_cons, Dts.len r]
  cases e : f R ds with
  | none =>
    rw [e] at t
    exact t.elim
  | some x => rw [h R ds x e]
theorem len_F {f : List D → Option D} {n : Nat} (h : ∀ ds r, f ds = some r → ds.length = n) : ∀ vs H Q E, SpF f vs H Q E → vs.length = n := fun vs H Q E ⟨M, ds, lv, r, d, e, _⟩ => by
  rw [Dts.len r, h ds d e]
theorem len_Row {K : PySem.W.Frag} {f : List D → D → Prop} {n : Nat} (h : ∀ ds r, f ds r → ds.length = n) : ∀ vs H Q E, SpRow K f vs H Q E → vs.length = n + 1 := fun vs H Q E ⟨M, r, scr, us, ds, ev, lv, _, _, rd, ⟨d, e⟩, _⟩ => by
  rw [ev, List.length_cons, Dts.len rd, h ds d e]
section
variable {P : Program} {w : World} {K : PySem.W.Frag} {a : Ad}
theorem len_is_number : ∀ vs H Q E, sp_is_number P w K a vs H Q E → vs.length = 3 := len_P fun ds r h => by rcases ds with _ | ⟨_, _ | ⟨_, _ | ⟨_, _ | ⟨_, _⟩⟩⟩⟩ <;> first | rfl | simp [f_is_number] at h
theorem len_need_shape : ∀ vs H Q E, sp_need_shape P w K a vs H Q E → vs.length = 3 := len_P fun ds r h => by rcases ds with _ | ⟨_, _ | ⟨_, _ | ⟨_, _ | ⟨_, _⟩⟩⟩⟩ <;> first | rfl | simp [f_need_shape] at h
theorem len_is_row : ∀ vs H Q E, sp_is_row P w K a vs H Q E → vs.length = 1 := len_P fun ds r h => by rcases ds with _ | ⟨_, _ | ⟨_, _⟩⟩ <;> first | rfl | simp [f_is_row] at h
theorem len_need_rows : ∀ vs H Q E, sp_need_rows P w K a vs H Q E → vs.length = 1 := len_P fun ds r h => by rcases ds with _ | ⟨_, _ | ⟨_, _⟩⟩ <;> first | rfl | simp [f_need_rows] at h
theorem len_need_key : ∀ vs H Q E, sp_need_key P w K a vs H Q E → vs.length = 1 := len_P fun ds r h => by rcases ds with _ | ⟨_, _ | ⟨_, _⟩⟩ <;> first | rfl | simp [f_need_key] at h
theorem len_parted : ∀ vs H Q E, sp_parted P w K a vs H Q E → vs.length = 2 := len_P fun ds r h => by rcases ds with _ | ⟨_, _ | ⟨_, _ | ⟨_, _⟩⟩⟩ <;> first | rfl | simp [f_parted] at h
theorem len_Store_read : ∀ vs H Q E, sp_Store_read P w K a vs H Q E → vs.length = 2 := len_O (n := 1) fun s ds r h => by rcases ds with _ | ⟨_, _ | ⟨_, _⟩⟩ <;> first | rfl | simp [f_read] at h
theorem len_Store_need_up : ∀ vs H Q E, sp_Store_need_up P w K a vs H Q E → vs.length = 1 := len_O (n := 0) fun s ds r h => by rcases ds with _ | ⟨_, _⟩ <;> first | rfl | simp [f_need_up] at h
theorem len_Store_write : ∀ vs H Q E, sp_Store_write P w K a vs H Q E → vs.length = 3 := fun vs H Q E h => by
  repeat first | (obtain ⟨rfl, _⟩ := h; rfl) | obtain ⟨_, h⟩ := h
theorem len_Store___init : ∀ vs H Q E, sp_Store___init P w K a vs H Q E → vs.length = 1 := fun vs H Q E h => by
  repeat first | (obtain ⟨rfl, _⟩ := h; rfl) | obtain ⟨_, h⟩ := h
theorem len_File___init : ∀ vs H Q E, sp_File___init P w K a vs H Q E → vs.length = 5 := fun vs H Q E ⟨M, f, dx, us, rm, fl, sd, rws, ev, lv, hf, rd, _⟩ => by
  rw [ev, List.length_cons, Dts.len rd]
  rfl
theorem len_File_lay : ∀ vs H Q E, sp_File_lay P w K a vs H Q E → vs.length = 4 := len_W (n := 3) fun s ds r h => by rcases ds with _ | ⟨_, _ | ⟨_, _ | ⟨_, _ | ⟨_, _⟩⟩⟩⟩ <;> first | rfl | simp [f_lay] at h
theorem len_File_page_of : ∀ vs H Q E, sp_File_page_of P w K a vs H Q E → vs.length = 2 := len_O (n := 1) fun s ds r h => by rcases ds with _ | ⟨_, _ | ⟨_, _⟩⟩ <;> first | rfl | simp [f_page_of] at h
theorem len_File_pages : ∀ vs H Q E, sp_File_pages P w K a vs H Q E → vs.length = 1 := len_O (n := 0) fun s ds r h => by rcases ds with _ | ⟨_, _⟩ <;> first | rfl | simp [f_pages] at h
theorem len_File_chain : ∀ vs H Q E, sp_File_chain P w K a vs H Q E → vs.length = 2 := len_O (n := 1) fun s ds r h => by rcases ds with _ | ⟨_, _ | ⟨_, _⟩⟩ <;> first | rfl | simp [f_chain] at h
theorem len_File_spilled : ∀ vs H Q E, sp_File_spilled P w K a vs H Q E → vs.length = 2 := len_O (n := 1) fun s ds r h => by rcases ds with _ | ⟨_, _ | ⟨_, _⟩⟩ <;> first | rfl | simp [f_spilled] at h
theorem len_File_rows_at : ∀ vs H Q E, sp_File_rows_at P w K a vs H Q E → vs.length = 2 := len_O (n := 1) fun s ds r h => by rcases ds with _ | ⟨_, _ | ⟨_, _⟩⟩ <;> first | rfl | simp [f_rows_at] at h
theorem len_File_found : ∀ vs H Q E, sp_File_found P w K a vs H Q E → vs.length = 2 := len_O (n := 1) fun s ds r h => by rcases ds with _ | ⟨_, _ | ⟨_, _⟩⟩ <;> first | rfl | simp [f_found] at h
theorem len_File_looks : ∀ vs H Q E, sp_File_looks P w K a vs H Q E → vs.length = 2 := len_O (n := 1) fun s ds r h => by rcases ds with _ | ⟨_, _ | ⟨_, _⟩⟩ <;> first | rfl | simp [f_looks] at h
theorem len_File_rows : ∀ vs H Q E, sp_File_rows P w K a vs H Q E → vs.length = 1 := len_O (n := 0) fun s ds r h => by rcases ds with _ | ⟨_, _⟩ <;> first | rfl | simp [f_rows] at h
theorem len_File_many_looks : ∀ vs H Q E, sp_File_many_looks P w K a vs H Q E → vs.length = 2 := len_O (n := 1) fun s ds r h => by rcases ds with _ | ⟨_, _ | ⟨_, _⟩⟩ <;> first | rfl | simp [f_many_looks] at h
theorem len_File_walk : ∀ vs H Q E, sp_File_walk P w K a vs H Q E → vs.length = 1 := len_O (n := 0) fun s ds r h => by rcases ds with _ | ⟨_, _⟩ <;> first | rfl | simp [f_walk] at h
theorem len_File_writes : ∀ vs H Q E, sp_File_writes P w K a vs H Q E → vs.length = 1 := len_O (n := 0) fun s ds r h => by rcases ds with _ | ⟨_, _⟩ <;> first | rfl | simp [f_writes] at h
theorem len_File_picture : ∀ vs H Q E, sp_File_picture P w K a vs H Q E → vs.length = 1 := len_O (n := 0) fun s ds r h => by rcases ds with _ | ⟨_, _⟩ <;> first | rfl | simp [f_picture] at h
theorem len_law_taken : ∀ vs H Q E, sp_law_taken P w K a vs H Q E → vs.length = 2 := fun vs H Q E h => by
  repeat first | (obtain ⟨rfl, _⟩ := h; rfl) | obtain ⟨_, h⟩ := h
theorem len_alikeN {n : Nat} : ∀ vs H Q E, sp_alikeN n vs H Q E → vs.length = 2 := len_P fun ds r h => by rcases ds with _ | ⟨_, _ | ⟨_, _ | ⟨_, _⟩⟩⟩ <;> first | rfl | simp [f_alike] at h
theorem len_law_shape : ∀ vs H Q E, sp_law_shape P w K a vs H Q E → vs.length = 1 := len_Row (n := 0) fun ds d h => by rw [h.1]; rfl
theorem len_law_rows : ∀ vs H Q E, sp_law_rows P w K a vs H Q E → vs.length = 2 := len_Row (n := 1) fun ds d ⟨m, _, e, _⟩ => by rw [e]; rfl
theorem len_law_laid : ∀ vs H Q E, sp_law_laid P w K a vs H Q E → vs.length = 2 := len_F fun ds r h => by rcases ds with _ | ⟨_, _ | ⟨_, _ | ⟨_, _⟩⟩⟩ <;> first | rfl | simp [f_laid] at h
theorem len_law_made : ∀ vs H Q E, sp_law_made P w K a vs H Q E → vs.length = 2 := fun vs H Q E ⟨M, room, fill, spare, rs, lv, rd, _⟩ => by
  rw [Dts.len rd]
  rfl
theorem len_law_picture : ∀ vs H Q E, sp_law_picture P w K a vs H Q E → vs.length = 1 := len_O (n := 0) fun s ds r h => by rcases ds with _ | ⟨_, _⟩ <;> first | rfl | simp [f_pictureL] at h
end
end Sp

set_option Elab.async false
set_option linter.all false
set_option maxRecDepth 100000
set_option maxHeartbeats 8000000
/-! Derivations, head, end: printed by mkend.py. -/
namespace Sp
open PySem PySem.Spec PyProof.Rows L2 SM SR SD SE
def top (i : Nat) : Stmt := PySem.Challenge.pw_spillrows_k02_laid.main.body.getD i (.Pass ⟨0, 0, 0, 0⟩)
abbrev s_BadRows___init : Stmt := inClass (top 4) 0
abbrev s_Store___init : Stmt := inClass (top 10) 0
abbrev s_Store_need_up : Stmt := inClass (top 10) 1
abbrev s_Store_write : Stmt := inClass (top 10) 2
abbrev s_Store_read : Stmt := inClass (top 10) 3
abbrev s_is_number : Stmt := top 17
abbrev s_need_shape : Stmt := top 18
abbrev s_is_row : Stmt := top 19
abbrev s_need_rows : Stmt := top 20
abbrev s_need_key : Stmt := top 21
abbrev s_parted : Stmt := top 23
abbrev s_File___init : Stmt := inClass (top 24) 0
abbrev s_File_lay : Stmt := inClass (top 24) 1
abbrev s_File_page_of : Stmt := inClass (top 24) 2
abbrev s_File_pages : Stmt := inClass (top 24) 3
abbrev s_File_chain : Stmt := inClass (top 24) 4
abbrev s_File_spilled : Stmt := inClass (top 24) 5
abbrev s_File_rows_at : Stmt := inClass (top 24) 6
abbrev s_File_found : Stmt := inClass (top 24) 7
abbrev s_File_looks : Stmt := inClass (top 24) 8
abbrev s_File_rows : Stmt := inClass (top 24) 13
abbrev s_File_walk : Stmt := inClass (top 24) 14
abbrev s_File_many_looks : Stmt := inClass (top 24) 16
abbrev s_File_writes : Stmt := inClass (top 24) 24
abbrev s_File_picture : Stmt := inClass (top 24) 25
abbrev s_law_taken : Stmt := top 26
abbrev s_law_alike : Stmt := top 27
abbrev s_law_shape : Stmt := top 28
abbrev s_law_rows : Stmt := top 29
abbrev s_law_laid : Stmt := top 30
abbrev s_law_made : Stmt := top 31
abbrev s_law_picture : Stmt := top 32
abbrev s_law : Stmt := top 33
structure Tx (P : Program) (w : World) (K : PySem.W.Frag) (mg : Str → Option Value) (base : Heap) (a : Ad) : Prop where
  nb : Nb mg
  g_MOST_KEY : ∃ t, mg "MOST_KEY" = some (.int 999 t)
  g_MOST_ROOM : ∃ t, mg "MOST_ROOM" = some (.int 4 t)
  g_MOST_ROWS : ∃ t, mg "MOST_ROWS" = some (.int 40 t)
  g_MOST_SPARE : ∃ t, mg "MOST_SPARE" = some (.int 20 t)
  g_MOST_WORTH : ∃ t, mg "MOST_WORTH" = some (.int 999 t)
  g_ROOT : ∃ t, mg "ROOT" = some (.str "root" t)
  x_BadFile : Xc K mg "BadFile" a.BadFile
  x_BadKey : Xc K mg "BadKey" a.BadKey
  x_BadRows : Xf P w K mg base 1 "BadRows" a.BadRows "number"
  x_Stopped : Xc K mg "Stopped" a.Stopped
theorem sc_BadRows___init : FnScope ["self", "number"] ["self", "number"] (defScope s_BadRows___init) := ⟨rfl, rfl, rfl, by decide +kernel, rfl, by decide +kernel, by decide +kernel⟩
theorem ok_BadRows___init {P : Program} {w : World} {K : PySem.W.Frag} {mg : Str → Option Value} {base : Heap} {C0 C f : Addr} {fd : FuncData} (S : Xs K mg "SpillError" C0) (F : FunD K "__init__" "BadRows.__init__" (defArgs s_BadRows___init) (defBody s_BadRows___init) (defScope s_BadRows___init) [] [] f fd) : FnOk P w K mg base (L2.CX P w) 1 f fd ["self", "number"] (spXi "number" K C) := by
  refine F.ok sc_BadRows___init (fun vs H Q E h => ?_) fun cdv A outer s H vs Q E hr h => ⟨tXi "number " "number" K, ?_, pure_xi (by decide) vs H Q E h⟩
  · obtain ⟨b, n, rfl, _⟩ := h
    rfl
  · exact pss_cons (ps_expr (pe_sinit S (pa_cons (pv 0) (pa_cons (pe_joined (.cons pe_str (.cons (pe_fmt (pv 1)) .nil))) pa_nil)))) (pss_one (ps_ost (pv 0) (pv 1)))
theorem sc_Store___init : FnScope ["self"] ["self"] (defScope s_Store___init) := ⟨rfl, rfl, rfl, by decide +kernel, rfl, by decide +kernel, by decide +kernel⟩
theorem der_Store___init {P : Program} {w : World} {K : PySem.W.Frag} {mg : Str → Option Value} {base : Heap} {a : Ad} (T : Tx P w K mg base a) 
    {f : Addr} {cdv : Value} {A : Around} {outer : List Env} {s : Shared} {H : Hp} {E : XK} (hr : Room 0 (A.deeper (envOfC "Store.__init__" (defScope s_Store___init) s.heap.objs.size f cdv))) :
    PSs (cxOf (L2.CX P w) P w K mg base ["self"] "Store.__init__" (defScope s_Store___init) f cdv A outer s H E) (defBody s_Store___init) (t_Store___init P w K a E) := by
  have nd := sc_Store___init.nd
  have tk : Takes (cxOf (L2.CX P w) P w K mg base ["self"] "Store.__init__" (defScope s_Store___init) f cdv A outer s H E) (fun cls d _ H => E cls d H) := takes_of rfl rfl rfl rfl
  have px : Passes (L2.CX P w) (cxOf (L2.CX P w) P w K mg base ["self"] "Store.__init__" (defScope s_Store___init) f cdv A outer s H E) E := px_of tk fun _ _ _ _ z => z
  have po : PassesOwn (model P w) (A.deeper (envOfC "Store.__init__" (defScope s_Store___init) s.heap.objs.size f cdv)) (envOfC "Store.__init__" (defScope s_Store___init) s.heap.objs.size f cdv) (cxOf (L2.CX P w) P w K mg base ["self"] "Store.__init__" (defScope s_Store___init) f cdv A outer s H E).xe := passes_of (X := cxOf (L2.CX P w) P w K mg base ["self"] "Store.__init__" (defScope s_Store___init) f cdv A outer s H E) rfl
  have hu := hu_of hr
  have hu64 := hr.units
  have hu65 := hu65 hr
  exact (pss_cons (ps_fld (pv 0) pe_dnewM rfl) (pss_cons (ps_fld (pv 0) pe_int rfl) (pss_cons (ps_fld (pv 0) pe_non rfl) (pss_one (ps_fld (pv 0) pe_bl rfl)))))
theorem ok_Store___init {P : Program} {w : World} {K : PySem.W.Frag} {mg : Str → Option Value} {base : Heap} {a : Ad} (T : Tx P w K mg base a) (kc : Kc K a)  {f : Addr} {fd : FuncData} (F : FunD K "__init__" "Store.__init__" (defArgs s_Store___init) (defBody s_Store___init) (defScope s_Store___init) [] [] f fd) : FnOk P w K mg base (L2.CX P w) 1 f fd ["self"] (sp_Store___init P w K a) :=
  F.ok sc_Store___init len_Store___init fun cdv A outer s H vs Q E hr h => ⟨_, der_Store___init T  hr, pure_Store___init kc vs H Q E h⟩
theorem sc_Store_need_up : FnScope ["self"] ["self"] (defScope s_Store_need_up) := ⟨rfl, rfl, rfl, by decide +kernel, rfl, by decide +kernel, by decide +kernel⟩
theorem der_Store_need_up {P : Program} {w : World} {K : PySem.W.Frag} {mg : Str → Option Value} {base : Heap} {a : Ad} (T : Tx P w K mg base a) 
    {f : Addr} {cdv : Value} {A : Around} {outer : List Env} {s : Shared} {H : Hp} {E : XK} (hr : Room 0 (A.deeper (envOfC "Store.need_up" (defScope s_Store_need_up) s.heap.objs.size f cdv))) :
    PSs (cxOf (L2.CX P w) P w K mg base ["self"] "Store.need_up" (defScope s_Store_need_up) f cdv A outer s H E) (defBody s_Store_need_up) (t_Store_need_up P w K a E) := by
  have nd := sc_Store_need_up.nd
  have tk : Takes (cxOf (L2.CX P w) P w K mg base ["self"] "Store.need_up" (defScope s_Store_need_up) f cdv A outer s H E) (fun cls d _ H => E cls d H) := takes_of rfl rfl rfl rfl
  have px : Passes (L2.CX P w) (cxOf (L2.CX P w) P w K mg base ["self"] "Store.need_up" (defScope s_Store_need_up) f cdv A outer s H E) E := px_of tk fun _ _ _ _ z => z
  have po : PassesOwn (model P w) (A.deeper (envOfC "Store.need_up" (defScope s_Store_need_up) s.heap.objs.size f cdv)) (envOfC "Store.need_up" (defScope s_Store_need_up) s.heap.objs.size f cdv) (cxOf (L2.CX P w) P w K mg base ["self"] "Store.need_up" (defScope s_Store_need_up) f cdv A outer s H E).xe := passes_of (X := cxOf (L2.CX P w) P w K mg base ["self"] "Store.need_up" (defScope s_Store_need_up) f cdv A outer s H E) rfl
  have hu := hu_of hr
  have hu64 := hr.units
  have hu65 := hu65 hr
  exact (pss_one (ps_if (pt_val (pe_fld (pv 0) rfl)) (pss_one (ps_raise0 T.x_Stopped rfl tk)) pss_nil))
theorem ok_Store_need_up {P : Program} {w : World} {K : PySem.W.Frag} {mg : Str → Option Value} {base : Heap} {a : Ad} (T : Tx P w K mg base a) (kc : Kc K a)  {f : Addr} {fd : FuncData} (F : FunD K "need_up" "Store.need_up" (defArgs s_Store_need_up) (defBody s_Store_need_up) (defScope s_Store_need_up) [] [] f fd) : FnOk P w K mg base (L2.CX P w) 1 f fd ["self"] (sp_Store_need_up P w K a) :=
  F.ok sc_Store_need_up len_Store_need_up fun cdv A outer s H vs Q E hr h => ⟨_, der_Store_need_up T  hr, pure_Store_need_up kc vs H Q E h⟩
theorem sc_Store_write : FnScope ["self", "name", "what"] ["self", "name", "what"] (defScope s_Store_write) := ⟨rfl, rfl, rfl, by decide +kernel, rfl, by decide +kernel, by decide +kernel⟩
theorem der_Store_write {P : Program} {w : World} {K : PySem.W.Frag} {mg : Str → Option Value} {base : Heap} {a : Ad} (T : Tx P w K mg base a) (M_Store_need_up : Mf P w K mg base 1 a.Store "need_up" ["self"] (sp_Store_need_up P w K a))
    {f : Addr} {cdv : Value} {A : Around} {outer : List Env} {s : Shared} {H : Hp} {E : XK} (hr : Room 1 (A.deeper (envOfC "Store.write" (defScope s_Store_write) s.heap.objs.size f cdv))) :
    PSs (cxOf (L2.CX P w) P w K mg base ["self", "name", "what"] "Store.write" (defScope s_Store_write) f cdv A outer s H E) (defBody s_Store_write) (t_Store_write P w K a E) := by
  have nd := sc_Store_write.nd
  have tk : Takes (cxOf (L2.CX P w) P w K mg base ["self", "name", "what"] "Store.write" (defScope s_Store_write) f cdv A outer s H E) (fun cls d _ H => E cls d H) := takes_of rfl rfl rfl rfl
  have px : Passes (L2.CX P w) (cxOf (L2.CX P w) P w K mg base ["self", "name", "what"] "Store.write" (defScope s_Store_write) f cdv A outer s H E) E := px_of tk fun _ _ _ _ z => z
  have po : PassesOwn (model P w) (A.deeper (envOfC "Store.write" (defScope s_Store_write) s.heap.objs.size f cdv)) (envOfC "Store.write" (defScope s_Store_write) s.heap.objs.size f cdv) (cxOf (L2.CX P w) P w K mg base ["self", "name", "what"] "Store.write" (defScope s_Store_write) f cdv A outer s H E).xe := passes_of (X := cxOf (L2.CX P w) P w K mg base ["self", "name", "what"] "Store.write" (defScope s_Store_write) f cdv A outer s H E) rfl
  have hu := hu_of hr
  have hu64 := hr.units
  have hu65 := hu65 hr
  exact (pss_cons (ps_expr (pe_mf0 M_Store_need_up (hr.mono (by decide)) px (pv 0))) (pss_cons (ps_if (pt_cmpR (op_eqD hu64) (pe_fld (pv 0) rfl) pe_int (nomark _)) (pss_cons (ps_fld (pv 0) pe_bl rfl) (pss_cons (ps_fld (pv 0) pe_non rfl) (pss_one (ps_raise0 T.x_Stopped rfl tk)))) pss_nil) (pss_cons (ps_if (pt_cmpR op_notN (pe_fld (pv 0) rfl) pe_non (nomark _)) (pss_one (ps_fld (pv 0) (pe_op op_sub (pe_fld (pv 0) rfl) pe_int) rfl)) pss_nil) (pss_cons (ps_asg (pv 2) (pg_sub (pe_fld (pv 0) rfl) (pv 1) (set_u hu))) (pss_one (ps_fld (pv 0) (pe_op op_addU (pe_fld (pv 0) rfl) pe_int) rfl))))))
theorem ok_Store_write {P : Program} {w : World} {K : PySem.W.Frag} {mg : Str → Option Value} {base : Heap} {a : Ad} (T : Tx P w K mg base a) (kc : Kc K a) (M_Store_need_up : Mf P w K mg base 1 a.Store "need_up" ["self"] (sp_Store_need_up P w K a)) {f : Addr} {fd : FuncData} (F : FunD K "write" "Store.write" (defArgs s_Store_write) (defBody s_Store_write) (defScope s_Store_write) [] [] f fd) : FnOk P w K mg base (L2.CX P w) 2 f fd ["self", "name", "what"] (sp_Store_write P w K a) :=
  F.ok sc_Store_write len_Store_write fun cdv A outer s H vs Q E hr h => ⟨_, der_Store_write T M_Store_need_up hr, pure_Store_write kc vs H Q E h⟩
theorem sc_Store_read : FnScope ["self", "name"] ["self", "name"] (defScope s_Store_read) := ⟨rfl, rfl, rfl, by decide +kernel, rfl, by decide +kernel, by decide +kernel⟩
theorem der_Store_read {P : Program} {w : World} {K : PySem.W.Frag} {mg : Str → Option Value} {base : Heap} {a : Ad} (T : Tx P w K mg base a) 
    {f : Addr} {cdv : Value} {A : Around} {outer : List Env} {s : Shared} {H : Hp} {E : XK} (hr : Room 0 (A.deeper (envOfC "Store.read" (defScope s_Store_read) s.heap.objs.size f cdv))) :
    PSs (cxOf (L2.CX P w) P w K mg base ["self", "name"] "Store.read" (defScope s_Store_read) f cdv A outer s H E) (defBody s_Store_read) (t_Store_read P w K a E) := by
  have nd := sc_Store_read.nd
  have tk : Takes (cxOf (L2.CX P w) P w K mg base ["self", "name"] "Store.read" (defScope s_Store_read) f cdv A outer s H E) (fun cls d _ H => E cls d H) := takes_of rfl rfl rfl rfl
  have px : Passes (L2.CX P w) (cxOf (L2.CX P w) P w K mg base ["self", "name"] "Store.read" (defScope s_Store_read) f cdv A outer s H E) E := px_of tk fun _ _ _ _ z => z
  have po : PassesOwn (model P w) (A.deeper (envOfC "Store.read" (defScope s_Store_read) s.heap.objs.size f cdv)) (envOfC "Store.read" (defScope s_Store_read) s.heap.objs.size f cdv) (cxOf (L2.CX P w) P w K mg base ["self", "name"] "Store.read" (defScope s_Store_read) f cdv A outer s H E).xe := passes_of (X := cxOf (L2.CX P w) P w K mg base ["self", "name"] "Store.read" (defScope s_Store_read) f cdv A outer s H E) rfl
  have hu := hu_of hr
  have hu64 := hr.units
  have hu65 := hu65 hr
  exact (pss_one (ps_ret (pe_ix (ix_u hu) (pe_fld (pv 0) rfl) (pv 1) (fun _ _ => rfl))))
theorem ok_Store_read {P : Program} {w : World} {K : PySem.W.Frag} {mg : Str → Option Value} {base : Heap} {a : Ad} (T : Tx P w K mg base a) (kc : Kc K a)  {f : Addr} {fd : FuncData} (F : FunD K "read" "Store.read" (defArgs s_Store_read) (defBody s_Store_read) (defScope s_Store_read) [] [] f fd) : FnOk P w K mg base (L2.CX P w) 1 f fd ["self", "name"] (sp_Store_read P w K a) :=
  F.ok sc_Store_read len_Store_read fun cdv A outer s H vs Q E hr h => ⟨_, der_Store_read T  hr, pure_Store_read kc vs H Q E h⟩
theorem sc_is_number : FnScope ["part", "low", "high"] ["part", "low", "high"] (defScope s_is_number) := ⟨rfl, rfl, rfl, by decide +kernel, rfl, by decide +kernel, by decide +kernel⟩
theorem der_is_number {P : Program} {w : World} {K : PySem.W.Frag} {mg : Str → Option Value} {base : Heap} {a : Ad} (T : Tx P w K mg base a) 
    {f : Addr} {cdv : Value} {A : Around} {outer : List Env} {s : Shared} {H : Hp} {E : XK} (hr : Room 0 (A.deeper (envOfC "is_number" (defScope s_is_number) s.heap.objs.size f cdv))) :
    PSs (cxOf (L2.CX P w) P w K mg base ["part", "low", "high"] "is_number" (defScope s_is_number) f cdv A outer s H E) (defBody s_is_number) (t_is_number P w K a E) := by
  have nd := sc_is_number.nd
  have tk : Takes (cxOf (L2.CX P w) P w K mg base ["part", "low", "high"] "is_number" (defScope s_is_number) f cdv A outer s H E) (fun cls d _ H => E cls d H) := takes_of rfl rfl rfl rfl
  have px : Passes (L2.CX P w) (cxOf (L2.CX P w) P w K mg base ["part", "low", "high"] "is_number" (defScope s_is_number) f cdv A outer s H E) E := px_of tk fun _ _ _ _ z => z
  have po : PassesOwn (model P w) (A.deeper (envOfC "is_number" (defScope s_is_number) s.heap.objs.size f cdv)) (envOfC "is_number" (defScope s_is_number) s.heap.objs.size f cdv) (cxOf (L2.CX P w) P w K mg base ["part", "low", "high"] "is_number" (defScope s_is_number) f cdv A outer s H E).xe := passes_of (X := cxOf (L2.CX P w) P w K mg base ["part", "low", "high"] "is_number" (defScope s_is_number) f cdv A outer s H E) rfl
  have hu := hu_of hr
  have hu64 := hr.units
  have hu65 := hu65 hr
  exact (pss_one (ps_ret (pe_and (pe_callB call_isU (by rfl) T.nb.isinstance (by decide +kernel) (pa_cons (pv 0) (pa_cons (pe_bltn (v := .ty "int") (by rfl) T.nb.int (by decide +kernel) rfl) pa_nil))) (pe_and (pe_not (pe_callB call_isU (by rfl) T.nb.isinstance (by decide +kernel) (pa_cons (pv 0) (pa_cons (pe_bltn (v := .ty "bool") (by rfl) T.nb.bool (by decide +kernel) rfl) pa_nil)))) (pe_one (pe_chain op_le op_le (pv 1) (pv 0) (pv 2)))))))
theorem ok_is_number {P : Program} {w : World} {K : PySem.W.Frag} {mg : Str → Option Value} {base : Heap} {a : Ad} (T : Tx P w K mg base a) (kc : Kc K a)  {f : Addr} {fd : FuncData} (F : FunD K "is_number" "is_number" (defArgs s_is_number) (defBody s_is_number) (defScope s_is_number) [] [] f fd) : FnOk P w K mg base (L2.CX P w) 1 f fd ["part", "low", "high"] (sp_is_number P w K a) :=
  F.ok sc_is_number len_is_number fun cdv A outer s H vs Q E hr h => ⟨_, der_is_number T  hr, pure_is_number vs H Q E h⟩
theorem sc_need_shape : FnScope ["room", "fill", "spare"] ["room", "fill", "spare"] (defScope s_need_shape) := ⟨rfl, rfl, rfl, by decide +kernel, rfl, by decide +kernel, by decide +kernel⟩
theorem der_need_shape {P : Program} {w : World} {K : PySem.W.Frag} {mg : Str → Option Value} {base : Heap} {a : Ad} (T : Tx P w K mg base a) (G_is_number : Gf P w K mg base 1 "is_number" ["part", "low", "high"] (sp_is_number P w K a))
    {f : Addr} {cdv : Value} {A : Around} {outer : List Env} {s : Shared} {H : Hp} {E : XK} (hr : Room 1 (A.deeper (envOfC "need_shape" (defScope s_need_shape) s.heap.objs.size f cdv))) :
    PSs (cxOf (L2.CX P w) P w K mg base ["room", "fill", "spare"] "need_shape" (defScope s_need_shape) f cdv A outer s H E) (defBody s_need_shape) (t_need_shape P w K a E) := by
  have nd := sc_need_shape.nd
  have tk : Takes (cxOf (L2.CX P w) P w K mg base ["room", "fill", "spare"] "need_shape" (defScope s_need_shape) f cdv A outer s H E) (fun cls d _ H => E cls d H) := takes_of rfl rfl rfl rfl
  have px : Passes (L2.CX P w) (cxOf (L2.CX P w) P w K mg base ["room", "fill", "spare"] "need_shape" (defScope s_need_shape) f cdv A outer s H E) E := px_of tk fun _ _ _ _ z => z
  have po : PassesOwn (model P w) (A.deeper (envOfC "need_shape" (defScope s_need_shape) s.heap.objs.size f cdv)) (envOfC "need_shape" (defScope s_need_shape) s.heap.objs.size f cdv) (cxOf (L2.CX P w) P w K mg base ["room", "fill", "spare"] "need_shape" (defScope s_need_shape) f cdv A outer s H E).xe := passes_of (X := cxOf (L2.CX P w) P w K mg base ["room", "fill", "spare"] "need_shape" (defScope s_need_shape) f cdv A outer s H E) rfl
  have hu := hu_of hr
  have hu64 := hr.units
  have hu65 := hu65 hr
  exact (pss_one (ps_if (PW.pt (pw_or (pt_not (pt_val (pe_gf G_is_number (hr.mono (by decide)) px (pa_cons (pv 0) (pa_cons pe_int (pa_cons (pe_gint T.g_MOST_ROOM) pa_nil)))))) (pw_or (pt_not (pt_val (pe_gf G_is_number (hr.mono (by decide)) px (pa_cons (pv 1) (pa_cons pe_int (pa_cons (pv 0) pa_nil)))))) (pw_or1 (pt_not (pt_val (pe_gf G_is_number (hr.mono (by decide)) px (pa_cons (pv 2) (pa_cons pe_int (pa_cons (pe_gint T.g_MOST_SPARE) pa_nil)))))))))) (pss_one (ps_raise0 T.x_BadFile rfl tk)) pss_nil))
theorem ok_need_shape {P : Program} {w : World} {K : PySem.W.Frag} {mg : Str → Option Value} {base : Heap} {a : Ad} (T : Tx P w K mg base a) (kc : Kc K a) (G_is_number : Gf P w K mg base 1 "is_number" ["part", "low", "high"] (sp_is_number P w K a)) {f : Addr} {fd : FuncData} (F : FunD K "need_shape" "need_shape" (defArgs s_need_shape) (defBody s_need_shape) (defScope s_need_shape) [] [] f fd) : FnOk P w K mg base (L2.CX P w) 2 f fd ["room", "fill", "spare"] (sp_need_shape P w K a) :=
  F.ok sc_need_shape len_need_shape fun cdv A outer s H vs Q E hr h => ⟨_, der_need_shape T G_is_number hr, pure_need_shape vs H Q E h⟩
theorem sc_is_row : FnScope ["part"] ["part"] (defScope s_is_row) := ⟨rfl, rfl, rfl, by decide +kernel, rfl, by decide +kernel, by decide +kernel⟩
theorem der_is_row {P : Program} {w : World} {K : PySem.W.Frag} {mg : Str → Option Value} {base : Heap} {a : Ad} (T : Tx P w K mg base a) (G_is_number : Gf P w K mg base 1 "is_number" ["part", "low", "high"] (sp_is_number P w K a))
    {f : Addr} {cdv : Value} {A : Around} {outer : List Env} {s : Shared} {H : Hp} {E : XK} (hr : Room 1 (A.deeper (envOfC "is_row" (defScope s_is_row) s.heap.objs.size f cdv))) :
    PSs (cxOf (L2.CX P w) P w K mg base ["part"] "is_row" (defScope s_is_row) f cdv A outer s H E) (defBody s_is_row) (t_is_row P w K a E) := by
  have nd := sc_is_row.nd
  have tk : Takes (cxOf (L2.CX P w) P w K mg base ["part"] "is_row" (defScope s_is_row) f cdv A outer s H E) (fun cls d _ H => E cls d H) := takes_of rfl rfl rfl rfl
  have px : Passes (L2.CX P w) (cxOf (L2.CX P w) P w K mg base ["part"] "is_row" (defScope s_is_row) f cdv A outer s H E) E := px_of tk fun _ _ _ _ z => z
  have po : PassesOwn (model P w) (A.deeper (envOfC "is_row" (defScope s_is_row) s.heap.objs.size f cdv)) (envOfC "is_row" (defScope s_is_row) s.heap.objs.size f cdv) (cxOf (L2.CX P w) P w K mg base ["part"] "is_row" (defScope s_is_row) f cdv A outer s H E).xe := passes_of (X := cxOf (L2.CX P w) P w K mg base ["part"] "is_row" (defScope s_is_row) f cdv A outer s H E) rfl
  have hu := hu_of hr
  have hu64 := hr.units
  have hu65 := hu65 hr
  exact (pss_cons (ps_if (PW.pt (pw_or (pt_not (pt_val (pe_callB call_isU (by rfl) T.nb.isinstance (by decide +kernel) (pa_cons (pv 0) (pa_cons (pe_bltn (v := .ty "tuple") (by rfl) T.nb.tuple (by decide +kernel) rfl) pa_nil))))) (pw_or1 (pt_cmpR (op_neD hu64) (pe_callB call_lenU (by rfl) T.nb.len (by decide +kernel) (pa_cons (pv 0) pa_nil)) pe_int (nomark _))))) (pss_one (ps_ret pe_bl)) pss_nil) (pss_one (ps_ret (pe_and (pe_gf G_is_number (hr.mono (by decide)) px (pa_cons (pe_ix (ix_u hu) (pv 0) pe_int (fun _ _ => rfl)) (pa_cons pe_int (pa_cons (pe_gint T.g_MOST_KEY) pa_nil)))) (pe_one (pe_gf G_is_number (hr.mono (by decide)) px (pa_cons (pe_ix (ix_u hu) (pv 0) pe_int (fun _ _ => rfl)) (pa_cons pe_int (pa_cons (pe_gint T.g_MOST_WORTH) pa_nil)))))))))
theorem ok_is_row {P : Program} {w : World} {K : PySem.W.Frag} {mg : Str → Option Value} {base : Heap} {a : Ad} (T : Tx P w K mg base a) (kc : Kc K a) (G_is_number : Gf P w K mg base 1 "is_number" ["part", "low", "high"] (sp_is_number P w K a)) {f : Addr} {fd : FuncData} (F : FunD K "is_row" "is_row" (defArgs s_is_row) (defBody s_is_row) (defScope s_is_row) [] [] f fd) : FnOk P w K mg base (L2.CX P w) 2 f fd ["part"] (sp_is_row P w K a) :=
  F.ok sc_is_row len_is_row fun cdv A outer s H vs Q E hr h => ⟨_, der_is_row T G_is_number hr, pure_is_row vs H Q E h⟩
theorem sc_need_rows : FnScope ["rows", "number", "row"] ["rows"] (defScope s_need_rows) := ⟨rfl, rfl, rfl, by decide +kernel, rfl, by decide +kernel, by decide +kernel⟩
theorem der_need_rows {P : Program} {w : World} {K : PySem.W.Frag} {mg : Str → Option Value} {base : Heap} {a : Ad} (T : Tx P w K mg base a) (G_is_row : Gf P w K mg base 2 "is_row" ["part"] (sp_is_row P w K a))
    {f : Addr} {cdv : Value} {A : Around} {outer : List Env} {s : Shared} {H : Hp} {E : XK} (hr : Room 2 (A.deeper (envOfC "need_rows" (defScope s_need_rows) s.heap.objs.size f cdv))) :
    PSs (cxOf (L2.CX P w) P w K mg base ["rows", "number", "row"] "need_rows" (defScope s_need_rows) f cdv A outer s H E) (defBody s_need_rows) (t_need_rows P w K a E) := by
  have nd := sc_need_rows.nd
  have tk : Takes (cxOf (L2.CX P w) P w K mg base ["rows", "number", "row"] "need_rows" (defScope s_need_rows) f cdv A outer s H E) (fun cls d _ H => E cls d H) := takes_of rfl rfl rfl rfl
  have px : Passes (L2.CX P w) (cxOf (L2.CX P w) P w K mg base ["rows", "number", "row"] "need_rows" (defScope s_need_rows) f cdv A outer s H E) E := px_of tk fun _ _ _ _ z => z
  have po : PassesOwn (model P w) (A.deeper (envOfC "need_rows" (defScope s_need_rows) s.heap.objs.size f cdv)) (envOfC "need_rows" (defScope s_need_rows) s.heap.objs.size f cdv) (cxOf (L2.CX P w) P w K mg base ["rows", "number", "row"] "need_rows" (defScope s_need_rows) f cdv A outer s H E).xe := passes_of (X := cxOf (L2.CX P w) P w K mg base ["rows", "number", "row"] "need_rows" (defScope s_need_rows) f cdv A outer s H E) rfl
  have hu := hu_of hr
  have hu64 := hr.units
  have hu65 := hu65 hr
  exact (pss_one (ps_for po rfl (pi_enum (by rfl) T.nb.enumerate (pa_cons (pv 0) pa_nil)) (pg_tup rfl (pgs_cons (pg_name (i := 1) nd rfl (by first | exact Or.inl rfl | exact Or.inr rfl)) (pgs_cons (pg_name (i := 2) nd rfl (by first | exact Or.inl rfl | exact Or.inr rfl)) pgs_nil))) (pss_one (ps_if (PW.pt (pw_or (pt_cmpR op_ge (pv 1) (pe_gint T.g_MOST_ROWS) (nomark _)) (pw_or (pt_not (pt_val (pe_gf G_is_row (hr.mono (by decide)) px (pa_cons (pv 2) pa_nil)))) (pw_or1 (PW.pt (pw_and (pt_cmpR op_gt (pv 1) pe_int (nomark _)) (pw_and1 (pt_cmpR op_le (pe_ix (ix_u hu) (pv 2) pe_int (fun _ _ => rfl)) (pe_ix (ix_u hu) (pe_ix (ix_u hu) (pv 0) (pe_op op_sub (pv 1) pe_int) (fun _ _ => rfl)) pe_int (fun _ _ => rfl)) (nomark _))))))))) (pss_one (ps_raiseF T.x_BadRows (hr.mono (by decide)) rfl tk (pa_cons (pv 1) pa_nil) (by intro σ H Q R m h; first | exact m _ _ h | (obtain ⟨v, e, q⟩ := h; exact ⟨v, e, m _ _ q⟩)))) pss_nil))))
theorem ok_need_rows {P : Program} {w : World} {K : PySem.W.Frag} {mg : Str → Option Value} {base : Heap} {a : Ad} (T : Tx P w K mg base a) (kc : Kc K a) (G_is_row : Gf P w K mg base 2 "is_row" ["part"] (sp_is_row P w K a)) {f : Addr} {fd : FuncData} (F : FunD K "need_rows" "need_rows" (defArgs s_need_rows) (defBody s_need_rows) (defScope s_need_rows) [] [] f fd) : FnOk P w K mg base (L2.CX P w) 3 f fd ["rows"] (sp_need_rows P w K a) :=
  F.ok sc_need_rows len_need_rows fun cdv A outer s H vs Q E hr h => ⟨_, der_need_rows T G_is_row hr, pure_need_rows vs H Q E h⟩
theorem sc_need_key : FnScope ["key"] ["key"] (defScope s_need_key) := ⟨rfl, rfl, rfl, by decide +kernel, rfl, by decide +kernel, by decide +kernel⟩
theorem der_need_key {P : Program} {w : World} {K : PySem.W.Frag} {mg : Str → Option Value} {base : Heap} {a : Ad} (T : Tx P w K mg base a) (G_is_number : Gf P w K mg base 1 "is_number" ["part", "low", "high"] (sp_is_number P w K a))
    {f : Addr} {cdv : Value} {A : Around} {outer : List Env} {s : Shared} {H : Hp} {E : XK} (hr : Room 1 (A.deeper (envOfC "need_key" (defScope s_need_key) s.heap.objs.size f cdv))) :
    PSs (cxOf (L2.CX P w) P w K mg base ["key"] "need_key" (defScope s_need_key) f cdv A outer s H E) (defBody s_need_key) (t_need_key P w K a E) := by
  have nd := sc_need_key.nd
  have tk : Takes (cxOf (L2.CX P w) P w K mg base ["key"] "need_key" (defScope s_need_key) f cdv A outer s H E) (fun cls d _ H => E cls d H) := takes_of rfl rfl rfl rfl
  have px : Passes (L2.CX P w) (cxOf (L2.CX P w) P w K mg base ["key"] "need_key" (defScope s_need_key) f cdv A outer s H E) E := px_of tk fun _ _ _ _ z => z
  have po : PassesOwn (model P w) (A.deeper (envOfC "need_key" (defScope s_need_key) s.heap.objs.size f cdv)) (envOfC "need_key" (defScope s_need_key) s.heap.objs.size f cdv) (cxOf (L2.CX P w) P w K mg base ["key"] "need_key" (defScope s_need_key) f cdv A outer s H E).xe := passes_of (X := cxOf (L2.CX P w) P w K mg base ["key"] "need_key" (defScope s_need_key) f cdv A outer s H E) rfl
  have hu := hu_of hr
  have hu64 := hr.units
  have hu65 := hu65 hr
  exact (pss_one (ps_if (pt_not (pt_val (pe_gf G_is_number (hr.mono (by decide)) px (pa_cons (pv 0) (pa_cons pe_int (pa_cons (pe_gint T.g_MOST_KEY) pa_nil)))))) (pss_one (ps_raise0 T.x_BadKey rfl tk)) pss_nil))
theorem ok_need_key {P : Program} {w : World} {K : PySem.W.Frag} {mg : Str → Option Value} {base : Heap} {a : Ad} (T : Tx P w K mg base a) (kc : Kc K a) (G_is_number : Gf P w K mg base 1 "is_number" ["part", "low", "high"] (sp_is_number P w K a)) {f : Addr} {fd : FuncData} (F : FunD K "need_key" "need_key" (defArgs s_need_key) (defBody s_need_key) (defScope s_need_key) [] [] f fd) : FnOk P w K mg base (L2.CX P w) 2 f fd ["key"] (sp_need_key P w K a) :=
  F.ok sc_need_key len_need_key fun cdv A outer s H vs Q E hr h => ⟨_, der_need_key T G_is_number hr, pure_need_key vs H Q E h⟩
theorem sc_parted : FnScope ["rows", "fill", "begin"] ["rows", "fill"] (defScope s_parted) := ⟨rfl, rfl, rfl, by decide +kernel, rfl, by decide +kernel, by decide +kernel⟩
theorem der_parted {P : Program} {w : World} {K : PySem.W.Frag} {mg : Str → Option Value} {base : Heap} {a : Ad} (T : Tx P w K mg base a) 
    {f : Addr} {cdv : Value} {A : Around} {outer : List Env} {s : Shared} {H : Hp} {E : XK} (hr : Room 0 (A.deeper (envOfC "parted" (defScope s_parted) s.heap.objs.size f cdv))) :
    PSs (cxOf (L2.CX P w) P w K mg base ["rows", "fill", "begin"] "parted" (defScope s_parted) f cdv A outer s H E) (defBody s_parted) (t_parted P w K a E) := by
  have nd := sc_parted.nd
  have tk : Takes (cxOf (L2.CX P w) P w K mg base ["rows", "fill", "begin"] "parted" (defScope s_parted) f cdv A outer s H E) (fun cls d _ H => E cls d H) := takes_of rfl rfl rfl rfl
  have px : Passes (L2.CX P w) (cxOf (L2.CX P w) P w K mg base ["rows", "fill", "begin"] "parted" (defScope s_parted) f cdv A outer s H E) E := px_of tk fun _ _ _ _ z => z
  have po : PassesOwn (model P w) (A.deeper (envOfC "parted" (defScope s_parted) s.heap.objs.size f cdv)) (envOfC "parted" (defScope s_parted) s.heap.objs.size f cdv) (cxOf (L2.CX P w) P w K mg base ["rows", "fill", "begin"] "parted" (defScope s_parted) f cdv A outer s H E).xe := passes_of (X := cxOf (L2.CX P w) P w K mg base ["rows", "fill", "begin"] "parted" (defScope s_parted) f cdv A outer s H E) rfl
  have hu := hu_of hr
  have hu64 := hr.units
  have hu65 := hu65 hr
  exact (pss_one (ps_ret (pe_ifExp (pt_cmpR (op_neD hu64) (pv 0) (pe_lst pa_nil) (nomark _)) (pe_lc (own := [("begin", 2)]) rfl nd (pi_range3 (by rfl) T.nb.range (pa_cons pe_int (pa_cons (pe_callB call_lenU (by rfl) T.nb.len (by decide +kernel) (pa_cons (pv 0) pa_nil)) (pa_cons (pv 1) pa_nil)))) (by first | exact blkOk_by (by decide +kernel) | exact blkOk_by (by rfl)) (fun _ _ _ _ _ => (pg_name (i := 2) nd rfl (by first | exact Or.inl rfl | exact Or.inr rfl))) (fun _ _ _ _ _ => pts_nil) (fun _ _ _ _ _ => (pe_callTy call_tupU (by rfl) T.nb.tuple (by decide +kernel) (pa_cons (pe_slice sl_u (pv 0) (po_some (pv 2)) (po_some (pe_op op_addU (pv 2) (pv 1)))) pa_nil)))) (pe_lst (pa_cons (pe_tup pa_nil) pa_nil)))))
theorem ok_parted {P : Program} {w : World} {K : PySem.W.Frag} {mg : Str → Option Value} {base : Heap} {a : Ad} (T : Tx P w K mg base a) (kc : Kc K a)  {f : Addr} {fd : FuncData} (F : FunD K "parted" "parted" (defArgs s_parted) (defBody s_parted) (defScope s_parted) [] [] f fd) : FnOk P w K mg base (L2.CX P w) 1 f fd ["rows", "fill"] (sp_parted P w K a) :=
  F.ok sc_parted len_parted fun cdv A outer s H vs Q E hr h => ⟨_, der_parted T  hr, pure_parted vs H Q E h⟩
theorem sc_File___init : FnScope ["self", "room", "fill", "spare", "rows", "number"] ["self", "room", "fill", "spare", "rows"] (defScope s_File___init) := ⟨rfl, rfl, rfl, by decide +kernel, rfl, by decide +kernel, by decide +kernel⟩
theorem der_File___init {P : Program} {w : World} {K : PySem.W.Frag} {mg : Str → Option Value} {base : Heap} {a : Ad} (T : Tx P w K mg base a) (M_File_lay : Mf P w K mg base 3 a.File "lay" ["self", "which", "rows", "fill"] (sp_File_lay P w K a)) (K_Store : Kf P w K mg base 1 a.Store "Store" ["self"] (sp_Store___init P w K a)) (G_need_rows : Gf P w K mg base 3 "need_rows" ["rows"] (sp_need_rows P w K a)) (G_need_shape : Gf P w K mg base 2 "need_shape" ["room", "fill", "spare"] (sp_need_shape P w K a))
    {f : Addr} {cdv : Value} {A : Around} {outer : List Env} {s : Shared} {H : Hp} {E : XK} (hr : Room 3 (A.deeper (envOfC "File.__init__" (defScope s_File___init) s.heap.objs.size f cdv))) :
    PSs (cxOf (L2.CX P w) P w K mg base ["self", "room", "fill", "spare", "rows", "number"] "File.__init__" (defScope s_File___init) f cdv A outer s H E) (defBody s_File___init) (t_File___init P w K a E) := by
  have nd := sc_File___init.nd
  have tk : Takes (cxOf (L2.CX P w) P w K mg base ["self", "room", "fill", "spare", "rows", "number"] "File.__init__" (defScope s_File___init) f cdv A outer s H E) (fun cls d _ H => E cls d H) := takes_of rfl rfl rfl rfl
  have px : Passes (L2.CX P w) (cxOf (L2.CX P w) P w K mg base ["self", "room", "fill", "spare", "rows", "number"] "File.__init__" (defScope s_File___init) f cdv A outer s H E) E := px_of tk fun _ _ _ _ z => z
  have po : PassesOwn (model P w) (A.deeper (envOfC "File.__init__" (defScope s_File___init) s.heap.objs.size f cdv)) (envOfC "File.__init__" (defScope s_File___init) s.heap.objs.size f cdv) (cxOf (L2.CX P w) P w K mg base ["self", "room", "fill", "spare", "rows", "number"] "File.__init__" (defScope s_File___init) f cdv A outer s H E).xe := passes_of (X := cxOf (L2.CX P w) P w K mg base ["self", "room", "fill", "spare", "rows", "number"] "File.__init__" (defScope s_File___init) f cdv A outer s H E) rfl
  have hu := hu_of hr
  have hu64 := hr.units
  have hu65 := hu65 hr
  exact (pss_cons (ps_expr (pe_gf G_need_shape (hr.mono (by decide)) px (pa_cons (pv 1) (pa_cons (pv 2) (pa_cons (pv 3) pa_nil))))) (pss_cons (ps_expr (pe_gf G_need_rows (hr.mono (by decide)) px (pa_cons (pv 4) pa_nil))) (pss_cons (ps_fld (pv 0) (pv 1) rfl) (pss_cons (ps_fld (pv 0) (pv 3) rfl) (pss_cons (ps_fld (pv 0) (pe_kf0 K_Store (hr.mono (by decide)) px) rfl) (pss_cons (ps_fld (pv 0) pe_dnewK rfl) (pss_cons (ps_fld (pv 0) pe_int rfl) (pss_cons (ps_for po rfl (pi_range1 (by rfl) T.nb.range (pa_cons (pv 3) pa_nil)) (pg_name (i := 5) nd rfl (by first | exact Or.inl rfl | exact Or.inr rfl)) (pss_one (ps_asg pe_non (pg_sub (pe_fld (pe_fld (pv 0) rfl) rfl) (pe_tup (pa_cons pe_str (pa_cons (pv 5) pa_nil))) (set_u hu))))) (pss_cons (ps_expr (pe_mf M_File_lay (hr.mono (by decide)) px (pv 0) (pa_cons pe_int (pa_cons (pe_callTy call_listU (by rfl) T.nb.list (by decide +kernel) (pa_cons (pv 4) pa_nil)) (pa_cons (pv 2) pa_nil))))) (pss_one (ps_fld (pe_fld (pv 0) rfl) pe_int rfl)))))))))))
theorem ok_File___init {P : Program} {w : World} {K : PySem.W.Frag} {mg : Str → Option Value} {base : Heap} {a : Ad} (T : Tx P w K mg base a) (kc : Kc K a) (M_File_lay : Mf P w K mg base 3 a.File "lay" ["self", "which", "rows", "fill"] (sp_File_lay P w K a)) (K_Store : Kf P w K mg base 1 a.Store "Store" ["self"] (sp_Store___init P w K a)) (G_need_rows : Gf P w K mg base 3 "need_rows" ["rows"] (sp_need_rows P w K a)) (G_need_shape : Gf P w K mg base 2 "need_shape" ["room", "fill", "spare"] (sp_need_shape P w K a)) {f : Addr} {fd : FuncData} (F : FunD K "__init__" "File.__init__" (defArgs s_File___init) (defBody s_File___init) (defScope s_File___init) [] [] f fd) : FnOk P w K mg base (L2.CX P w) 4 f fd ["self", "room", "fill", "spare", "rows"] (sp_File___init P w K a) :=
  F.ok sc_File___init len_File___init fun cdv A outer s H vs Q E hr h => ⟨_, der_File___init T M_File_lay K_Store G_need_rows G_need_shape hr, pure_File___init kc vs H Q E h⟩
theorem sc_File_lay : FnScope ["self", "which", "rows", "fill", "pages", "number", "page"] ["self", "which", "rows", "fill"] (defScope s_File_lay) := ⟨rfl, rfl, rfl, by decide +kernel, rfl, by decide +kernel, by decide +kernel⟩
theorem der_File_lay {P : Program} {w : World} {K : PySem.W.Frag} {mg : Str → Option Value} {base : Heap} {a : Ad} (T : Tx P w K mg base a) (M_Store_write : Mf P w K mg base 2 a.Store "write" ["self", "name", "what"] (sp_Store_write P w K a)) (G_parted : Gf P w K mg base 1 "parted" ["rows", "fill"] (sp_parted P w K a))
    {f : Addr} {cdv : Value} {A : Around} {outer : List Env} {s : Shared} {H : Hp} {E : XK} (hr : Room 2 (A.deeper (envOfC "File.lay" (defScope s_File_lay) s.heap.objs.size f cdv))) :
    PSs (cxOf (L2.CX P w) P w K mg base ["self", "which", "rows", "fill", "pages", "number", "page"] "File.lay" (defScope s_File_lay) f cdv A outer s H E) (defBody s_File_lay) (t_File_lay P w K a E) := by
  have nd := sc_File_lay.nd
  have tk : Takes (cxOf (L2.CX P w) P w K mg base ["self", "which", "rows", "fill", "pages", "number", "page"] "File.lay" (defScope s_File_lay) f cdv A outer s H E) (fun cls d _ H => E cls d H) := takes_of rfl rfl rfl rfl
  have px : Passes (L2.CX P w) (cxOf (L2.CX P w) P w K mg base ["self", "which", "rows", "fill", "pages", "number", "page"] "File.lay" (defScope s_File_lay) f cdv A outer s H E) E := px_of tk fun _ _ _ _ z => z
  have po : PassesOwn (model P w) (A.deeper (envOfC "File.lay" (defScope s_File_lay) s.heap.objs.size f cdv)) (envOfC "File.lay" (defScope s_File_lay) s.heap.objs.size f cdv) (cxOf (L2.CX P w) P w K mg base ["self", "which", "rows", "fill", "pages", "number", "page"] "File.lay" (defScope s_File_lay) f cdv A outer s H E).xe := passes_of (X := cxOf (L2.CX P w) P w K mg base ["self", "which", "rows", "fill", "pages", "number", "page"] "File.lay" (defScope s_File_lay) f cdv A outer s H E) rfl
  have hu := hu_of hr
  have hu64 := hr.units
  have hu65 := hu65 hr
  exact (pss_cons (ps_set (i := 4) nd rfl (by first | exact Or.inl rfl | exact Or.inr rfl) (pe_gf G_parted (hr.mono (by decide)) px (pa_cons (pv 2) (pa_cons (pv 3) pa_nil)))) (pss_cons (ps_for po rfl (pi_enum (by rfl) T.nb.enumerate (pa_cons (pv 4) pa_nil)) (pg_tup rfl (pgs_cons (pg_name (i := 5) nd rfl (by first | exact Or.inl rfl | exact Or.inr rfl)) (pgs_cons (pg_name (i := 6) nd rfl (by first | exact Or.inl rfl | exact Or.inr rfl)) pgs_nil))) (pss_one (ps_expr (pe_mf M_Store_write (hr.mono (by decide)) px (pe_fld (pv 0) rfl) (pa_cons (pe_tup (pa_cons pe_str (pa_cons (pv 1) (pa_cons (pv 5) pa_nil)))) (pa_cons (pe_tup (pa_cons (pv 6) (pa_cons pe_non pa_nil))) pa_nil)))))) (pss_one (ps_expr (pe_mf M_Store_write (hr.mono (by decide)) px (pe_fld (pv 0) rfl) (pa_cons (pe_gstr T.g_ROOT) (pa_cons (pe_tup (pa_cons (pv 1) (pa_cons (pe_callTy call_tupU (by rfl) T.nb.tuple (by decide +kernel) (pa_cons (pe_lc (own := [("page", 6)]) rfl nd (pi_seqU (pe_slice sl_u (pv 4) po_none (po_some (pe_un un_neg pe_int)))) (by first | exact blkOk_by (by decide +kernel) | exact blkOk_by (by rfl)) (fun _ _ _ _ _ => (pg_name (i := 6) nd rfl (by first | exact Or.inl rfl | exact Or.inr rfl))) (fun _ _ _ _ _ => pts_nil) (fun _ _ _ _ _ => (pe_ix (ix_u hu) (pe_ix (ix_u hu) (pv 6) (pe_un un_neg pe_int) (fun _ _ => rfl)) pe_int (fun _ _ => rfl)))) pa_nil)) pa_nil))) pa_nil)))))))
theorem ok_File_lay {P : Program} {w : World} {K : PySem.W.Frag} {mg : Str → Option Value} {base : Heap} {a : Ad} (T : Tx P w K mg base a) (kc : Kc K a) (M_Store_write : Mf P w K mg base 2 a.Store "write" ["self", "name", "what"] (sp_Store_write P w K a)) (G_parted : Gf P w K mg base 1 "parted" ["rows", "fill"] (sp_parted P w K a)) {f : Addr} {fd : FuncData} (F : FunD K "lay" "File.lay" (defArgs s_File_lay) (defBody s_File_lay) (defScope s_File_lay) [] [] f fd) : FnOk P w K mg base (L2.CX P w) 3 f fd ["self", "which", "rows", "fill"] (sp_File_lay P w K a) :=
  F.ok sc_File_lay len_File_lay fun cdv A outer s H vs Q E hr h => ⟨_, der_File_lay T M_Store_write G_parted hr, pure_File_lay kc vs H Q E h⟩
theorem sc_File_page_of : FnScope ["self", "key", "which", "fences", "fence"] ["self", "key"] (defScope s_File_page_of) := ⟨rfl, rfl, rfl, by decide +kernel, rfl, by decide +kernel, by decide +kernel⟩
theorem der_File_page_of {P : Program} {w : World} {K : PySem.W.Frag} {mg : Str → Option Value} {base : Heap} {a : Ad} (T : Tx P w K mg base a) (M_Store_read : Mf P w K mg base 1 a.Store "read" ["self", "name"] (sp_Store_read P w K a))
    {f : Addr} {cdv : Value} {A : Around} {outer : List Env} {s : Shared} {H : Hp} {E : XK} (hr : Room 1 (A.deeper (envOfC "File.page_of" (defScope s_File_page_of) s.heap.objs.size f cdv))) :
    PSs (cxOf (L2.CX P w) P w K mg base ["self", "key", "which", "fences", "fence"] "File.page_of" (defScope s_File_page_of) f cdv A outer s H E) (defBody s_File_page_of) (t_File_page_of P w K a E) := by
  have nd := sc_File_page_of.nd
  have tk : Takes (cxOf (L2.CX P w) P w K mg base ["self", "key", "which", "fences", "fence"] "File.page_of" (defScope s_File_page_of) f cdv A outer s H E) (fun cls d _ H => E cls d H) := takes_of rfl rfl rfl rfl
  have px : Passes (L2.CX P w) (cxOf (L2.CX P w) P w K mg base ["self", "key", "which", "fences", "fence"] "File.page_of" (defScope s_File_page_of) f cdv A outer s H E) E := px_of tk fun _ _ _ _ z => z
  have po : PassesOwn (model P w) (A.deeper (envOfC "File.page_of" (defScope s_File_page_of) s.heap.objs.size f cdv)) (envOfC "File.page_of" (defScope s_File_page_of) s.heap.objs.size f cdv) (cxOf (L2.CX P w) P w K mg base ["self", "key", "which", "fences", "fence"] "File.page_of" (defScope s_File_page_of) f cdv A outer s H E).xe := passes_of (X := cxOf (L2.CX P w) P w K mg base ["self", "key", "which", "fences", "fence"] "File.page_of" (defScope s_File_page_of) f cdv A outer s H E) rfl
  have hu := hu_of hr
  have hu64 := hr.units
  have hu65 := hu65 hr
  exact (pss_cons (ps_asg (pe_mf M_Store_read (hr.mono (by decide)) px (pe_fld (pv 0) rfl) (pa_cons (pe_gstr T.g_ROOT) pa_nil)) (pg_tup rfl (pgs_cons (pg_name (i := 2) nd rfl (by first | exact Or.inl rfl | exact Or.inr rfl)) (pgs_cons (pg_name (i := 3) nd rfl (by first | exact Or.inl rfl | exact Or.inr rfl)) pgs_nil)))) (pss_one (ps_ret (pe_tup (pa_cons pe_str (pa_cons (pv 2) (pa_cons (pe_callB call_lenU (by rfl) T.nb.len (by decide +kernel) (pa_cons (pe_lc (own := [("fence", 4)]) rfl nd (pi_seqU (pv 3)) (by first | exact blkOk_by (by decide +kernel) | exact blkOk_by (by rfl)) (fun _ _ _ _ _ => (pg_name (i := 4) nd rfl (by first | exact Or.inl rfl | exact Or.inr rfl))) (fun _ _ _ _ _ => (pts_one (pt_cmpR op_lt (pv 4) (pv 1) (nomark _)))) (fun _ _ _ _ _ => (pv 4))) pa_nil)) pa_nil)))))))
theorem ok_File_page_of {P : Program} {w : World} {K : PySem.W.Frag} {mg : Str → Option Value} {base : Heap} {a : Ad} (T : Tx P w K mg base a) (kc : Kc K a) (M_Store_read : Mf P w K mg base 1 a.Store "read" ["self", "name"] (sp_Store_read P w K a)) {f : Addr} {fd : FuncData} (F : FunD K "page_of" "File.page_of" (defArgs s_File_page_of) (defBody s_File_page_of) (defScope s_File_page_of) [] [] f fd) : FnOk P w K mg base (L2.CX P w) 2 f fd ["self", "key"] (sp_File_page_of P w K a) :=
  F.ok sc_File_page_of len_File_page_of fun cdv A outer s H vs Q E hr h => ⟨_, der_File_page_of T M_Store_read hr, pure_File_page_of kc vs H Q E h⟩
theorem sc_File_pages : FnScope ["self", "which", "fences", "number"] ["self"] (defScope s_File_pages) := ⟨rfl, rfl, rfl, by decide +kernel, rfl, by decide +kernel, by decide +kernel⟩
theorem der_File_pages {P : Program} {w : World} {K : PySem.W.Frag} {mg : Str → Option Value} {base : Heap} {a : Ad} (T : Tx P w K mg base a) (M_Store_read : Mf P w K mg base 1 a.Store "read" ["self", "name"] (sp_Store_read P w K a))
    {f : Addr} {cdv : Value} {A : Around} {outer : List Env} {s : Shared} {H : Hp} {E : XK} (hr : Room 1 (A.deeper (envOfC "File.pages" (defScope s_File_pages) s.heap.objs.size f cdv))) :
    PSs (cxOf (L2.CX P w) P w K mg base ["self", "which", "fences", "number"] "File.pages" (defScope s_File_pages) f cdv A outer s H E) (defBody s_File_pages) (t_File_pages P w K a E) := by
  have nd := sc_File_pages.nd
  have tk : Takes (cxOf (L2.CX P w) P w K mg base ["self", "which", "fences", "number"] "File.pages" (defScope s_File_pages) f cdv A outer s H E) (fun cls d _ H => E cls d H) := takes_of rfl rfl rfl rfl
  have px : Passes (L2.CX P w) (cxOf (L2.CX P w) P w K mg base ["self", "which", "fences", "number"] "File.pages" (defScope s_File_pages) f cdv A outer s H E) E := px_of tk fun _ _ _ _ z => z
  have po : PassesOwn (model P w) (A.deeper (envOfC "File.pages" (defScope s_File_pages) s.heap.objs.size f cdv)) (envOfC "File.pages" (defScope s_File_pages) s.heap.objs.size f cdv) (cxOf (L2.CX P w) P w K mg base ["self", "which", "fences", "number"] "File.pages" (defScope s_File_pages) f cdv A outer s H E).xe := passes_of (X := cxOf (L2.CX P w) P w K mg base ["self", "which", "fences", "number"] "File.pages" (defScope s_File_pages) f cdv A outer s H E) rfl
  have hu := hu_of hr
  have hu64 := hr.units
  have hu65 := hu65 hr
  exact (pss_cons (ps_asg (pe_mf M_Store_read (hr.mono (by decide)) px (pe_fld (pv 0) rfl) (pa_cons (pe_gstr T.g_ROOT) pa_nil)) (pg_tup rfl (pgs_cons (pg_name (i := 1) nd rfl (by first | exact Or.inl rfl | exact Or.inr rfl)) (pgs_cons (pg_name (i := 2) nd rfl (by first | exact Or.inl rfl | exact Or.inr rfl)) pgs_nil)))) (pss_one (ps_ret (pe_lc (own := [("number", 3)]) rfl nd (pi_range1 (by rfl) T.nb.range (pa_cons (pe_op op_addU (pe_callB call_lenU (by rfl) T.nb.len (by decide +kernel) (pa_cons (pv 2) pa_nil)) pe_int) pa_nil)) (by first | exact blkOk_by (by decide +kernel) | exact blkOk_by (by rfl)) (fun _ _ _ _ _ => (pg_name (i := 3) nd rfl (by first | exact Or.inl rfl | exact Or.inr rfl))) (fun _ _ _ _ _ => pts_nil) (fun _ _ _ _ _ => (pe_tup (pa_cons pe_str (pa_cons (pv 1) (pa_cons (pv 3) pa_nil)))))))))
theorem ok_File_pages {P : Program} {w : World} {K : PySem.W.Frag} {mg : Str → Option Value} {base : Heap} {a : Ad} (T : Tx P w K mg base a) (kc : Kc K a) (M_Store_read : Mf P w K mg base 1 a.Store "read" ["self", "name"] (sp_Store_read P w K a)) {f : Addr} {fd : FuncData} (F : FunD K "pages" "File.pages" (defArgs s_File_pages) (defBody s_File_pages) (defScope s_File_pages) [] [] f fd) : FnOk P w K mg base (L2.CX P w) 2 f fd ["self"] (sp_File_pages P w K a) :=
  F.ok sc_File_pages len_File_pages fun cdv A outer s H vs Q E hr h => ⟨_, der_File_pages T M_Store_read hr, pure_File_pages kc vs H Q E h⟩
theorem sc_File_chain : FnScope ["self", "page", "found", "number"] ["self", "page"] (defScope s_File_chain) := ⟨rfl, rfl, rfl, by decide +kernel, rfl, by decide +kernel, by decide +kernel⟩
theorem der_File_chain {P : Program} {w : World} {K : PySem.W.Frag} {mg : Str → Option Value} {base : Heap} {a : Ad} (T : Tx P w K mg base a) (M_Store_read : Mf P w K mg base 1 a.Store "read" ["self", "name"] (sp_Store_read P w K a))
    {f : Addr} {cdv : Value} {A : Around} {outer : List Env} {s : Shared} {H : Hp} {E : XK} (hr : Room 1 (A.deeper (envOfC "File.chain" (defScope s_File_chain) s.heap.objs.size f cdv))) :
    PSs (cxOf (L2.CX P w) P w K mg base ["self", "page", "found", "number"] "File.chain" (defScope s_File_chain) f cdv A outer s H E) (defBody s_File_chain) (t_File_chain P w K a E) := by
  have nd := sc_File_chain.nd
  have tk : Takes (cxOf (L2.CX P w) P w K mg base ["self", "page", "found", "number"] "File.chain" (defScope s_File_chain) f cdv A outer s H E) (fun cls d _ H => E cls d H) := takes_of rfl rfl rfl rfl
  have px : Passes (L2.CX P w) (cxOf (L2.CX P w) P w K mg base ["self", "page", "found", "number"] "File.chain" (defScope s_File_chain) f cdv A outer s H E) E := px_of tk fun _ _ _ _ z => z
  have po : PassesOwn (model P w) (A.deeper (envOfC "File.chain" (defScope s_File_chain) s.heap.objs.size f cdv)) (envOfC "File.chain" (defScope s_File_chain) s.heap.objs.size f cdv) (cxOf (L2.CX P w) P w K mg base ["self", "page", "found", "number"] "File.chain" (defScope s_File_chain) f cdv A outer s H E).xe := passes_of (X := cxOf (L2.CX P w) P w K mg base ["self", "page", "found", "number"] "File.chain" (defScope s_File_chain) f cdv A outer s H E) rfl
  have hu := hu_of hr
  have hu64 := hr.units
  have hu65 := hu65 hr
  exact (pss_cons (ps_set (i := 2) nd rfl (by first | exact Or.inl rfl | exact Or.inr rfl) (pe_lst pa_nil)) (pss_cons (ps_set (i := 3) nd rfl (by first | exact Or.inl rfl | exact Or.inr rfl) (pe_ix (ix_u hu) (pe_mf M_Store_read (hr.mono (by decide)) px (pe_fld (pv 0) rfl) (pa_cons (pv 1) pa_nil)) pe_int (fun _ _ => rfl))) (pss_cons (ps_while po (pt_cmpR op_notN (pv 3) pe_non (nomark _)) (pss_cons (ps_expr (pe_bm PySem.F.plainAttrs_list PySem.F.slot_list_append PySem.F.type_list_append mt_append (pv 2) (pa_cons (pv 3) pa_nil))) (pss_one (ps_set (i := 3) nd rfl (by first | exact Or.inl rfl | exact Or.inr rfl) (pe_ix (ix_u hu) (pe_mf M_Store_read (hr.mono (by decide)) px (pe_fld (pv 0) rfl) (pa_cons (pe_tup (pa_cons pe_str (pa_cons (pv 3) pa_nil))) pa_nil)) pe_int (fun _ _ => rfl)))))) (pss_one (ps_ret (pv 2))))))
theorem ok_File_chain {P : Program} {w : World} {K : PySem.W.Frag} {mg : Str → Option Value} {base : Heap} {a : Ad} (T : Tx P w K mg base a) (kc : Kc K a) (M_Store_read : Mf P w K mg base 1 a.Store "read" ["self", "name"] (sp_Store_read P w K a)) {f : Addr} {fd : FuncData} (F : FunD K "chain" "File.chain" (defArgs s_File_chain) (defBody s_File_chain) (defScope s_File_chain) [] [] f fd) : FnOk P w K mg base (L2.CX P w) 2 f fd ["self", "page"] (sp_File_chain P w K a) :=
  F.ok sc_File_chain len_File_chain fun cdv A outer s H vs Q E hr h => ⟨_, der_File_chain T M_Store_read hr, pure_File_chain kc vs H Q E h⟩
theorem sc_File_spilled : FnScope ["self", "number"] ["self", "number"] (defScope s_File_spilled) := ⟨rfl, rfl, rfl, by decide +kernel, rfl, by decide +kernel, by decide +kernel⟩
theorem der_File_spilled {P : Program} {w : World} {K : PySem.W.Frag} {mg : Str → Option Value} {base : Heap} {a : Ad} (T : Tx P w K mg base a) (M_Store_read : Mf P w K mg base 1 a.Store "read" ["self", "name"] (sp_Store_read P w K a))
    {f : Addr} {cdv : Value} {A : Around} {outer : List Env} {s : Shared} {H : Hp} {E : XK} (hr : Room 1 (A.deeper (envOfC "File.spilled" (defScope s_File_spilled) s.heap.objs.size f cdv))) :
    PSs (cxOf (L2.CX P w) P w K mg base ["self", "number"] "File.spilled" (defScope s_File_spilled) f cdv A outer s H E) (defBody s_File_spilled) (t_File_spilled P w K a E) := by
  have nd := sc_File_spilled.nd
  have tk : Takes (cxOf (L2.CX P w) P w K mg base ["self", "number"] "File.spilled" (defScope s_File_spilled) f cdv A outer s H E) (fun cls d _ H => E cls d H) := takes_of rfl rfl rfl rfl
  have px : Passes (L2.CX P w) (cxOf (L2.CX P w) P w K mg base ["self", "number"] "File.spilled" (defScope s_File_spilled) f cdv A outer s H E) E := px_of tk fun _ _ _ _ z => z
  have po : PassesOwn (model P w) (A.deeper (envOfC "File.spilled" (defScope s_File_spilled) s.heap.objs.size f cdv)) (envOfC "File.spilled" (defScope s_File_spilled) s.heap.objs.size f cdv) (cxOf (L2.CX P w) P w K mg base ["self", "number"] "File.spilled" (defScope s_File_spilled) f cdv A outer s H E).xe := passes_of (X := cxOf (L2.CX P w) P w K mg base ["self", "number"] "File.spilled" (defScope s_File_spilled) f cdv A outer s H E) rfl
  have hu := hu_of hr
  have hu64 := hr.units
  have hu65 := hu65 hr
  exact (pss_one (ps_ret (pe_ix (ix_u hu) (pe_mf M_Store_read (hr.mono (by decide)) px (pe_fld (pv 0) rfl) (pa_cons (pe_tup (pa_cons pe_str (pa_cons (pv 1) pa_nil))) pa_nil)) pe_int (fun _ _ => rfl))))
theorem ok_File_spilled {P : Program} {w : World} {K : PySem.W.Frag} {mg : Str → Option Value} {base : Heap} {a : Ad} (T : Tx P w K mg base a) (kc : Kc K a) (M_Store_read : Mf P w K mg base 1 a.Store "read" ["self", "name"] (sp_Store_read P w K a)) {f : Addr} {fd : FuncData} (F : FunD K "spilled" "File.spilled" (defArgs s_File_spilled) (defBody s_File_spilled) (defScope s_File_spilled) [] [] f fd) : FnOk P w K mg base (L2.CX P w) 2 f fd ["self", "number"] (sp_File_spilled P w K a) :=
  F.ok sc_File_spilled len_File_spilled fun cdv A outer s H vs Q E hr h => ⟨_, der_File_spilled T M_Store_read hr, pure_File_spilled kc vs H Q E h⟩
theorem sc_File_rows_at : FnScope ["self", "page", "number"] ["self", "page"] (defScope s_File_rows_at) := ⟨rfl, rfl, rfl, by decide +kernel, rfl, by decide +kernel, by decide +kernel⟩
theorem der_File_rows_at {P : Program} {w : World} {K : PySem.W.Frag} {mg : Str → Option Value} {base : Heap} {a : Ad} (T : Tx P w K mg base a) (M_File_chain : Mf P w K mg base 2 a.File "chain" ["self", "page"] (sp_File_chain P w K a)) (M_File_spilled : Mf P w K mg base 2 a.File "spilled" ["self", "number"] (sp_File_spilled P w K a)) (M_Store_read : Mf P w K mg base 1 a.Store "read" ["self", "name"] (sp_Store_read P w K a))
    {f : Addr} {cdv : Value} {A : Around} {outer : List Env} {s : Shared} {H : Hp} {E : XK} (hr : Room 2 (A.deeper (envOfC "File.rows_at" (defScope s_File_rows_at) s.heap.objs.size f cdv))) :
    PSs (cxOf (L2.CX P w) P w K mg base ["self", "page", "number"] "File.rows_at" (defScope s_File_rows_at) f cdv A outer s H E) (defBody s_File_rows_at) (t_File_rows_at P w K a E) := by
  have nd := sc_File_rows_at.nd
  have tk : Takes (cxOf (L2.CX P w) P w K mg base ["self", "page", "number"] "File.rows_at" (defScope s_File_rows_at) f cdv A outer s H E) (fun cls d _ H => E cls d H) := takes_of rfl rfl rfl rfl
  have px : Passes (L2.CX P w) (cxOf (L2.CX P w) P w K mg base ["self", "page", "number"] "File.rows_at" (defScope s_File_rows_at) f cdv A outer s H E) E := px_of tk fun _ _ _ _ z => z
  have po : PassesOwn (model P w) (A.deeper (envOfC "File.rows_at" (defScope s_File_rows_at) s.heap.objs.size f cdv)) (envOfC "File.rows_at" (defScope s_File_rows_at) s.heap.objs.size f cdv) (cxOf (L2.CX P w) P w K mg base ["self", "page", "number"] "File.rows_at" (defScope s_File_rows_at) f cdv A outer s H E).xe := passes_of (X := cxOf (L2.CX P w) P w K mg base ["self", "page", "number"] "File.rows_at" (defScope s_File_rows_at) f cdv A outer s H E) rfl
  have hu := hu_of hr
  have hu64 := hr.units
  have hu65 := hu65 hr
  exact (pss_one (ps_ret (pe_op op_addU (pe_callTy call_listU (by rfl) T.nb.list (by decide +kernel) (pa_cons (pe_ix (ix_u hu) (pe_mf M_Store_read (hr.mono (by decide)) px (pe_fld (pv 0) rfl) (pa_cons (pv 1) pa_nil)) pe_int (fun _ _ => rfl)) pa_nil)) (pe_lc (own := [("number", 2)]) rfl nd (pi_seqU (pe_mf M_File_chain (hr.mono (by decide)) px (pv 0) (pa_cons (pv 1) pa_nil))) (by first | exact blkOk_by (by decide +kernel) | exact blkOk_by (by rfl)) (fun _ _ _ _ _ => (pg_name (i := 2) nd rfl (by first | exact Or.inl rfl | exact Or.inr rfl))) (fun _ _ _ _ _ => pts_nil) (fun _ _ _ _ _ => (pe_mf M_File_spilled (hr.mono (by decide)) passL (pv 0) (pa_cons (pv 2) pa_nil)))))))
theorem ok_File_rows_at {P : Program} {w : World} {K : PySem.W.Frag} {mg : Str → Option Value} {base : Heap} {a : Ad} (T : Tx P w K mg base a) (kc : Kc K a) (M_File_chain : Mf P w K mg base 2 a.File "chain" ["self", "page"] (sp_File_chain P w K a)) (M_File_spilled : Mf P w K mg base 2 a.File "spilled" ["self", "number"] (sp_File_spilled P w K a)) (M_Store_read : Mf P w K mg base 1 a.Store "read" ["self", "name"] (sp_Store_read P w K a)) {f : Addr} {fd : FuncData} (F : FunD K "rows_at" "File.rows_at" (defArgs s_File_rows_at) (defBody s_File_rows_at) (defScope s_File_rows_at) [] [] f fd) : FnOk P w K mg base (L2.CX P w) 3 f fd ["self", "page"] (sp_File_rows_at P w K a) :=
  F.ok sc_File_rows_at len_File_rows_at fun cdv A outer s H vs Q E hr h => ⟨_, der_File_rows_at T M_File_chain M_File_spilled M_Store_read hr, pure_File_rows_at kc vs H Q E h⟩
theorem sc_File_found : FnScope ["self", "key"] ["self", "key"] (defScope s_File_found) := ⟨rfl, rfl, rfl, by decide +kernel, rfl, by decide +kernel, by decide +kernel⟩
theorem der_File_found {P : Program} {w : World} {K : PySem.W.Frag} {mg : Str → Option Value} {base : Heap} {a : Ad} (T : Tx P w K mg base a) (M_File_page_of : Mf P w K mg base 2 a.File "page_of" ["self", "key"] (sp_File_page_of P w K a)) (M_File_rows_at : Mf P w K mg base 3 a.File "rows_at" ["self", "page"] (sp_File_rows_at P w K a)) (M_Store_need_up : Mf P w K mg base 1 a.Store "need_up" ["self"] (sp_Store_need_up P w K a)) (G_need_key : Gf P w K mg base 2 "need_key" ["key"] (sp_need_key P w K a))
    {f : Addr} {cdv : Value} {A : Around} {outer : List Env} {s : Shared} {H : Hp} {E : XK} (hr : Room 3 (A.deeper (envOfC "File.found" (defScope s_File_found) s.heap.objs.size f cdv))) :
    PSs (cxOf (L2.CX P w) P w K mg base ["self", "key"] "File.found" (defScope s_File_found) f cdv A outer s H E) (defBody s_File_found) (t_File_found P w K a E) := by
  have nd := sc_File_found.nd
  have tk : Takes (cxOf (L2.CX P w) P w K mg base ["self", "key"] "File.found" (defScope s_File_found) f cdv A outer s H E) (fun cls d _ H => E cls d H) := takes_of rfl rfl rfl rfl
  have px : Passes (L2.CX P w) (cxOf (L2.CX P w) P w K mg base ["self", "key"] "File.found" (defScope s_File_found) f cdv A outer s H E) E := px_of tk fun _ _ _ _ z => z
  have po : PassesOwn (model P w) (A.deeper (envOfC "File.found" (defScope s_File_found) s.heap.objs.size f cdv)) (envOfC "File.found" (defScope s_File_found) s.heap.objs.size f cdv) (cxOf (L2.CX P w) P w K mg base ["self", "key"] "File.found" (defScope s_File_found) f cdv A outer s H E).xe := passes_of (X := cxOf (L2.CX P w) P w K mg base ["self", "key"] "File.found" (defScope s_File_found) f cdv A outer s H E) rfl
  have hu := hu_of hr
  have hu64 := hr.units
  have hu65 := hu65 hr
  exact (pss_cons (ps_expr (pe_mf0 M_Store_need_up (hr.mono (by decide)) px (pe_fld (pv 0) rfl))) (pss_cons (ps_expr (pe_gf G_need_key (hr.mono (by decide)) px (pa_cons (pv 1) pa_nil))) (pss_one (ps_ret (pe_dget1 hu (pe_callTy (call_dictU rfl) (by rfl) T.nb.dict (by decide +kernel) (pa_cons (pe_mf M_File_rows_at (hr.mono (by decide)) px (pv 0) (pa_cons (pe_mf M_File_page_of (hr.mono (by decide)) px (pv 0) (pa_cons (pv 1) pa_nil)) pa_nil)) pa_nil)) (pv 1) (by exact ⟨rfl, rfl, rfl, rfl⟩))))))
theorem ok_File_found {P : Program} {w : World} {K : PySem.W.Frag} {mg : Str → Option Value} {base : Heap} {a : Ad} (T : Tx P w K mg base a) (kc : Kc K a) (M_File_page_of : Mf P w K mg base 2 a.File "page_of" ["self", "key"] (sp_File_page_of P w K a)) (M_File_rows_at : Mf P w K mg base 3 a.File "rows_at" ["self", "page"] (sp_File_rows_at P w K a)) (M_Store_need_up : Mf P w K mg base 1 a.Store "need_up" ["self"] (sp_Store_need_up P w K a)) (G_need_key : Gf P w K mg base 2 "need_key" ["key"] (sp_need_key P w K a)) {f : Addr} {fd : FuncData} (F : FunD K "found" "File.found" (defArgs s_File_found) (defBody s_File_found) (defScope s_File_found) [] [] f fd) : FnOk P w K mg base (L2.CX P w) 4 f fd ["self", "key"] (sp_File_found P w K a) :=
  F.ok sc_File_found len_File_found fun cdv A outer s H vs Q E hr h => ⟨_, der_File_found T M_File_page_of M_File_rows_at M_Store_need_up G_need_key hr, pure_File_found kc vs H Q E h⟩
theorem sc_File_looks : FnScope ["self", "key", "page", "rows", "some", "number"] ["self", "key"] (defScope s_File_looks) := ⟨rfl, rfl, rfl, by decide +kernel, rfl, by decide +kernel, by decide +kernel⟩
theorem der_File_looks {P : Program} {w : World} {K : PySem.W.Frag} {mg : Str → Option Value} {base : Heap} {a : Ad} (T : Tx P w K mg base a) (M_File_chain : Mf P w K mg base 2 a.File "chain" ["self", "page"] (sp_File_chain P w K a)) (M_File_page_of : Mf P w K mg base 2 a.File "page_of" ["self", "key"] (sp_File_page_of P w K a)) (M_File_spilled : Mf P w K mg base 2 a.File "spilled" ["self", "number"] (sp_File_spilled P w K a)) (M_Store_need_up : Mf P w K mg base 1 a.Store "need_up" ["self"] (sp_Store_need_up P w K a)) (M_Store_read : Mf P w K mg base 1 a.Store "read" ["self", "name"] (sp_Store_read P w K a)) (G_need_key : Gf P w K mg base 2 "need_key" ["key"] (sp_need_key P w K a))
    {f : Addr} {cdv : Value} {A : Around} {outer : List Env} {s : Shared} {H : Hp} {E : XK} (hr : Room 2 (A.deeper (envOfC "File.looks" (defScope s_File_looks) s.heap.objs.size f cdv))) :
    PSs (cxOf (L2.CX P w) P w K mg base ["self", "key", "page", "rows", "some", "number"] "File.looks" (defScope s_File_looks) f cdv A outer s H E) (defBody s_File_looks) (t_File_looks P w K a E) := by
  have nd := sc_File_looks.nd
  have tk : Takes (cxOf (L2.CX P w) P w K mg base ["self", "key", "page", "rows", "some", "number"] "File.looks" (defScope s_File_looks) f cdv A outer s H E) (fun cls d _ H => E cls d H) := takes_of rfl rfl rfl rfl
  have px : Passes (L2.CX P w) (cxOf (L2.CX P w) P w K mg base ["self", "key", "page", "rows", "some", "number"] "File.looks" (defScope s_File_looks) f cdv A outer s H E) E := px_of tk fun _ _ _ _ z => z
  have po : PassesOwn (model P w) (A.deeper (envOfC "File.looks" (defScope s_File_looks) s.heap.objs.size f cdv)) (envOfC "File.looks" (defScope s_File_looks) s.heap.objs.size f cdv) (cxOf (L2.CX P w) P w K mg base ["self", "key", "page", "rows", "some", "number"] "File.looks" (defScope s_File_looks) f cdv A outer s H E).xe := passes_of (X := cxOf (L2.CX P w) P w K mg base ["self", "key", "page", "rows", "some", "number"] "File.looks" (defScope s_File_looks) f cdv A outer s H E) rfl
  have hu := hu_of hr
  have hu64 := hr.units
  have hu65 := hu65 hr
  exact (pss_cons (ps_expr (pe_mf0 M_Store_need_up (hr.mono (by decide)) px (pe_fld (pv 0) rfl))) (pss_cons (ps_expr (pe_gf G_need_key (hr.mono (by decide)) px (pa_cons (pv 1) pa_nil))) (pss_cons (ps_set (i := 2) nd rfl (by first | exact Or.inl rfl | exact Or.inr rfl) (pe_mf M_File_page_of (hr.mono (by decide)) px (pv 0) (pa_cons (pv 1) pa_nil))) (pss_cons (ps_set (i := 3) nd rfl (by first | exact Or.inl rfl | exact Or.inr rfl) (pe_ix (ix_u hu) (pe_mf M_Store_read (hr.mono (by decide)) px (pe_fld (pv 0) rfl) (pa_cons (pv 2) pa_nil)) pe_int (fun _ _ => rfl))) (pss_cons (ps_if (PW.pt (pw_or (pt_cmpR (op_eqD hu64) (pv 3) (pe_tup pa_nil) (nomark _)) (pw_or1 (pt_cmpR op_le (pv 1) (pe_ix (ix_u hu) (pe_ix (ix_u hu) (pv 3) (pe_un un_neg pe_int) (fun _ _ => rfl)) pe_int (fun _ _ => rfl)) (nomark _))))) (pss_one (ps_ret pe_int)) pss_nil) (pss_cons (ps_setLc (i := 4) (own := [("number", 5)]) rfl nd rfl rfl (sw_true rfl rfl rfl (by decide +kernel)) (pi_seqU (pe_mf M_File_chain (hr.mono (by decide)) px (pv 0) (pa_cons (pv 2) pa_nil))) (by first | exact blkOk_by (by decide +kernel) | exact blkOk_by (by rfl)) (fun _ _ _ _ _ => (pg_name (i := 5) nd rfl (by first | exact Or.inl rfl | exact Or.inr rfl))) (fun _ _ _ _ _ => (pts_one (pt_cmpR op_lt (pe_ix (ix_u hu) (pe_mf M_File_spilled (hr.mono (by decide)) passL (pv 0) (pa_cons (pv 5) pa_nil)) pe_int (fun _ _ => rfl)) (pv 1) (nomark _)))) (fun _ _ _ _ _ => (pv 5))) (pss_one (ps_ret (pe_op op_addU pe_int (pe_callB (call_min2U rfl) (by rfl) T.nb.min (by decide +kernel) (pa_cons (pe_op op_addU (pe_callB call_lenU (by rfl) T.nb.len (by decide +kernel) (pa_cons (pv 4) pa_nil)) pe_int) (pa_cons (pe_callB call_lenU (by rfl) T.nb.len (by decide +kernel) (pa_cons (pe_mf M_File_chain (hr.mono (by decide)) px (pv 0) (pa_cons (pv 2) pa_nil)) pa_nil)) pa_nil))))))))))))
theorem ok_File_looks {P : Program} {w : World} {K : PySem.W.Frag} {mg : Str → Option Value} {base : Heap} {a : Ad} (T : Tx P w K mg base a) (kc : Kc K a) (M_File_chain : Mf P w K mg base 2 a.File "chain" ["self", "page"] (sp_File_chain P w K a)) (M_File_page_of : Mf P w K mg base 2 a.File "page_of" ["self", "key"] (sp_File_page_of P w K a)) (M_File_spilled : Mf P w K mg base 2 a.File "spilled" ["self", "number"] (sp_File_spilled P w K a)) (M_Store_need_up : Mf P w K mg base 1 a.Store "need_up" ["self"] (sp_Store_need_up P w K a)) (M_Store_read : Mf P w K mg base 1 a.Store "read" ["self", "name"] (sp_Store_read P w K a)) (G_need_key : Gf P w K mg base 2 "need_key" ["key"] (sp_need_key P w K a)) {f : Addr} {fd : FuncData} (F : FunD K "looks" "File.looks" (defArgs s_File_looks) (defBody s_File_looks) (defScope s_File_looks) [] [] f fd) : FnOk P w K mg base (L2.CX P w) 3 f fd ["self", "key"] (sp_File_looks P w K a) :=
  F.ok sc_File_looks len_File_looks fun cdv A outer s H vs Q E hr h => ⟨_, der_File_looks T M_File_chain M_File_page_of M_File_spilled M_Store_need_up M_Store_read G_need_key hr, pure_File_looks kc vs H Q E h⟩
theorem sc_File_rows : FnScope ["self", "found", "page"] ["self"] (defScope s_File_rows) := ⟨rfl, rfl, rfl, by decide +kernel, rfl, by decide +kernel, by decide +kernel⟩
theorem der_File_rows {P : Program} {w : World} {K : PySem.W.Frag} {mg : Str → Option Value} {base : Heap} {a : Ad} (T : Tx P w K mg base a) (M_File_pages : Mf P w K mg base 2 a.File "pages" ["self"] (sp_File_pages P w K a)) (M_File_rows_at : Mf P w K mg base 3 a.File "rows_at" ["self", "page"] (sp_File_rows_at P w K a))
    {f : Addr} {cdv : Value} {A : Around} {outer : List Env} {s : Shared} {H : Hp} {E : XK} (hr : Room 3 (A.deeper (envOfC "File.rows" (defScope s_File_rows) s.heap.objs.size f cdv))) :
    PSs (cxOf (L2.CX P w) P w K mg base ["self", "found", "page"] "File.rows" (defScope s_File_rows) f cdv A outer s H E) (defBody s_File_rows) (t_File_rows P w K a E) := by
  have nd := sc_File_rows.nd
  have tk : Takes (cxOf (L2.CX P w) P w K mg base ["self", "found", "page"] "File.rows" (defScope s_File_rows) f cdv A outer s H E) (fun cls d _ H => E cls d H) := takes_of rfl rfl rfl rfl
  have px : Passes (L2.CX P w) (cxOf (L2.CX P w) P w K mg base ["self", "found", "page"] "File.rows" (defScope s_File_rows) f cdv A outer s H E) E := px_of tk fun _ _ _ _ z => z
  have po : PassesOwn (model P w) (A.deeper (envOfC "File.rows" (defScope s_File_rows) s.heap.objs.size f cdv)) (envOfC "File.rows" (defScope s_File_rows) s.heap.objs.size f cdv) (cxOf (L2.CX P w) P w K mg base ["self", "found", "page"] "File.rows" (defScope s_File_rows) f cdv A outer s H E).xe := passes_of (X := cxOf (L2.CX P w) P w K mg base ["self", "found", "page"] "File.rows" (defScope s_File_rows) f cdv A outer s H E) rfl
  have hu := hu_of hr
  have hu64 := hr.units
  have hu65 := hu65 hr
  exact (pss_cons (ps_set (i := 1) nd rfl (by first | exact Or.inl rfl | exact Or.inr rfl) (pe_lst pa_nil)) (pss_cons (ps_for po rfl (pi_seqU (pe_mf0 M_File_pages (hr.mono (by decide)) px (pv 0))) (pg_name (i := 2) nd rfl (by first | exact Or.inl rfl | exact Or.inr rfl)) (pss_one (ps_expr (pe_bm PySem.F.plainAttrs_list PySem.F.slot_list_extend PySem.F.type_list_extend mt_extend (pv 1) (pa_cons (pe_mf M_File_rows_at (hr.mono (by decide)) px (pv 0) (pa_cons (pv 2) pa_nil)) pa_nil))))) (pss_one (ps_ret (pv 1)))))
theorem ok_File_rows {P : Program} {w : World} {K : PySem.W.Frag} {mg : Str → Option Value} {base : Heap} {a : Ad} (T : Tx P w K mg base a) (kc : Kc K a) (M_File_pages : Mf P w K mg base 2 a.File "pages" ["self"] (sp_File_pages P w K a)) (M_File_rows_at : Mf P w K mg base 3 a.File "rows_at" ["self", "page"] (sp_File_rows_at P w K a)) {f : Addr} {fd : FuncData} (F : FunD K "rows" "File.rows" (defArgs s_File_rows) (defBody s_File_rows) (defScope s_File_rows) [] [] f fd) : FnOk P w K mg base (L2.CX P w) 4 f fd ["self"] (sp_File_rows P w K a) :=
  F.ok sc_File_rows len_File_rows fun cdv A outer s H vs Q E hr h => ⟨_, der_File_rows T M_File_pages M_File_rows_at hr, pure_File_rows kc vs H Q E h⟩
theorem sc_File_walk : FnScope ["self"] ["self"] (defScope s_File_walk) := ⟨rfl, rfl, rfl, by decide +kernel, rfl, by decide +kernel, by decide +kernel⟩
theorem der_File_walk {P : Program} {w : World} {K : PySem.W.Frag} {mg : Str → Option Value} {base : Heap} {a : Ad} (T : Tx P w K mg base a) (M_File_many_looks : Mf P w K mg base 3 a.File "many_looks" ["self", "pages"] (sp_File_many_looks P w K a)) (M_File_pages : Mf P w K mg base 2 a.File "pages" ["self"] (sp_File_pages P w K a)) (M_File_rows : Mf P w K mg base 4 a.File "rows" ["self"] (sp_File_rows P w K a)) (M_Store_need_up : Mf P w K mg base 1 a.Store "need_up" ["self"] (sp_Store_need_up P w K a))
    {f : Addr} {cdv : Value} {A : Around} {outer : List Env} {s : Shared} {H : Hp} {E : XK} (hr : Room 4 (A.deeper (envOfC "File.walk" (defScope s_File_walk) s.heap.objs.size f cdv))) :
    PSs (cxOf (L2.CX P w) P w K mg base ["self"] "File.walk" (defScope s_File_walk) f cdv A outer s H E) (defBody s_File_walk) (t_File_walk P w K a E) := by
  have nd := sc_File_walk.nd
  have tk : Takes (cxOf (L2.CX P w) P w K mg base ["self"] "File.walk" (defScope s_File_walk) f cdv A outer s H E) (fun cls d _ H => E cls d H) := takes_of rfl rfl rfl rfl
  have px : Passes (L2.CX P w) (cxOf (L2.CX P w) P w K mg base ["self"] "File.walk" (defScope s_File_walk) f cdv A outer s H E) E := px_of tk fun _ _ _ _ z => z
  have po : PassesOwn (model P w) (A.deeper (envOfC "File.walk" (defScope s_File_walk) s.heap.objs.size f cdv)) (envOfC "File.walk" (defScope s_File_walk) s.heap.objs.size f cdv) (cxOf (L2.CX P w) P w K mg base ["self"] "File.walk" (defScope s_File_walk) f cdv A outer s H E).xe := passes_of (X := cxOf (L2.CX P w) P w K mg base ["self"] "File.walk" (defScope s_File_walk) f cdv A outer s H E) rfl
  have hu := hu_of hr
  have hu64 := hr.units
  have hu65 := hu65 hr
  exact (pss_cons (ps_expr (pe_mf0 M_Store_need_up (hr.mono (by decide)) px (pe_fld (pv 0) rfl))) (pss_one (ps_ret (pe_tup (pa_cons (pe_mf0 M_File_rows (hr.mono (by decide)) px (pv 0)) (pa_cons (pe_mf M_File_many_looks (hr.mono (by decide)) px (pv 0) (pa_cons (pe_mf0 M_File_pages (hr.mono (by decide)) px (pv 0)) pa_nil)) pa_nil))))))
theorem ok_File_walk {P : Program} {w : World} {K : PySem.W.Frag} {mg : Str → Option Value} {base : Heap} {a : Ad} (T : Tx P w K mg base a) (kc : Kc K a) (M_File_many_looks : Mf P w K mg base 3 a.File "many_looks" ["self", "pages"] (sp_File_many_looks P w K a)) (M_File_pages : Mf P w K mg base 2 a.File "pages" ["self"] (sp_File_pages P w K a)) (M_File_rows : Mf P w K mg base 4 a.File "rows" ["self"] (sp_File_rows P w K a)) (M_Store_need_up : Mf P w K mg base 1 a.Store "need_up" ["self"] (sp_Store_need_up P w K a)) {f : Addr} {fd : FuncData} (F : FunD K "walk" "File.walk" (defArgs s_File_walk) (defBody s_File_walk) (defScope s_File_walk) [] [] f fd) : FnOk P w K mg base (L2.CX P w) 5 f fd ["self"] (sp_File_walk P w K a) :=
  F.ok sc_File_walk len_File_walk fun cdv A outer s H vs Q E hr h => ⟨_, der_File_walk T M_File_many_looks M_File_pages M_File_rows M_Store_need_up hr, pure_File_walk kc vs H Q E h⟩
theorem sc_File_many_looks : FnScope ["self", "pages", "page"] ["self", "pages"] (defScope s_File_many_looks) := ⟨rfl, rfl, rfl, by decide +kernel, rfl, by decide +kernel, by decide +kernel⟩
theorem der_File_many_looks {P : Program} {w : World} {K : PySem.W.Frag} {mg : Str → Option Value} {base : Heap} {a : Ad} (T : Tx P w K mg base a) (M_File_chain : Mf P w K mg base 2 a.File "chain" ["self", "page"] (sp_File_chain P w K a))
    {f : Addr} {cdv : Value} {A : Around} {outer : List Env} {s : Shared} {H : Hp} {E : XK} (hr : Room 2 (A.deeper (envOfC "File.many_looks" (defScope s_File_many_looks) s.heap.objs.size f cdv))) :
    PSs (cxOf (L2.CX P w) P w K mg base ["self", "pages", "page"] "File.many_looks" (defScope s_File_many_looks) f cdv A outer s H E) (defBody s_File_many_looks) (t_File_many_looks P w K a E) := by
  have nd := sc_File_many_looks.nd
  have tk : Takes (cxOf (L2.CX P w) P w K mg base ["self", "pages", "page"] "File.many_looks" (defScope s_File_many_looks) f cdv A outer s H E) (fun cls d _ H => E cls d H) := takes_of rfl rfl rfl rfl
  have px : Passes (L2.CX P w) (cxOf (L2.CX P w) P w K mg base ["self", "pages", "page"] "File.many_looks" (defScope s_File_many_looks) f cdv A outer s H E) E := px_of tk fun _ _ _ _ z => z
  have po : PassesOwn (model P w) (A.deeper (envOfC "File.many_looks" (defScope s_File_many_looks) s.heap.objs.size f cdv)) (envOfC "File.many_looks" (defScope s_File_many_looks) s.heap.objs.size f cdv) (cxOf (L2.CX P w) P w K mg base ["self", "pages", "page"] "File.many_looks" (defScope s_File_many_looks) f cdv A outer s H E).xe := passes_of (X := cxOf (L2.CX P w) P w K mg base ["self", "pages", "page"] "File.many_looks" (defScope s_File_many_looks) f cdv A outer s H E) rfl
  have hu := hu_of hr
  have hu64 := hr.units
  have hu65 := hu65 hr
  exact (pss_one (ps_ret (pe_callB (cr_sum rfl) (by rfl) T.nb.sum (by decide +kernel) (pa_cons (pe_lc (own := [("page", 2)]) rfl nd (pi_seqU (pv 1)) (by first | exact blkOk_by (by decide +kernel) | exact blkOk_by (by rfl)) (fun _ _ _ _ _ => (pg_name (i := 2) nd rfl (by first | exact Or.inl rfl | exact Or.inr rfl))) (fun _ _ _ _ _ => pts_nil) (fun _ _ _ _ _ => (pe_op op_addU pe_int (pe_callB call_lenU (by rfl) T.nb.len (by decide +kernel) (pa_cons (pe_mf M_File_chain (hr.mono (by decide)) passL (pv 0) (pa_cons (pv 2) pa_nil)) pa_nil))))) pa_nil))))
theorem ok_File_many_looks {P : Program} {w : World} {K : PySem.W.Frag} {mg : Str → Option Value} {base : Heap} {a : Ad} (T : Tx P w K mg base a) (kc : Kc K a) (M_File_chain : Mf P w K mg base 2 a.File "chain" ["self", "page"] (sp_File_chain P w K a)) {f : Addr} {fd : FuncData} (F : FunD K "many_looks" "File.many_looks" (defArgs s_File_many_looks) (defBody s_File_many_looks) (defScope s_File_many_looks) [] [] f fd) : FnOk P w K mg base (L2.CX P w) 3 f fd ["self", "pages"] (sp_File_many_looks P w K a) :=
  F.ok sc_File_many_looks len_File_many_looks fun cdv A outer s H vs Q E hr h => ⟨_, der_File_many_looks T M_File_chain hr, pure_File_many_looks kc vs H Q E h⟩
theorem sc_File_writes : FnScope ["self"] ["self"] (defScope s_File_writes) := ⟨rfl, rfl, rfl, by decide +kernel, rfl, by decide +kernel, by decide +kernel⟩
theorem der_File_writes {P : Program} {w : World} {K : PySem.W.Frag} {mg : Str → Option Value} {base : Heap} {a : Ad} (T : Tx P w K mg base a) 
    {f : Addr} {cdv : Value} {A : Around} {outer : List Env} {s : Shared} {H : Hp} {E : XK} (hr : Room 0 (A.deeper (envOfC "File.writes" (defScope s_File_writes) s.heap.objs.size f cdv))) :
    PSs (cxOf (L2.CX P w) P w K mg base ["self"] "File.writes" (defScope s_File_writes) f cdv A outer s H E) (defBody s_File_writes) (t_File_writes P w K a E) := by
  have nd := sc_File_writes.nd
  have tk : Takes (cxOf (L2.CX P w) P w K mg base ["self"] "File.writes" (defScope s_File_writes) f cdv A outer s H E) (fun cls d _ H => E cls d H) := takes_of rfl rfl rfl rfl
  have px : Passes (L2.CX P w) (cxOf (L2.CX P w) P w K mg base ["self"] "File.writes" (defScope s_File_writes) f cdv A outer s H E) E := px_of tk fun _ _ _ _ z => z
  have po : PassesOwn (model P w) (A.deeper (envOfC "File.writes" (defScope s_File_writes) s.heap.objs.size f cdv)) (envOfC "File.writes" (defScope s_File_writes) s.heap.objs.size f cdv) (cxOf (L2.CX P w) P w K mg base ["self"] "File.writes" (defScope s_File_writes) f cdv A outer s H E).xe := passes_of (X := cxOf (L2.CX P w) P w K mg base ["self"] "File.writes" (defScope s_File_writes) f cdv A outer s H E) rfl
  have hu := hu_of hr
  have hu64 := hr.units
  have hu65 := hu65 hr
  exact (pss_one (ps_ret (pe_fld (pe_fld (pv 0) rfl) rfl)))
theorem ok_File_writes {P : Program} {w : World} {K : PySem.W.Frag} {mg : Str → Option Value} {base : Heap} {a : Ad} (T : Tx P w K mg base a) (kc : Kc K a)  {f : Addr} {fd : FuncData} (F : FunD K "writes" "File.writes" (defArgs s_File_writes) (defBody s_File_writes) (defScope s_File_writes) [] [] f fd) : FnOk P w K mg base (L2.CX P w) 1 f fd ["self"] (sp_File_writes P w K a) :=
  F.ok sc_File_writes len_File_writes fun cdv A outer s H vs Q E hr h => ⟨_, der_File_writes T  hr, pure_File_writes kc vs H Q E h⟩
theorem sc_File_picture : FnScope ["self", "pages", "spills", "page", "number"] ["self"] (defScope s_File_picture) := ⟨rfl, rfl, rfl, by decide +kernel, rfl, by decide +kernel, by decide +kernel⟩
theorem der_File_picture {P : Program} {w : World} {K : PySem.W.Frag} {mg : Str → Option Value} {base : Heap} {a : Ad} (T : Tx P w K mg base a) (M_File_pages : Mf P w K mg base 2 a.File "pages" ["self"] (sp_File_pages P w K a)) (M_Store_read : Mf P w K mg base 1 a.Store "read" ["self", "name"] (sp_Store_read P w K a))
    {f : Addr} {cdv : Value} {A : Around} {outer : List Env} {s : Shared} {H : Hp} {E : XK} (hr : Room 2 (A.deeper (envOfC "File.picture" (defScope s_File_picture) s.heap.objs.size f cdv))) :
    PSs (cxOf (L2.CX P w) P w K mg base ["self", "pages", "spills", "page", "number"] "File.picture" (defScope s_File_picture) f cdv A outer s H E) (defBody s_File_picture) (t_File_picture P w K a E) := by
  have nd := sc_File_picture.nd
  have tk : Takes (cxOf (L2.CX P w) P w K mg base ["self", "pages", "spills", "page", "number"] "File.picture" (defScope s_File_picture) f cdv A outer s H E) (fun cls d _ H => E cls d H) := takes_of rfl rfl rfl rfl
  have px : Passes (L2.CX P w) (cxOf (L2.CX P w) P w K mg base ["self", "pages", "spills", "page", "number"] "File.picture" (defScope s_File_picture) f cdv A outer s H E) E := px_of tk fun _ _ _ _ z => z
  have po : PassesOwn (model P w) (A.deeper (envOfC "File.picture" (defScope s_File_picture) s.heap.objs.size f cdv)) (envOfC "File.picture" (defScope s_File_picture) s.heap.objs.size f cdv) (cxOf (L2.CX P w) P w K mg base ["self", "pages", "spills", "page", "number"] "File.picture" (defScope s_File_picture) f cdv A outer s H E).xe := passes_of (X := cxOf (L2.CX P w) P w K mg base ["self", "pages", "spills", "page", "number"] "File.picture" (defScope s_File_picture) f cdv A outer s H E) rfl
  have hu := hu_of hr
  have hu64 := hr.units
  have hu65 := hu65 hr
  exact (pss_cons (ps_set (i := 1) nd rfl (by first | exact Or.inl rfl | exact Or.inr rfl) (pe_callTy call_tupU (by rfl) T.nb.tuple (by decide +kernel) (pa_cons (pe_lc (own := [("page", 3)]) rfl nd (pi_seqU (pe_mf0 M_File_pages (hr.mono (by decide)) px (pv 0))) (by first | exact blkOk_by (by decide +kernel) | exact blkOk_by (by rfl)) (fun _ _ _ _ _ => (pg_name (i := 3) nd rfl (by first | exact Or.inl rfl | exact Or.inr rfl))) (fun _ _ _ _ _ => pts_nil) (fun _ _ _ _ _ => (pe_mf M_Store_read (hr.mono (by decide)) passL (pe_fld (pv 0) rfl) (pa_cons (pv 3) pa_nil)))) pa_nil))) (pss_cons (ps_set (i := 2) nd rfl (by first | exact Or.inl rfl | exact Or.inr rfl) (pe_callTy call_tupU (by rfl) T.nb.tuple (by decide +kernel) (pa_cons (pe_lc (own := [("number", 4)]) rfl nd (pi_range1 (by rfl) T.nb.range (pa_cons (pe_fld (pv 0) rfl) pa_nil)) (by first | exact blkOk_by (by decide +kernel) | exact blkOk_by (by rfl)) (fun _ _ _ _ _ => (pg_name (i := 4) nd rfl (by first | exact Or.inl rfl | exact Or.inr rfl))) (fun _ _ _ _ _ => pts_nil) (fun _ _ _ _ _ => (pe_mf M_Store_read (hr.mono (by decide)) passL (pe_fld (pv 0) rfl) (pa_cons (pe_tup (pa_cons pe_str (pa_cons (pv 4) pa_nil))) pa_nil)))) pa_nil))) (pss_one (ps_ret (pe_tup (pa_cons (pe_ix (ix_u hu) (pe_mf M_Store_read (hr.mono (by decide)) px (pe_fld (pv 0) rfl) (pa_cons (pe_gstr T.g_ROOT) pa_nil)) pe_int (fun _ _ => rfl)) (pa_cons (pv 1) (pa_cons (pv 2) pa_nil))))))))
theorem ok_File_picture {P : Program} {w : World} {K : PySem.W.Frag} {mg : Str → Option Value} {base : Heap} {a : Ad} (T : Tx P w K mg base a) (kc : Kc K a) (M_File_pages : Mf P w K mg base 2 a.File "pages" ["self"] (sp_File_pages P w K a)) (M_Store_read : Mf P w K mg base 1 a.Store "read" ["self", "name"] (sp_Store_read P w K a)) {f : Addr} {fd : FuncData} (F : FunD K "picture" "File.picture" (defArgs s_File_picture) (defBody s_File_picture) (defScope s_File_picture) [] [] f fd) : FnOk P w K mg base (L2.CX P w) 3 f fd ["self"] (sp_File_picture P w K a) :=
  F.ok sc_File_picture len_File_picture fun cdv A outer s H vs Q E hr h => ⟨_, der_File_picture T M_File_pages M_Store_read hr, pure_File_picture kc vs H Q E h⟩
theorem sc_law_taken : FnScope ["_law_row", "_law_many", "_law_found", "_law_cell"] ["_law_row", "_law_many"] (defScope s_law_taken) := ⟨rfl, rfl, rfl, by decide +kernel, rfl, by decide +kernel, by decide +kernel⟩
theorem der_law_taken {P : Program} {w : World} {K : PySem.W.Frag} {mg : Str → Option Value} {base : Heap} {a : Ad} (T : Tx P w K mg base a) 
    {f : Addr} {cdv : Value} {A : Around} {outer : List Env} {s : Shared} {H : Hp} {E : XK} (hr : Room 0 (A.deeper (envOfC "_law_taken" (defScope s_law_taken) s.heap.objs.size f cdv))) :
    PSs (cxOf (L2.CX P w) P w K mg base ["_law_row", "_law_many", "_law_found", "_law_cell"] "_law_taken" (defScope s_law_taken) f cdv A outer s H E) (defBody s_law_taken) (t_law_taken P w K a E) := by
  have nd := sc_law_taken.nd
  have tk : Takes (cxOf (L2.CX P w) P w K mg base ["_law_row", "_law_many", "_law_found", "_law_cell"] "_law_taken" (defScope s_law_taken) f cdv A outer s H E) (fun cls d _ H => E cls d H) := takes_of rfl rfl rfl rfl
  have px : Passes (L2.CX P w) (cxOf (L2.CX P w) P w K mg base ["_law_row", "_law_many", "_law_found", "_law_cell"] "_law_taken" (defScope s_law_taken) f cdv A outer s H E) E := px_of tk fun _ _ _ _ z => z
  have po : PassesOwn (model P w) (A.deeper (envOfC "_law_taken" (defScope s_law_taken) s.heap.objs.size f cdv)) (envOfC "_law_taken" (defScope s_law_taken) s.heap.objs.size f cdv) (cxOf (L2.CX P w) P w K mg base ["_law_row", "_law_many", "_law_found", "_law_cell"] "_law_taken" (defScope s_law_taken) f cdv A outer s H E).xe := passes_of (X := cxOf (L2.CX P w) P w K mg base ["_law_row", "_law_many", "_law_found", "_law_cell"] "_law_taken" (defScope s_law_taken) f cdv A outer s H E) rfl
  have hu := hu_of hr
  have hu64 := hr.units
  have hu65 := hu65 hr
  exact (pss_cons (ps_if (pt_cmpR op_gt (pe_ix (ix_u hu) (pv 0) pe_int (fun _ _ => rfl)) pe_int (nomark _)) (pss_cons (ps_set (i := 2) nd rfl (by first | exact Or.inl rfl | exact Or.inr rfl) (pe_op op_mod (pe_ix (ix_u hu) (pv 0) pe_int (fun _ _ => rfl)) (pv 1))) (pss_cons (ps_asg (pe_op op_fdiv (pe_ix (ix_u hu) (pv 0) pe_int (fun _ _ => rfl)) (pv 1)) (pg_sub (pv 0) pe_int (set_u hu))) (pss_one (ps_ret (pv 2))))) pss_nil) (pss_cons (ps_asg (pe_op op_addU (pe_ix (ix_u hu) (pv 0) pe_int (fun _ _ => rfl)) pe_int) (pg_sub (pv 0) pe_int (set_u hu))) (pss_cons (ps_if (pt_cmpR op_gt (pe_ix (ix_u hu) (pv 0) pe_int (fun _ _ => rfl)) (pe_callB call_lenU (by rfl) T.nb.len (by decide +kernel) (pa_cons (pe_ix (ix_u hu) (pv 0) pe_int (fun _ _ => rfl)) pa_nil)) (nomark _)) (pss_cons (ps_asg (pe_op op_mod (pe_op op_addU (pe_op op_mulU (pe_ix (ix_u hu) (pv 0) pe_int (fun _ _ => rfl)) pe_int) pe_int) pe_int) (pg_sub (pv 0) pe_int (set_u hu))) (pss_one (ps_ret (pe_op op_mod (pe_op op_fdiv (pe_ix (ix_u hu) (pv 0) pe_int (fun _ _ => rfl)) pe_int) (pv 1))))) pss_nil) (pss_cons (ps_set (i := 3) nd rfl (by first | exact Or.inl rfl | exact Or.inr rfl) (pe_ix (ix_u hu) (pe_ix (ix_u hu) (pv 0) pe_int (fun _ _ => rfl)) (pe_op op_sub (pe_ix (ix_u hu) (pv 0) pe_int (fun _ _ => rfl)) pe_int) (fun _ _ => rfl))) (pss_cons (ps_asg (pe_op op_mod (pe_op op_addU (pe_op op_addU (pe_op op_mulU (pe_ix (ix_u hu) (pv 0) pe_int (fun _ _ => rfl)) pe_int) (pv 3)) pe_int) pe_int) (pg_sub (pv 0) pe_int (set_u hu))) (pss_cons (ps_if (pt_cmpR op_ge (pv 3) (pe_op op_pow pe_int pe_int) (nomark _)) (pss_one (ps_asg (pe_op op_fdiv (pv 3) (pv 1)) (pg_sub (pv 0) pe_int (set_u hu)))) pss_nil) (pss_one (ps_ret (pe_op op_mod (pv 3) (pv 1))))))))))
theorem ok_law_taken {P : Program} {w : World} {K : PySem.W.Frag} {mg : Str → Option Value} {base : Heap} {a : Ad} (T : Tx P w K mg base a) (kc : Kc K a)  {f : Addr} {fd : FuncData} (F : FunD K "_law_taken" "_law_taken" (defArgs s_law_taken) (defBody s_law_taken) (defScope s_law_taken) [] [] f fd) : FnOk P w K mg base (L2.CX P w) 1 f fd ["_law_row", "_law_many"] (sp_law_taken P w K a) :=
  F.ok sc_law_taken len_law_taken fun cdv A outer s H vs Q E hr h => ⟨_, der_law_taken T  hr, pure_law_taken vs H Q E h⟩
theorem sc_law_alike : FnScope ["_law_found", "_law_due", "_law_k"] ["_law_found", "_law_due"] (defScope s_law_alike) := ⟨rfl, rfl, rfl, by decide +kernel, rfl, by decide +kernel, by decide +kernel⟩
theorem der_law_alike {P : Program} {w : World} {K : PySem.W.Frag} {mg : Str → Option Value} {base : Heap} {a : Ad} (T : Tx P w K mg base a) {n k : Nat} (G_law_alike : Gf P w K mg base k "_law_alike" ["_law_found", "_law_due"] (sp_alikeN n)) 
    {f : Addr} {cdv : Value} {A : Around} {outer : List Env} {s : Shared} {H : Hp} {E : XK} (hr : Room k (A.deeper (envOfC "_law_alike" (defScope s_law_alike) s.heap.objs.size f cdv))) :
    PSs (cxOf (L2.CX P w) P w K mg base ["_law_found", "_law_due", "_law_k"] "_law_alike" (defScope s_law_alike) f cdv A outer s H E) (defBody s_law_alike) (t_law_alike P w K a (sp_alikeN n) E) := by
  have nd := sc_law_alike.nd
  have tk : Takes (cxOf (L2.CX P w) P w K mg base ["_law_found", "_law_due", "_law_k"] "_law_alike" (defScope s_law_alike) f cdv A outer s H E) (fun cls d _ H => E cls d H) := takes_of rfl rfl rfl rfl
  have px : Passes (L2.CX P w) (cxOf (L2.CX P w) P w K mg base ["_law_found", "_law_due", "_law_k"] "_law_alike" (defScope s_law_alike) f cdv A outer s H E) E := px_of tk fun _ _ _ _ z => z
  have po : PassesOwn (model P w) (A.deeper (envOfC "_law_alike" (defScope s_law_alike) s.heap.objs.size f cdv)) (envOfC "_law_alike" (defScope s_law_alike) s.heap.objs.size f cdv) (cxOf (L2.CX P w) P w K mg base ["_law_found", "_law_due", "_law_k"] "_law_alike" (defScope s_law_alike) f cdv A outer s H E).xe := passes_of (X := cxOf (L2.CX P w) P w K mg base ["_law_found", "_law_due", "_law_k"] "_law_alike" (defScope s_law_alike) f cdv A outer s H E) rfl
  have hu := hu_of hr
  have hu64 := hr.units
  have hu65 := hu65 hr
  exact (pss_cons (ps_if (PW.pt (pw_or (pt_val (pe_callB call_isU (by rfl) T.nb.isinstance (by decide +kernel) (pa_cons (pv 1) (pa_cons (pe_bltn (v := .ty "tuple") (by rfl) T.nb.tuple (by decide +kernel) rfl) pa_nil)))) (pw_or1 (pt_val (pe_callB call_isU (by rfl) T.nb.isinstance (by decide +kernel) (pa_cons (pv 1) (pa_cons (pe_bltn (v := .ty "list") (by rfl) T.nb.list (by decide +kernel) rfl) pa_nil))))))) (pss_cons (ps_if (PW.pt (pw_or (pt_cmpR (op_neD hu64) (pe_callB call_isU (by rfl) T.nb.isinstance (by decide +kernel) (pa_cons (pv 0) (pa_cons (pe_bltn (v := .ty "tuple") (by rfl) T.nb.tuple (by decide +kernel) rfl) pa_nil))) (pe_callB call_isU (by rfl) T.nb.isinstance (by decide +kernel) (pa_cons (pv 1) (pa_cons (pe_bltn (v := .ty "tuple") (by rfl) T.nb.tuple (by decide +kernel) rfl) pa_nil))) (nomark _)) (pw_or1 (pt_not (pt_val (pe_callB call_isU (by rfl) T.nb.isinstance (by decide +kernel) (pa_cons (pv 0) (pa_cons (pe_tup (pa_cons (pe_bltn (v := .ty "tuple") (by rfl) T.nb.tuple (by decide +kernel) rfl) (pa_cons (pe_bltn (v := .ty "list") (by rfl) T.nb.list (by decide +kernel) rfl) pa_nil))) pa_nil)))))))) (pss_one (ps_ret pe_bl)) pss_nil) (pss_cons (ps_if (pt_cmpR (op_neD hu64) (pe_callB call_lenU (by rfl) T.nb.len (by decide +kernel) (pa_cons (pv 0) pa_nil)) (pe_callB call_lenU (by rfl) T.nb.len (by decide +kernel) (pa_cons (pv 1) pa_nil)) (nomark _)) (pss_one (ps_ret pe_bl)) pss_nil) (pss_one (ps_ret (pe_cmpR (op_eqD hu64) (pe_lc (own := [("_law_k", 2)]) rfl nd (pi_range1 (by rfl) T.nb.range (pa_cons (pe_callB call_lenU (by rfl) T.nb.len (by decide +kernel) (pa_cons (pv 1) pa_nil)) pa_nil)) (by first | exact blkOk_by (by decide +kernel) | exact blkOk_by (by rfl)) (fun _ _ _ _ _ => (pg_name (i := 2) nd rfl (by first | exact Or.inl rfl | exact Or.inr rfl))) (fun _ _ _ _ _ => (pts_one (pt_not (pt_val (pe_gf G_law_alike hr passL (pa_cons (pe_ix (ix_u hu) (pv 0) (pv 2) (fun _ _ => rfl)) (pa_cons (pe_ix (ix_u hu) (pv 1) (pv 2) (fun _ _ => rfl)) pa_nil))))))) (fun _ _ _ _ _ => (pv 2))) (pe_lst pa_nil) (nomark _)))))) pss_nil) (pss_cons (ps_if (PW.pt (pw_or (pt_cmpR op_isN (pv 1) pe_non (nomark _)) (pw_or1 (pt_cmpR op_isN (pv 0) pe_non (nomark _))))) (pss_one (ps_ret (pe_and (pe_cmpR op_isN (pv 1) pe_non (nomark _)) (pe_one (pe_cmpR op_isN (pv 0) pe_non (nomark _)))))) pss_nil) (pss_cons (ps_if (PW.pt (pw_or (pt_val (pe_callB call_isU (by rfl) T.nb.isinstance (by decide +kernel) (pa_cons (pv 1) (pa_cons (pe_bltn (v := .ty "bool") (by rfl) T.nb.bool (by decide +kernel) rfl) pa_nil)))) (pw_or1 (pt_val (pe_callB call_isU (by rfl) T.nb.isinstance (by decide +kernel) (pa_cons (pv 0) (pa_cons (pe_bltn (v := .ty "bool") (by rfl) T.nb.bool (by decide +kernel) rfl) pa_nil))))))) (pss_one (ps_ret (pe_and (pe_callB call_isU (by rfl) T.nb.isinstance (by decide +kernel) (pa_cons (pv 1) (pa_cons (pe_bltn (v := .ty "bool") (by rfl) T.nb.bool (by decide +kernel) rfl) pa_nil))) (pe_and (pe_callB call_isU (by rfl) T.nb.isinstance (by decide +kernel) (pa_cons (pv 0) (pa_cons (pe_bltn (v := .ty "bool") (by rfl) T.nb.bool (by decide +kernel) rfl) pa_nil))) (pe_one (pe_cmpR (op_eqD hu64) (pv 0) (pv 1) (nomark _))))))) pss_nil) (pss_cons (ps_if (pt_val (pe_callB call_isU (by rfl) T.nb.isinstance (by decide +kernel) (pa_cons (pv 1) (pa_cons (pe_bltn (v := .ty "str") (by rfl) T.nb.str (by decide +kernel) rfl) pa_nil)))) (pss_one (ps_ret (pe_and (pe_callB call_isU (by rfl) T.nb.isinstance (by decide +kernel) (pa_cons (pv 0) (pa_cons (pe_bltn (v := .ty "str") (by rfl) T.nb.str (by decide +kernel) rfl) pa_nil))) (pe_one (pe_cmpR (op_eqD hu64) (pv 0) (pv 1) (nomark _)))))) pss_nil) (pss_one (ps_ret (pe_and (pe_callB call_isU (by rfl) T.nb.isinstance (by decide +kernel) (pa_cons (pv 0) (pa_cons (pe_bltn (v := .ty "int") (by rfl) T.nb.int (by decide +kernel) rfl) pa_nil))) (pe_one (pe_cmpR (op_eqD hu64) (pv 0) (pv 1) (nomark _))))))))))
theorem ok_law_alike {P : Program} {w : World} {K : PySem.W.Frag} {mg : Str → Option Value} {base : Heap} {a : Ad} (T : Tx P w K mg base a) {f : Addr} {fd : FuncData} (hg : mg "_law_alike" = some (.ref f)) (hb : Binds K fd ["_law_found", "_law_due"] []) (F : FunD K "_law_alike" "_law_alike" (defArgs s_law_alike) (defBody s_law_alike) (defScope s_law_alike) [] [] f fd) : ∀ n, FnOk P w K mg base (L2.CX P w) (n + 1) f fd ["_law_found", "_law_due"] (sp_alikeN n)
  | 0 => F.ok sc_law_alike len_alikeN fun cdv A outer s H vs Q E hr h => by
    obtain ⟨M, ds, _, _, t⟩ := h
    rcases ds with _ | ⟨x, _ | ⟨y, _ | ⟨_, _⟩⟩⟩ <;> simp [f_alike, plainD, RsTo] at t
  | n + 1 => F.ok sc_law_alike len_alikeN fun cdv A outer s H vs Q E hr h => ⟨_, der_law_alike T ⟨_, _, hg, F.kp, hb, ok_law_alike T hg hb F n⟩ hr, pure_law_alike vs H Q E h⟩
theorem sc_law_shape : FnScope ["_law_row", "_law_room"] ["_law_row"] (defScope s_law_shape) := ⟨rfl, rfl, rfl, by decide +kernel, rfl, by decide +kernel, by decide +kernel⟩
theorem der_law_shape {P : Program} {w : World} {K : PySem.W.Frag} {mg : Str → Option Value} {base : Heap} {a : Ad} (T : Tx P w K mg base a) (G_law_taken : Gf P w K mg base 1 "_law_taken" ["_law_row", "_law_many"] (sp_law_taken P w K a))
    {f : Addr} {cdv : Value} {A : Around} {outer : List Env} {s : Shared} {H : Hp} {E : XK} (hr : Room 1 (A.deeper (envOfC "_law_shape" (defScope s_law_shape) s.heap.objs.size f cdv))) :
    PSs (cxOf (L2.CX P w) P w K mg base ["_law_row", "_law_room"] "_law_shape" (defScope s_law_shape) f cdv A outer s H E) (defBody s_law_shape) (t_law_shape P w K a E) := by
  have nd := sc_law_shape.nd
  have tk : Takes (cxOf (L2.CX P w) P w K mg base ["_law_row", "_law_room"] "_law_shape" (defScope s_law_shape) f cdv A outer s H E) (fun cls d _ H => E cls d H) := takes_of rfl rfl rfl rfl
  have px : Passes (L2.CX P w) (cxOf (L2.CX P w) P w K mg base ["_law_row", "_law_room"] "_law_shape" (defScope s_law_shape) f cdv A outer s H E) E := px_of tk fun _ _ _ _ z => z
  have po : PassesOwn (model P w) (A.deeper (envOfC "_law_shape" (defScope s_law_shape) s.heap.objs.size f cdv)) (envOfC "_law_shape" (defScope s_law_shape) s.heap.objs.size f cdv) (cxOf (L2.CX P w) P w K mg base ["_law_row", "_law_room"] "_law_shape" (defScope s_law_shape) f cdv A outer s H E).xe := passes_of (X := cxOf (L2.CX P w) P w K mg base ["_law_row", "_law_room"] "_law_shape" (defScope s_law_shape) f cdv A outer s H E) rfl
  have hu := hu_of hr
  have hu64 := hr.units
  have hu65 := hu65 hr
  exact (pss_cons (ps_set (i := 1) nd rfl (by first | exact Or.inl rfl | exact Or.inr rfl) (pe_op op_addU pe_int (pe_gf G_law_taken (hr.mono (by decide)) px (pa_cons (pv 0) (pa_cons pe_int pa_nil))))) (pss_one (ps_ret (pe_tup (pa_cons (pv 1) (pa_cons (pe_op op_addU pe_int (pe_gf G_law_taken (hr.mono (by decide)) px (pa_cons (pv 0) (pa_cons (pv 1) pa_nil)))) (pa_cons (pe_ix (ix_u hu) (pe_lst (pa_cons (pe_gf G_law_taken (hr.mono (by decide)) px (pa_cons (pv 0) (pa_cons pe_int pa_nil))) (pa_cons pe_int (pa_cons (pe_gf G_law_taken (hr.mono (by decide)) px (pa_cons (pv 0) (pa_cons pe_int pa_nil))) pa_nil)))) (pe_gf G_law_taken (hr.mono (by decide)) px (pa_cons (pv 0) (pa_cons pe_int pa_nil))) (fun _ _ => rfl)) pa_nil)))))))
theorem ok_law_shape {P : Program} {w : World} {K : PySem.W.Frag} {mg : Str → Option Value} {base : Heap} {a : Ad} (T : Tx P w K mg base a) (kc : Kc K a) (G_law_taken : Gf P w K mg base 1 "_law_taken" ["_law_row", "_law_many"] (sp_law_taken P w K a)) {f : Addr} {fd : FuncData} (F : FunD K "_law_shape" "_law_shape" (defArgs s_law_shape) (defBody s_law_shape) (defScope s_law_shape) [] [] f fd) : FnOk P w K mg base (L2.CX P w) 2 f fd ["_law_row"] (sp_law_shape P w K a) :=
  F.ok sc_law_shape len_law_shape fun cdv A outer s H vs Q E hr h => ⟨_, der_law_shape T G_law_taken hr, pure_law_shape vs H Q E h⟩
theorem sc_law_rows : FnScope ["_law_row", "_law_most", "_law_found", "_law_key", "_law_step", "_law_k"] ["_law_row", "_law_most"] (defScope s_law_rows) := ⟨rfl, rfl, rfl, by decide +kernel, rfl, by decide +kernel, by decide +kernel⟩
theorem der_law_rows {P : Program} {w : World} {K : PySem.W.Frag} {mg : Str → Option Value} {base : Heap} {a : Ad} (T : Tx P w K mg base a) (G_law_taken : Gf P w K mg base 1 "_law_taken" ["_law_row", "_law_many"] (sp_law_taken P w K a))
    {f : Addr} {cdv : Value} {A : Around} {outer : List Env} {s : Shared} {H : Hp} {E : XK} (hr : Room 1 (A.deeper (envOfC "_law_rows" (defScope s_law_rows) s.heap.objs.size f cdv))) :
    PSs (cxOf (L2.CX P w) P w K mg base ["_law_row", "_law_most", "_law_found", "_law_key", "_law_step", "_law_k"] "_law_rows" (defScope s_law_rows) f cdv A outer s H E) (defBody s_law_rows) (t_law_rows P w K a E) := by
  have nd := sc_law_rows.nd
  have tk : Takes (cxOf (L2.CX P w) P w K mg base ["_law_row", "_law_most", "_law_found", "_law_key", "_law_step", "_law_k"] "_law_rows" (defScope s_law_rows) f cdv A outer s H E) (fun cls d _ H => E cls d H) := takes_of rfl rfl rfl rfl
  have px : Passes (L2.CX P w) (cxOf (L2.CX P w) P w K mg base ["_law_row", "_law_most", "_law_found", "_law_key", "_law_step", "_law_k"] "_law_rows" (defScope s_law_rows) f cdv A outer s H E) E := px_of tk fun _ _ _ _ z => z
  have po : PassesOwn (model P w) (A.deeper (envOfC "_law_rows" (defScope s_law_rows) s.heap.objs.size f cdv)) (envOfC "_law_rows" (defScope s_law_rows) s.heap.objs.size f cdv) (cxOf (L2.CX P w) P w K mg base ["_law_row", "_law_most", "_law_found", "_law_key", "_law_step", "_law_k"] "_law_rows" (defScope s_law_rows) f cdv A outer s H E).xe := passes_of (X := cxOf (L2.CX P w) P w K mg base ["_law_row", "_law_most", "_law_found", "_law_key", "_law_step", "_law_k"] "_law_rows" (defScope s_law_rows) f cdv A outer s H E) rfl
  have hu := hu_of hr
  have hu64 := hr.units
  have hu65 := hu65 hr
  exact (pss_cons (ps_par3 rfl nd rfl rfl rfl (by decide) (by decide) (by decide) rfl rfl rfl (pa_cons (pe_lst pa_nil) (pa_cons (pe_op op_sub pe_int pe_int) (pa_cons (pe_ix (ix_u hu) (pe_lst (pa_cons pe_int (pa_cons pe_int (pa_cons pe_int pa_nil)))) (pe_gf G_law_taken (hr.mono (by decide)) px (pa_cons (pv 0) (pa_cons pe_int pa_nil))) (fun _ _ => rfl)) pa_nil))) (by rfl)) (pss_cons (ps_for po rfl (pi_range1 (by rfl) T.nb.range (pa_cons (pe_gf G_law_taken (hr.mono (by decide)) px (pa_cons (pv 0) (pa_cons (pe_op op_addU (pv 1) pe_int) pa_nil))) pa_nil)) (pg_name (i := 5) nd rfl (by first | exact Or.inl rfl | exact Or.inr rfl)) (pss_cons (ps_set (i := 3) nd rfl (by first | exact Or.inl rfl | exact Or.inr rfl) (pe_op op_addU (pe_op op_addU (pv 3) pe_int) (pe_gf G_law_taken (hr.mono (by decide)) px (pa_cons (pv 0) (pa_cons (pv 4) pa_nil))))) (pss_one (ps_expr (pe_bm PySem.F.plainAttrs_list PySem.F.slot_list_append PySem.F.type_list_append mt_append (pv 2) (pa_cons (pe_tup (pa_cons (pv 3) (pa_cons (pe_gf G_law_taken (hr.mono (by decide)) px (pa_cons (pv 0) (pa_cons pe_int pa_nil))) pa_nil))) pa_nil)))))) (pss_one (ps_ret (pv 2)))))
theorem ok_law_rows {P : Program} {w : World} {K : PySem.W.Frag} {mg : Str → Option Value} {base : Heap} {a : Ad} (T : Tx P w K mg base a) (kc : Kc K a) (G_law_taken : Gf P w K mg base 1 "_law_taken" ["_law_row", "_law_many"] (sp_law_taken P w K a)) {f : Addr} {fd : FuncData} (F : FunD K "_law_rows" "_law_rows" (defArgs s_law_rows) (defBody s_law_rows) (defScope s_law_rows) [] [] f fd) : FnOk P w K mg base (L2.CX P w) 2 f fd ["_law_row", "_law_most"] (sp_law_rows P w K a) :=
  F.ok sc_law_rows len_law_rows fun cdv A outer s H vs Q E hr h => ⟨_, der_law_rows T G_law_taken hr, pure_law_rows vs H Q E h⟩
theorem sc_law_laid : FnScope ["_law_rows_here", "_law_fill", "_law_parts", "_law_k", "_law_part"] ["_law_rows_here", "_law_fill"] (defScope s_law_laid) := ⟨rfl, rfl, rfl, by decide +kernel, rfl, by decide +kernel, by decide +kernel⟩
theorem der_law_laid {P : Program} {w : World} {K : PySem.W.Frag} {mg : Str → Option Value} {base : Heap} {a : Ad} (T : Tx P w K mg base a) 
    {f : Addr} {cdv : Value} {A : Around} {outer : List Env} {s : Shared} {H : Hp} {E : XK} (hr : Room 0 (A.deeper (envOfC "_law_laid" (defScope s_law_laid) s.heap.objs.size f cdv))) :
    PSs (cxOf (L2.CX P w) P w K mg base ["_law_rows_here", "_law_fill", "_law_parts", "_law_k", "_law_part"] "_law_laid" (defScope s_law_laid) f cdv A outer s H E) (defBody s_law_laid) (t_law_laid P w K a E) := by
  have nd := sc_law_laid.nd
  have tk : Takes (cxOf (L2.CX P w) P w K mg base ["_law_rows_here", "_law_fill", "_law_parts", "_law_k", "_law_part"] "_law_laid" (defScope s_law_laid) f cdv A outer s H E) (fun cls d _ H => E cls d H) := takes_of rfl rfl rfl rfl
  have px : Passes (L2.CX P w) (cxOf (L2.CX P w) P w K mg base ["_law_rows_here", "_law_fill", "_law_parts", "_law_k", "_law_part"] "_law_laid" (defScope s_law_laid) f cdv A outer s H E) E := px_of tk fun _ _ _ _ z => z
  have po : PassesOwn (model P w) (A.deeper (envOfC "_law_laid" (defScope s_law_laid) s.heap.objs.size f cdv)) (envOfC "_law_laid" (defScope s_law_laid) s.heap.objs.size f cdv) (cxOf (L2.CX P w) P w K mg base ["_law_rows_here", "_law_fill", "_law_parts", "_law_k", "_law_part"] "_law_laid" (defScope s_law_laid) f cdv A outer s H E).xe := passes_of (X := cxOf (L2.CX P w) P w K mg base ["_law_rows_here", "_law_fill", "_law_parts", "_law_k", "_law_part"] "_law_laid" (defScope s_law_laid) f cdv A outer s H E) rfl
  have hu := hu_of hr
  have hu64 := hr.units
  have hu65 := hu65 hr
  exact (pss_cons (ps_setLc (i := 2) (own := [("_law_k", 3)]) rfl nd rfl rfl (sw_true rfl rfl rfl (by decide +kernel)) (pi_range3 (by rfl) T.nb.range (pa_cons pe_int (pa_cons (pe_callB call_lenU (by rfl) T.nb.len (by decide +kernel) (pa_cons (pv 0) pa_nil)) (pa_cons (pv 1) pa_nil)))) (by first | exact blkOk_by (by decide +kernel) | exact blkOk_by (by rfl)) (fun _ _ _ _ _ => (pg_name (i := 3) nd rfl (by first | exact Or.inl rfl | exact Or.inr rfl))) (fun _ _ _ _ _ => pts_nil) (fun _ _ _ _ _ => (pe_callTy call_tupU (by rfl) T.nb.tuple (by decide +kernel) (pa_cons (pe_slice sl_u (pv 0) (po_some (pv 3)) (po_some (pe_op op_addU (pv 3) (pv 1)))) pa_nil)))) (pss_cons (ps_set (i := 2) nd rfl (by first | exact Or.inl rfl | exact Or.inr rfl) (pe_ifExp (pt_cmpR (op_neD hu64) (pv 2) (pe_lst pa_nil) (nomark _)) (pv 2) (pe_lst (pa_cons (pe_tup pa_nil) pa_nil)))) (pss_one (ps_ret (pe_tup (pa_cons (pe_lc (own := [("_law_part", 4)]) rfl nd (pi_seqU (pe_slice sl_u (pv 2) po_none (po_some (pe_un un_neg pe_int)))) (by first | exact blkOk_by (by decide +kernel) | exact blkOk_by (by rfl)) (fun _ _ _ _ _ => (pg_name (i := 4) nd rfl (by first | exact Or.inl rfl | exact Or.inr rfl))) (fun _ _ _ _ _ => pts_nil) (fun _ _ _ _ _ => (pe_ix (ix_u hu) (pe_ix (ix_u hu) (pv 4) (pe_un un_neg pe_int) (fun _ _ => rfl)) pe_int (fun _ _ => rfl)))) (pa_cons (pe_lc (own := [("_law_part", 4)]) rfl nd (pi_seqU (pv 2)) (by first | exact blkOk_by (by decide +kernel) | exact blkOk_by (by rfl)) (fun _ _ _ _ _ => (pg_name (i := 4) nd rfl (by first | exact Or.inl rfl | exact Or.inr rfl))) (fun _ _ _ _ _ => pts_nil) (fun _ _ _ _ _ => (pe_tup (pa_cons (pv 4) (pa_cons pe_non pa_nil))))) pa_nil)))))))
theorem ok_law_laid {P : Program} {w : World} {K : PySem.W.Frag} {mg : Str → Option Value} {base : Heap} {a : Ad} (T : Tx P w K mg base a) (kc : Kc K a)  {f : Addr} {fd : FuncData} (F : FunD K "_law_laid" "_law_laid" (defArgs s_law_laid) (defBody s_law_laid) (defScope s_law_laid) [] [] f fd) : FnOk P w K mg base (L2.CX P w) 1 f fd ["_law_rows_here", "_law_fill"] (sp_law_laid P w K a) :=
  F.ok sc_law_laid len_law_laid fun cdv A outer s H vs Q E hr h => ⟨_, der_law_laid T  hr, pure_law_laid vs H Q E h⟩
theorem sc_law_made : FnScope ["_law_shape_here", "_law_rows_here", "_law_fences", "_law_pages", "_law_m"] ["_law_shape_here", "_law_rows_here"] (defScope s_law_made) := ⟨rfl, rfl, rfl, by decide +kernel, rfl, by decide +kernel, by decide +kernel⟩
theorem der_law_made {P : Program} {w : World} {K : PySem.W.Frag} {mg : Str → Option Value} {base : Heap} {a : Ad} (T : Tx P w K mg base a) (G_law_laid : Gf P w K mg base 1 "_law_laid" ["_law_rows_here", "_law_fill"] (sp_law_laid P w K a))
    {f : Addr} {cdv : Value} {A : Around} {outer : List Env} {s : Shared} {H : Hp} {E : XK} (hr : Room 1 (A.deeper (envOfC "_law_made" (defScope s_law_made) s.heap.objs.size f cdv))) :
    PSs (cxOf (L2.CX P w) P w K mg base ["_law_shape_here", "_law_rows_here", "_law_fences", "_law_pages", "_law_m"] "_law_made" (defScope s_law_made) f cdv A outer s H E) (defBody s_law_made) (t_law_made P w K a E) := by
  have nd := sc_law_made.nd
  have tk : Takes (cxOf (L2.CX P w) P w K mg base ["_law_shape_here", "_law_rows_here", "_law_fences", "_law_pages", "_law_m"] "_law_made" (defScope s_law_made) f cdv A outer s H E) (fun cls d _ H => E cls d H) := takes_of rfl rfl rfl rfl
  have px : Passes (L2.CX P w) (cxOf (L2.CX P w) P w K mg base ["_law_shape_here", "_law_rows_here", "_law_fences", "_law_pages", "_law_m"] "_law_made" (defScope s_law_made) f cdv A outer s H E) E := px_of tk fun _ _ _ _ z => z
  have po : PassesOwn (model P w) (A.deeper (envOfC "_law_made" (defScope s_law_made) s.heap.objs.size f cdv)) (envOfC "_law_made" (defScope s_law_made) s.heap.objs.size f cdv) (cxOf (L2.CX P w) P w K mg base ["_law_shape_here", "_law_rows_here", "_law_fences", "_law_pages", "_law_m"] "_law_made" (defScope s_law_made) f cdv A outer s H E).xe := passes_of (X := cxOf (L2.CX P w) P w K mg base ["_law_shape_here", "_law_rows_here", "_law_fences", "_law_pages", "_law_m"] "_law_made" (defScope s_law_made) f cdv A outer s H E) rfl
  have hu := hu_of hr
  have hu64 := hr.units
  have hu65 := hu65 hr
  exact (pss_cons (ps_asg (pe_gf G_law_laid (hr.mono (by decide)) px (pa_cons (pv 1) (pa_cons (pe_ix (ix_u hu) (pv 0) pe_int (fun _ _ => rfl)) pa_nil))) (pg_tup rfl (pgs_cons (pg_name (i := 2) nd rfl (by first | exact Or.inl rfl | exact Or.inr rfl)) (pgs_cons (pg_name (i := 3) nd rfl (by first | exact Or.inl rfl | exact Or.inr rfl)) pgs_nil)))) (pss_cons (ps_set (i := 4) nd rfl (by first | exact Or.inl rfl | exact Or.inr rfl) (pe_disp (pps_cons pe_str (pe_ix (ix_u hu) (pv 0) pe_int (fun _ _ => rfl)) (pps_cons pe_str (pv 2) (pps_cons pe_str (pv 3) (pps_cons pe_str (pe_op op_mulU (pe_lst (pa_cons pe_non pa_nil)) (pe_ix (ix_u hu) (pv 0) pe_int (fun _ _ => rfl))) pps_nil)))) (by rfl) (by rfl) (fun z => by cases z) (by decide))) (pss_cons (ps_expr (pe_dupd (pv 4) (pe_disp (pps_cons pe_str pe_int (pps_cons pe_str pe_non (pps_cons pe_str pe_bl (pps_cons pe_str (pe_lst pa_nil) pps_nil)))) (by rfl) (by rfl) (fun z => by cases z) (by decide)) (by exact ⟨rfl, rfl, rfl, rfl⟩))) (pss_one (ps_ret (pv 4))))))
theorem ok_law_made {P : Program} {w : World} {K : PySem.W.Frag} {mg : Str → Option Value} {base : Heap} {a : Ad} (T : Tx P w K mg base a) (kc : Kc K a) (G_law_laid : Gf P w K mg base 1 "_law_laid" ["_law_rows_here", "_law_fill"] (sp_law_laid P w K a)) {f : Addr} {fd : FuncData} (F : FunD K "_law_made" "_law_made" (defArgs s_law_made) (defBody s_law_made) (defScope s_law_made) [] [] f fd) : FnOk P w K mg base (L2.CX P w) 2 f fd ["_law_shape_here", "_law_rows_here"] (sp_law_made P w K a) :=
  F.ok sc_law_made len_law_made fun cdv A outer s H vs Q E hr h => ⟨_, der_law_made T G_law_laid hr, pure_law_made vs H Q E h⟩
theorem sc_law_picture : FnScope ["_law_m"] ["_law_m"] (defScope s_law_picture) := ⟨rfl, rfl, rfl, by decide +kernel, rfl, by decide +kernel, by decide +kernel⟩
theorem der_law_picture {P : Program} {w : World} {K : PySem.W.Frag} {mg : Str → Option Value} {base : Heap} {a : Ad} (T : Tx P w K mg base a) 
    {f : Addr} {cdv : Value} {A : Around} {outer : List Env} {s : Shared} {H : Hp} {E : XK} (hr : Room 0 (A.deeper (envOfC "_law_picture" (defScope s_law_picture) s.heap.objs.size f cdv))) :
    PSs (cxOf (L2.CX P w) P w K mg base ["_law_m"] "_law_picture" (defScope s_law_picture) f cdv A outer s H E) (defBody s_law_picture) (t_law_picture P w K a E) := by
  have nd := sc_law_picture.nd
  have tk : Takes (cxOf (L2.CX P w) P w K mg base ["_law_m"] "_law_picture" (defScope s_law_picture) f cdv A outer s H E) (fun cls d _ H => E cls d H) := takes_of rfl rfl rfl rfl
  have px : Passes (L2.CX P w) (cxOf (L2.CX P w) P w K mg base ["_law_m"] "_law_picture" (defScope s_law_picture) f cdv A outer s H E) E := px_of tk fun _ _ _ _ z => z
  have po : PassesOwn (model P w) (A.deeper (envOfC "_law_picture" (defScope s_law_picture) s.heap.objs.size f cdv)) (envOfC "_law_picture" (defScope s_law_picture) s.heap.objs.size f cdv) (cxOf (L2.CX P w) P w K mg base ["_law_m"] "_law_picture" (defScope s_law_picture) f cdv A outer s H E).xe := passes_of (X := cxOf (L2.CX P w) P w K mg base ["_law_m"] "_law_picture" (defScope s_law_picture) f cdv A outer s H E) rfl
  have hu := hu_of hr
  have hu64 := hr.units
  have hu65 := hu65 hr
  exact (pss_one (ps_ret (pe_tup (pa_cons (pe_callTy call_tupU (by rfl) T.nb.tuple (by decide +kernel) (pa_cons (pe_ix (ix_u hu) (pv 0) pe_str (fun _ _ => rfl)) pa_nil)) (pa_cons (pe_callTy call_tupU (by rfl) T.nb.tuple (by decide +kernel) (pa_cons (pe_ix (ix_u hu) (pv 0) pe_str (fun _ _ => rfl)) pa_nil)) (pa_cons (pe_callTy call_tupU (by rfl) T.nb.tuple (by decide +kernel) (pa_cons (pe_ix (ix_u hu) (pv 0) pe_str (fun _ _ => rfl)) pa_nil)) pa_nil))))))
theorem ok_law_picture {P : Program} {w : World} {K : PySem.W.Frag} {mg : Str → Option Value} {base : Heap} {a : Ad} (T : Tx P w K mg base a) (kc : Kc K a)  {f : Addr} {fd : FuncData} (F : FunD K "_law_picture" "_law_picture" (defArgs s_law_picture) (defBody s_law_picture) (defScope s_law_picture) [] [] f fd) : FnOk P w K mg base (L2.CX P w) 1 f fd ["_law_m"] (sp_law_picture P w K a) :=
  F.ok sc_law_picture len_law_picture fun cdv A outer s H vs Q E hr h => ⟨_, der_law_picture T  hr, pure_law_picture vs H Q E h⟩
theorem sc_law : FnScope ["_law_script", "_law_row", "_law_turn", "_law_shape_here", "_law_some", "_law_m", "_law_handed", "_law_file", "_law_again", "_law_found", "_law_keys", "_law_key", "_law_k", "_law_one"] ["_law_script"] (defScope s_law) := ⟨rfl, rfl, rfl, by decide +kernel, rfl, by decide +kernel, by decide +kernel⟩
theorem der_law {P : Program} {w : World} {K : PySem.W.Frag} {mg : Str → Option Value} {base : Heap} {a : Ad} (T : Tx P w K mg base a) (K_File : Kf P w K mg base 4 a.File "File" ["self", "room", "fill", "spare", "rows"] (sp_File___init P w K a)) (M_File_found : Mf P w K mg base 4 a.File "found" ["self", "key"] (sp_File_found P w K a)) (M_File_looks : Mf P w K mg base 3 a.File "looks" ["self", "key"] (sp_File_looks P w K a)) (M_File_picture : Mf P w K mg base 3 a.File "picture" ["self"] (sp_File_picture P w K a)) (M_File_walk : Mf P w K mg base 5 a.File "walk" ["self"] (sp_File_walk P w K a)) (M_File_writes : Mf P w K mg base 1 a.File "writes" ["self"] (sp_File_writes P w K a)) (G_law_alike : Gf P w K mg base 17 "_law_alike" ["_law_found", "_law_due"] (sp_law_alike P w K a)) (G_law_made : Gf P w K mg base 2 "_law_made" ["_law_shape_here", "_law_rows_here"] (sp_law_made P w K a)) (G_law_picture : Gf P w K mg base 1 "_law_picture" ["_law_m"] (sp_law_picture P w K a)) (G_law_rows : Gf P w K mg base 2 "_law_rows" ["_law_row", "_law_most"] (sp_law_rows P w K a)) (G_law_shape : Gf P w K mg base 2 "_law_shape" ["_law_row"] (sp_law_shape P w K a)) (G_law_taken : Gf P w K mg base 1 "_law_taken" ["_law_row", "_law_many"] (sp_law_taken P w K a))
    {f : Addr} {cdv : Value} {A : Around} {outer : List Env} {s : Shared} {H : Hp} {E : XK} (hr : Room 17 (A.deeper (envOfC "law" (defScope s_law) s.heap.objs.size f cdv))) :
    PSs (cxOf (L2.CX P w) P w K mg base ["_law_script", "_law_row", "_law_turn", "_law_shape_here", "_law_some", "_law_m", "_law_handed", "_law_file", "_law_again", "_law_found", "_law_keys", "_law_key", "_law_k", "_law_one"] "law" (defScope s_law) f cdv A outer s H E) (defBody s_law) (t_law P w K a E) := by
  have nd := sc_law.nd
  have tk : Takes (cxOf (L2.CX P w) P w K mg base ["_law_script", "_law_row", "_law_turn", "_law_shape_here", "_law_some", "_law_m", "_law_handed", "_law_file", "_law_again", "_law_found", "_law_keys", "_law_key", "_law_k", "_law_one"] "law" (defScope s_law) f cdv A outer s H E) (fun cls d _ H => E cls d H) := takes_of rfl rfl rfl rfl
  have px : Passes (L2.CX P w) (cxOf (L2.CX P w) P w K mg base ["_law_script", "_law_row", "_law_turn", "_law_shape_here", "_law_some", "_law_m", "_law_handed", "_law_file", "_law_again", "_law_found", "_law_keys", "_law_key", "_law_k", "_law_one"] "law" (defScope s_law) f cdv A outer s H E) E := px_of tk fun _ _ _ _ z => z
  have po : PassesOwn (model P w) (A.deeper (envOfC "law" (defScope s_law) s.heap.objs.size f cdv)) (envOfC "law" (defScope s_law) s.heap.objs.size f cdv) (cxOf (L2.CX P w) P w K mg base ["_law_script", "_law_row", "_law_turn", "_law_shape_here", "_law_some", "_law_m", "_law_handed", "_law_file", "_law_again", "_law_found", "_law_keys", "_law_key", "_law_k", "_law_one"] "law" (defScope s_law) f cdv A outer s H E).xe := passes_of (X := cxOf (L2.CX P w) P w K mg base ["_law_script", "_law_row", "_law_turn", "_law_shape_here", "_law_some", "_law_m", "_law_handed", "_law_file", "_law_again", "_law_found", "_law_keys", "_law_key", "_law_k", "_law_one"] "law" (defScope s_law) f cdv A outer s H E) rfl
  have hu := hu_of hr
  have hu64 := hr.units
  have hu65 := hu65 hr
  exact (pss_cons (ps_set (i := 1) nd rfl (by first | exact Or.inl rfl | exact Or.inr rfl) (pe_lst (pa_cons (pv 0) (pa_cons pe_int (pa_cons pe_int (pa_cons pe_int pa_nil)))))) (pss_cons (ps_for po rfl (pi_range1 (by rfl) T.nb.range (pa_cons pe_int pa_nil)) (pg_name (i := 2) nd rfl (by first | exact Or.inl rfl | exact Or.inr rfl)) (pss_cons (ps_par rfl nd rfl rfl (by decide) rfl rfl (pa_cons (pe_gf G_law_shape (hr.mono (by decide)) px (pa_cons (pv 1) pa_nil)) (pa_cons (pe_gf G_law_rows (hr.mono (by decide)) px (pa_cons (pv 1) (pa_cons pe_int pa_nil))) pa_nil)) (by rfl)) (pss_cons (ps_set (i := 5) nd rfl (by first | exact Or.inl rfl | exact Or.inr rfl) (pe_gf G_law_made (hr.mono (by decide)) px (pa_cons (pv 3) (pa_cons (pv 4) pa_nil)))) (pss_cons (ps_set (i := 6) nd rfl (by first | exact Or.inl rfl | exact Or.inr rfl) (pe_callTy call_listU (by rfl) T.nb.list (by decide +kernel) (pa_cons (pv 4) pa_nil))) (pss_cons (ps_set (i := 7) nd rfl (by first | exact Or.inl rfl | exact Or.inr rfl) (pe_kf K_File (hr.mono (by decide)) px (pa_cons (pe_ix (ix_u hu) (pv 3) pe_int (fun _ _ => rfl)) (pa_cons (pe_ix (ix_u hu) (pv 3) pe_int (fun _ _ => rfl)) (pa_cons (pe_ix (ix_u hu) (pv 3) pe_int (fun _ _ => rfl)) (pa_cons (pv 6) pa_nil)))))) (pss_cons (ps_expr (pe_bm PySem.F.plainAttrs_list PySem.F.slot_list_append PySem.F.type_list_append mt_append (pv 6) (pa_cons (pe_tup pa_nil) pa_nil))) (pss_cons (ps_for po rfl (pi_range1 (by rfl) T.nb.range (pa_cons pe_int pa_nil)) (pg_name (i := 8) nd rfl (by first | exact Or.inl rfl | exact Or.inr rfl)) (pss_cons (ps_set (i := 9) nd rfl (by first | exact Or.inl rfl | exact Or.inr rfl) (pe_lst (pa_cons (pe_mf0 M_File_picture (hr.mono (by decide)) px (pv 7)) (pa_cons (pe_mf0 M_File_writes (hr.mono (by decide)) px (pv 7)) (pa_cons (pe_mf0 M_File_walk (hr.mono (by decide)) px (pv 7)) pa_nil))))) (pss_cons (ps_if (pt_not (pt_val (pe_gf G_law_alike (hr.mono (by decide)) px (pa_cons (pv 9) (pa_cons (pe_lst (pa_cons (pe_gf G_law_picture (hr.mono (by decide)) px (pa_cons (pv 5) pa_nil)) (pa_cons pe_int (pa_cons (pe_tup (pa_cons (pv 4) (pa_cons (pe_callB call_lenU (by rfl) T.nb.len (by decide +kernel) (pa_cons (pe_ix (ix_u hu) (pv 5) pe_str (fun _ _ => rfl)) pa_nil)) pa_nil))) pa_nil)))) pa_nil))))) (pss_one (ps_ret pe_bl)) pss_nil) (pss_one (ps_expr (pe_bm PySem.F.plainAttrs_list PySem.F.slot_list_append PySem.F.type_list_append mt_append (pe_ix (ix_u hu) (pe_ix (ix_u hu) (pv 9) pe_int (fun _ _ => rfl)) pe_int (fun _ _ => rfl)) (pa_cons (pe_tup pa_nil) pa_nil))))))) (pss_cons (ps_set (i := 10) nd rfl (by first | exact Or.inl rfl | exact Or.inr rfl) (pe_op op_addU (pe_op op_addU (pe_lst (pa_cons pe_int (pa_cons pe_int pa_nil))) (pe_lc (own := [("_law_one", 13)]) rfl nd (pi_seqU (pv 4)) (by first | exact blkOk_by (by decide +kernel) | exact blkOk_by (by rfl)) (fun _ _ _ _ _ => (pg_name (i := 13) nd rfl (by first | exact Or.inl rfl | exact Or.inr rfl))) (fun _ _ _ _ _ => pts_nil) (fun _ _ _ _ _ => (pe_ix (ix_u hu) (pv 13) pe_int (fun _ _ => rfl))))) (pe_lc (own := [("_law_k", 12)]) rfl nd (pi_range1 (by rfl) T.nb.range (pa_cons pe_int pa_nil)) (by first | exact blkOk_by (by decide +kernel) | exact blkOk_by (by rfl)) (fun _ _ _ _ _ => (pg_name (i := 12) nd rfl (by first | exact Or.inl rfl | exact Or.inr rfl))) (fun _ _ _ _ _ => pts_nil) (fun _ _ _ _ _ => (pe_gf G_law_taken (hr.mono (by decide)) passL (pa_cons (pv 1) (pa_cons pe_int pa_nil))))))) (pss_one (ps_for po rfl (pi_seqU (pv 10)) (pg_name (i := 11) nd rfl (by first | exact Or.inl rfl | exact Or.inr rfl)) (pss_one (ps_if (pt_not (pt_val (pe_gf G_law_alike (hr.mono (by decide)) px (pa_cons (pe_lst (pa_cons (pe_mf M_File_found (hr.mono (by decide)) px (pv 7) (pa_cons (pv 11) pa_nil)) (pa_cons (pe_mf M_File_looks (hr.mono (by decide)) px (pv 7) (pa_cons (pv 11) pa_nil)) pa_nil))) (pa_cons (pe_lst (pa_cons (pe_dget1 hu (pe_callTy (call_dictU rfl) (by rfl) T.nb.dict (by decide +kernel) (pa_cons (pv 4) pa_nil)) (pv 11) (by exact ⟨rfl, rfl, rfl, rfl⟩)) (pa_cons pe_int pa_nil))) pa_nil))))) (pss_one (ps_ret pe_bl)) pss_nil)))))))))))) (pss_one (ps_ret pe_bl))))
theorem ok_law {P : Program} {w : World} {K : PySem.W.Frag} {mg : Str → Option Value} {base : Heap} {a : Ad} (T : Tx P w K mg base a) (kc : Kc K a) (K_File : Kf P w K mg base 4 a.File "File" ["self", "room", "fill", "spare", "rows"] (sp_File___init P w K a)) (M_File_found : Mf P w K mg base 4 a.File "found" ["self", "key"] (sp_File_found P w K a)) (M_File_looks : Mf P w K mg base 3 a.File "looks" ["self", "key"] (sp_File_looks P w K a)) (M_File_picture : Mf P w K mg base 3 a.File "picture" ["self"] (sp_File_picture P w K a)) (M_File_walk : Mf P w K mg base 5 a.File "walk" ["self"] (sp_File_walk P w K a)) (M_File_writes : Mf P w K mg base 1 a.File "writes" ["self"] (sp_File_writes P w K a)) (G_law_alike : Gf P w K mg base 17 "_law_alike" ["_law_found", "_law_due"] (sp_law_alike P w K a)) (G_law_made : Gf P w K mg base 2 "_law_made" ["_law_shape_here", "_law_rows_here"] (sp_law_made P w K a)) (G_law_picture : Gf P w K mg base 1 "_law_picture" ["_law_m"] (sp_law_picture P w K a)) (G_law_rows : Gf P w K mg base 2 "_law_rows" ["_law_row", "_law_most"] (sp_law_rows P w K a)) (G_law_shape : Gf P w K mg base 2 "_law_shape" ["_law_row"] (sp_law_shape P w K a)) (G_law_taken : Gf P w K mg base 1 "_law_taken" ["_law_row", "_law_many"] (sp_law_taken P w K a)) {f : Addr} {fd : FuncData} (F : FunD K "law" "law" (defArgs s_law) (defBody s_law) (defScope s_law) [] [] f fd) : FnOk P w K mg base (L2.CX P w) 18 f fd ["_law_script"] (spLaw K) :=
  F.ok sc_law (fun vs H Q E h => by
    repeat first | (obtain ⟨rfl, _⟩ := h; rfl) | obtain ⟨_, h⟩ := h) fun cdv A outer s H vs Q E hr h => ⟨_, der_law T K_File M_File_found M_File_looks M_File_picture M_File_walk M_File_writes G_law_alike G_law_made G_law_picture G_law_rows G_law_shape G_law_taken hr, pure_law kc vs H Q E h⟩
end Sp
namespace Sp
open PySem PySem.Spec PyProof.Rows L2 SM SR SD SE
def d_BadRows___init : He.DefD := ⟨("BadRows", some "__init__"), "__init__", "BadRows.__init__", defArgs s_BadRows___init, defBody s_BadRows___init, defScope s_BadRows___init, [], []⟩
def d_Store___init : He.DefD := ⟨("Store", some "__init__"), "__init__", "Store.__init__", defArgs s_Store___init, defBody s_Store___init, defScope s_Store___init, [], []⟩
def d_Store_need_up : He.DefD := ⟨("Store", some "need_up"), "need_up", "Store.need_up", defArgs s_Store_need_up, defBody s_Store_need_up, defScope s_Store_need_up, [], []⟩
def d_Store_write : He.DefD := ⟨("Store", some "write"), "write", "Store.write", defArgs s_Store_write, defBody s_Store_write, defScope s_Store_write, [], []⟩
def d_Store_read : He.DefD := ⟨("Store", some "read"), "read", "Store.read", defArgs s_Store_read, defBody s_Store_read, defScope s_Store_read, [], []⟩
def d_is_number : He.DefD := ⟨("is_number", none), "is_number", "is_number", defArgs s_is_number, defBody s_is_number, defScope s_is_number, [], []⟩
def d_need_shape : He.DefD := ⟨("need_shape", none), "need_shape", "need_shape", defArgs s_need_shape, defBody s_need_shape, defScope s_need_shape, [], []⟩
def d_is_row : He.DefD := ⟨("is_row", none), "is_row", "is_row", defArgs s_is_row, defBody s_is_row, defScope s_is_row, [], []⟩
def d_need_rows : He.DefD := ⟨("need_rows", none), "need_rows", "need_rows", defArgs s_need_rows, defBody s_need_rows, defScope s_need_rows, [], []⟩
def d_need_key : He.DefD := ⟨("need_key", none), "need_key", "need_key", defArgs s_need_key, defBody s_need_key, defScope s_need_key, [], []⟩
def d_parted : He.DefD := ⟨("parted", none), "parted", "parted", defArgs s_parted, defBody s_parted, defScope s_parted, [], []⟩
def d_File___init : He.DefD := ⟨("File", some "__init__"), "__init__", "File.__init__", defArgs s_File___init, defBody s_File___init, defScope s_File___init, [], []⟩
def d_File_lay : He.DefD := ⟨("File", some "lay"), "lay", "File.lay", defArgs s_File_lay, defBody s_File_lay, defScope s_File_lay, [], []⟩
def d_File_page_of : He.DefD := ⟨("File", some "page_of"), "page_of", "File.page_of", defArgs s_File_page_of, defBody s_File_page_of, defScope s_File_page_of, [], []⟩
def d_File_pages : He.DefD := ⟨("File", some "pages"), "pages", "File.pages", defArgs s_File_pages, defBody s_File_pages, defScope s_File_pages, [], []⟩
def d_File_chain : He.DefD := ⟨("File", some "chain"), "chain", "File.chain", defArgs s_File_chain, defBody s_File_chain, defScope s_File_chain, [], []⟩
def d_File_spilled : He.DefD := ⟨("File", some "spilled"), "spilled", "File.spilled", defArgs s_File_spilled, defBody s_File_spilled, defScope s_File_spilled, [], []⟩
def d_File_rows_at : He.DefD := ⟨("File", some "rows_at"), "rows_at", "File.rows_at", defArgs s_File_rows_at, defBody s_File_rows_at, defScope s_File_rows_at, [], []⟩
def d_File_found : He.DefD := ⟨("File", some "found"), "found", "File.found", defArgs s_File_found, defBody s_File_found, defScope s_File_found, [], []⟩
def d_File_looks : He.DefD := ⟨("File", some "looks"), "looks", "File.looks", defArgs s_File_looks, defBody s_File_looks, defScope s_File_looks, [], []⟩
def d_File_rows : He.DefD := ⟨("File", some "rows"), "rows", "File.rows", defArgs s_File_rows, defBody s_File_rows, defScope s_File_rows, [], []⟩
def d_File_walk : He.DefD := ⟨("File", some "walk"), "walk", "File.walk", defArgs s_File_walk, defBody s_File_walk, defScope s_File_walk, [], []⟩
def d_File_many_looks : He.DefD := ⟨("File", some "many_looks"), "many_looks", "File.many_looks", defArgs s_File_many_looks, defBody s_File_many_looks, defScope s_File_many_looks, [], []⟩
def d_File_writes : He.DefD := ⟨("File", some "writes"), "writes", "File.writes", defArgs s_File_writes, defBody s_File_writes, defScope s_File_writes, [], []⟩
def d_File_picture : He.DefD := ⟨("File", some "picture"), "picture", "File.picture", defArgs s_File_picture, defBody s_File_picture, defScope s_File_picture, [], []⟩
def d_law_taken : He.DefD := ⟨("_law_taken", none), "_law_taken", "_law_taken", defArgs s_law_taken, defBody s_law_taken, defScope s_law_taken, [], []⟩
def d_law_alike : He.DefD := ⟨("_law_alike", none), "_law_alike", "_law_alike", defArgs s_law_alike, defBody s_law_alike, defScope s_law_alike, [], []⟩
def d_law_shape : He.DefD := ⟨("_law_shape", none), "_law_shape", "_law_shape", defArgs s_law_shape, defBody s_law_shape, defScope s_law_shape, [], []⟩
def d_law_rows : He.DefD := ⟨("_law_rows", none), "_law_rows", "_law_rows", defArgs s_law_rows, defBody s_law_rows, defScope s_law_rows, [], []⟩
def d_law_laid : He.DefD := ⟨("_law_laid", none), "_law_laid", "_law_laid", defArgs s_law_laid, defBody s_law_laid, defScope s_law_laid, [], []⟩
def d_law_made : He.DefD := ⟨("_law_made", none), "_law_made", "_law_made", defArgs s_law_made, defBody s_law_made, defScope s_law_made, [], []⟩
def d_law_picture : He.DefD := ⟨("_law_picture", none), "_law_picture", "_law_picture", defArgs s_law_picture, defBody s_law_picture, defScope s_law_picture, [], []⟩
def d_law : He.DefD := ⟨("law", none), "law", "law", defArgs s_law, defBody s_law, defScope s_law, [], []⟩
def fn : List He.DefD := [d_BadRows___init, d_Store___init, d_Store_need_up, d_Store_write, d_Store_read, d_is_number, d_need_shape, d_is_row, d_need_rows, d_need_key, d_parted, d_File___init, d_File_lay, d_File_page_of, d_File_pages, d_File_chain, d_File_spilled, d_File_rows_at, d_File_found, d_File_looks, d_File_rows, d_File_walk, d_File_many_looks, d_File_writes, d_File_picture, d_law_taken, d_law_alike, d_law_shape, d_law_rows, d_law_laid, d_law_made, d_law_picture, d_law]
def fa : List He.Fa := [.int "MOST_KEY" 999, .int "MOST_ROOM" 4, .int "MOST_ROWS" 40, .int "MOST_SPARE" 20, .int "MOST_WORTH" 999, .str "ROOT" "root", .glo "BadFile", .exc "BadFile", .glo "BadKey", .exc "BadKey", .glo "Stopped", .exc "Stopped", .free "len", .free "range", .free "enumerate", .free "list", .free "tuple", .free "dict", .free "int", .free "str", .free "bool", .free "isinstance", .free "min", .free "max", .free "sum", .free "sorted", .free "reversed", .free "set", .free "ValueError", .glo "law", .glo "SpillError", .cls "File", .cls "Store", .noat "File" "room", .noat "File" "spare", .noat "File" "store", .noat "File" "marks", .noat "File" "count", .noat "Store" "cells", .noat "Store" "many", .noat "Store" "left", .noat "Store" "down", .glo "BadRows", .mkr "Store", .glo "Store", .meth "Store" "need_up", .meth "Store" "read", .glo "is_number", .glo "parted", .meth "File" "writes", .glo "_law_taken", .glo "_law_laid", .glo "_law_picture", .meth "Store" "write", .glo "need_shape", .glo "is_row", .glo "need_key", .meth "File" "page_of", .meth "File" "pages", .meth "File" "chain", .meth "File" "spilled", .glo "_law_shape", .glo "_law_rows", .glo "_law_made", .glo "need_rows", .meth "File" "lay", .meth "File" "rows_at", .meth "File" "looks", .meth "File" "many_looks", .meth "File" "picture", .mkr "File", .glo "File", .meth "File" "found", .meth "File" "rows", .meth "File" "walk", .glo "_law_alike"]
def ex (K : PySem.W.Frag) : Bool := xsB K (He.ga K "SpillError") && (xfB K (He.ga K "BadRows") "number" && (decide (He.ga K "File" ≠ He.ga K "Store")))
def adOf (K : PySem.W.Frag) : Ad := { File := He.ga K "File", Store := He.ga K "Store", SpillError := He.ga K "SpillError", BadFile := He.ga K "BadFile", BadKey := He.ga K "BadKey", BadWorth := He.ga K "BadWorth", NoRow := He.ga K "NoRow", Full := He.ga K "Full", NoMark := He.ga K "NoMark", Stopped := He.ga K "Stopped", BadCount := He.ga K "BadCount", BadRows := He.ga K "BadRows", BadDeeds := He.ga K "BadDeeds", BadPicture := He.ga K "BadPicture", BadStep := He.ga K "BadStep", BadText := He.ga K "BadText" }
abbrev R : PySem.W.OpenRow := PySem.W.OpenLaw.row PySem.Challenge.rw_spillrows_k02_laid
abbrev hk : PySem.W.Hook := hookY 5 fa fn [] ex
def ob (s : PySem.W.SharedT) : He.AlX := obsY 5 fa fn [] ex (HandSHeadRun.getT s)
theorem ob_eq (s : PySem.W.SharedT) : ob s = hk.obs s.abs := obsY_eq (HandSHeadRun.getT_eq s)
def loose : List PySem.Str := (["_wall", "SpillError", "BadFile", "BadRows", "BadKey", "NoMark", "Stopped", "ROOT", "Store", "MOST_ROOM", "MOST_SPARE", "MOST_ROWS", "MOST_KEY", "MOST_WORTH", "is_number", "need_shape", "is_row", "need_rows", "need_key", "parted", "File", "_law_taken", "_law_alike", "_law_shape", "_law_rows", "_law_laid", "_law_made", "_law_picture"] : List PySem.Str)
theorem runF (w : World) : HandSHeadRun.RunEq R (PySem.W.view R.prog [33]) hk ob 20000 loose (w.withFollow "special-get-raises" false) := by
  intro os
  kernel_rfl
theorem runT (w : World) : HandSHeadRun.RunEq R (PySem.W.view R.prog [33]) hk ob 20000 loose (w.withFollow "special-get-raises" true) := by
  intro os
  kernel_rfl
theorem run (w : World) : HandSHeadRun.RunEq R (PySem.W.view R.prog [33]) hk ob 20000 loose w := PySem.W.byRow2 "special-get-raises" (P := fun w => HandSHeadRun.RunEq R (PySem.W.view R.prog [33]) hk ob 20000 loose w) runF runT w
theorem facts {P : Program} {w : World} {K : PySem.W.Frag} {h : Heap} {mg : Str → Option Value} {f : Addr} (X : K.In h) (G : h.Ns mainGlobals mg) (hfa : mg ("law" : Str) = some (.ref f)) (c : He.SaysD fa fn K) (ce : ex K = true) :
    ∃ fd : FuncData, (∀ (s : Shared) (v : Value), BindsTo s fd ⟨[v], []⟩ [("_law_script", v)]) ∧ ∀ base : Heap, K.In base → base.Ns mainGlobals mg → FnOk P w K mg base (L2.CX P w) 18 f fd ["_law_script"] (spLaw K) := by
  obtain ⟨fd, F⟩ := c.def_ 32 (d := d_law) rfl
  have e := hfa.symm.trans (He.glo_ok X G (c.fact 29 (f := .glo "law") rfl))
  cases e
  have b := FunD.bindsA (ps := ["_law_script"]) F fun _ _ _ _ _ _ us hl => match us, hl with | [_], _ => rfl
  refine ⟨fd, fun s v => b s [v] rfl, fun base _ _ => ?_⟩
  obtain ⟨ex_SpillError, ce⟩ := He.ba ce
  obtain ⟨ex_BadRows, ce⟩ := He.ba ce
  have ex_ne := ce
  have xs : Xs K mg "SpillError" (He.ga K "SpillError") := xsB_ok (He.glo_ok X G (c.fact 30 rfl)) ex_SpillError
  have kc : Kc K (adOf K) := ⟨of_decide_eq_true ex_ne, He.cls_ok (c.fact 31 rfl), He.cls_ok (c.fact 32 rfl), He.noat_ok (c.fact 33 rfl), He.noat_ok (c.fact 34 rfl), He.noat_ok (c.fact 35 rfl), He.noat_ok (c.fact 36 rfl), He.noat_ok (c.fact 37 rfl), He.noat_ok (c.fact 38 rfl), He.noat_ok (c.fact 39 rfl), He.noat_ok (c.fact 40 rfl), He.noat_ok (c.fact 41 rfl)⟩
  obtain ⟨fd_BadRows___init, F_BadRows___init⟩ := c.def_ 0 (d := d_BadRows___init) rfl
  have xf_BadRows : Xf P w K mg base 1 "BadRows" (He.ga K "BadRows") "number" := xfB_ok (p := "number") (He.glo_ok X G (c.fact 42 rfl)) ex_BadRows (F_BadRows___init.bindsN fun _ _ _ _ _ _ us hl => match us, hl with | [_, _], _ => rfl) (ok_BadRows___init xs F_BadRows___init)
  have nb : Nb mg := ⟨He.free_ok X G (c.fact 12 rfl), He.free_ok X G (c.fact 13 rfl), He.free_ok X G (c.fact 14 rfl), He.free_ok X G (c.fact 15 rfl), He.free_ok X G (c.fact 16 rfl), He.free_ok X G (c.fact 17 rfl), He.free_ok X G (c.fact 18 rfl), He.free_ok X G (c.fact 19 rfl), He.free_ok X G (c.fact 20 rfl), He.free_ok X G (c.fact 21 rfl), He.free_ok X G (c.fact 22 rfl), He.free_ok X G (c.fact 23 rfl), He.free_ok X G (c.fact 24 rfl), He.free_ok X G (c.fact 25 rfl), He.free_ok X G (c.fact 26 rfl), He.free_ok X G (c.fact 27 rfl), He.free_ok X G (c.fact 28 rfl)⟩
  have T : Tx P w K mg base (adOf K) := ⟨nb, He.int_ok X G (c.fact 0 rfl), He.int_ok X G (c.fact 1 rfl), He.int_ok X G (c.fact 2 rfl), He.int_ok X G (c.fact 3 rfl), He.int_ok X G (c.fact 4 rfl), He.str_ok X G (c.fact 5 rfl), xcB_ok (He.glo_ok X G (c.fact 6 rfl)) (c.fact 7 rfl), xcB_ok (He.glo_ok X G (c.fact 8 rfl)) (c.fact 9 rfl), xf_BadRows, xcB_ok (He.glo_ok X G (c.fact 10 rfl)) (c.fact 11 rfl)⟩
  obtain ⟨fd_Store___init, F_Store___init⟩ := c.def_ 1 (d := d_Store___init) rfl
  have K_Store : Kf P w K mg base 1 (adOf K).Store "Store" ["self"] (sp_Store___init P w K (adOf K)) := ⟨_, _, He.mkr_ok (c.fact 43 rfl), He.glo_ok X G (c.fact 44 rfl), (F_Store___init.bindsN fun _ _ _ _ _ _ us hl => match us, hl with | [_], _ => rfl), ok_Store___init T kc  F_Store___init⟩
  obtain ⟨fd_Store_need_up, F_Store_need_up⟩ := c.def_ 2 (d := d_Store_need_up) rfl
  have M_Store_need_up : Mf P w K mg base 1 (adOf K).Store "need_up" ["self"] (sp_Store_need_up P w K (adOf K)) := ⟨⟨_, _, He.meth_ok (c.fact 45 rfl), (F_Store_need_up.bindsN fun _ _ _ _ _ _ us hl => match us, hl with | [_], _ => rfl), ok_Store_need_up T kc  F_Store_need_up⟩, kc.sc⟩
  obtain ⟨fd_Store_read, F_Store_read⟩ := c.def_ 4 (d := d_Store_read) rfl
  have M_Store_read : Mf P w K mg base 1 (adOf K).Store "read" ["self", "name"] (sp_Store_read P w K (adOf K)) := ⟨⟨_, _, He.meth_ok (c.fact 46 rfl), (F_Store_read.bindsN fun _ _ _ _ _ _ us hl => match us, hl with | [_, _], _ => rfl), ok_Store_read T kc  F_Store_read⟩, kc.sc⟩
  obtain ⟨fd_is_number, F_is_number⟩ := c.def_ 5 (d := d_is_number) rfl
  have G_is_number : Gf P w K mg base 1 "is_number" ["part", "low", "high"] (sp_is_number P w K (adOf K)) := ⟨_, _, He.glo_ok X G (c.fact 47 rfl), F_is_number.kp, (F_is_number.bindsN fun _ _ _ _ _ _ us hl => match us, hl with | [_, _, _], _ => rfl), ok_is_number T kc  F_is_number⟩
  obtain ⟨fd_parted, F_parted⟩ := c.def_ 10 (d := d_parted) rfl
  have G_parted : Gf P w K mg base 1 "parted" ["rows", "fill"] (sp_parted P w K (adOf K)) := ⟨_, _, He.glo_ok X G (c.fact 48 rfl), F_parted.kp, (F_parted.bindsN fun _ _ _ _ _ _ us hl => match us, hl with | [_, _], _ => rfl), ok_parted T kc  F_parted⟩
  obtain ⟨fd_File_writes, F_File_writes⟩ := c.def_ 23 (d := d_File_writes) rfl
  have M_File_writes : Mf P w K mg base 1 (adOf K).File "writes" ["self"] (sp_File_writes P w K (adOf K)) := ⟨⟨_, _, He.meth_ok (c.fact 49 rfl), (F_File_writes.bindsN fun _ _ _ _ _ _ us hl => match us, hl with | [_], _ => rfl), ok_File_writes T kc  F_File_writes⟩, kc.fc⟩
  obtain ⟨fd_law_taken, F_law_taken⟩ := c.def_ 25 (d := d_law_taken) rfl
  have G_law_taken : Gf P w K mg base 1 "_law_taken" ["_law_row", "_law_many"] (sp_law_taken P w K (adOf K)) := ⟨_, _, He.glo_ok X G (c.fact 50 rfl), F_law_taken.kp, (F_law_taken.bindsN fun _ _ _ _ _ _ us hl => match us, hl with | [_, _], _ => rfl), ok_law_taken T kc  F_law_taken⟩
  obtain ⟨fd_law_laid, F_law_laid⟩ := c.def_ 29 (d := d_law_laid) rfl
  have G_law_laid : Gf P w K mg base 1 "_law_laid" ["_law_rows_here", "_law_fill"] (sp_law_laid P w K (adOf K)) := ⟨_, _, He.glo_ok X G (c.fact 51 rfl), F_law_laid.kp, (F_law_laid.bindsN fun _ _ _ _ _ _ us hl => match us, hl with | [_, _], _ => rfl), ok_law_laid T kc  F_law_laid⟩
  obtain ⟨fd_law_picture, F_law_picture⟩ := c.def_ 31 (d := d_law_picture) rfl
  have G_law_picture : Gf P w K mg base 1 "_law_picture" ["_law_m"] (sp_law_picture P w K (adOf K)) := ⟨_, _, He.glo_ok X G (c.fact 52 rfl), F_law_picture.kp, (F_law_picture.bindsN fun _ _ _ _ _ _ us hl => match us, hl with | [_], _ => rfl), ok_law_picture T kc  F_law_picture⟩
  obtain ⟨fd_Store_write, F_Store_write⟩ := c.def_ 3 (d := d_Store_write) rfl
  have M_Store_write : Mf P w K mg base 2 (adOf K).Store "write" ["self", "name", "what"] (sp_Store_write P w K (adOf K)) := ⟨⟨_, _, He.meth_ok (c.fact 53 rfl), (F_Store_write.bindsN fun _ _ _ _ _ _ us hl => match us, hl with | [_, _, _], _ => rfl), ok_Store_write T kc M_Store_need_up F_Store_write⟩, kc.sc⟩
  obtain ⟨fd_need_shape, F_need_shape⟩ := c.def_ 6 (d := d_need_shape) rfl
  have G_need_shape : Gf P w K mg base 2 "need_shape" ["room", "fill", "spare"] (sp_need_shape P w K (adOf K)) := ⟨_, _, He.glo_ok X G (c.fact 54 rfl), F_need_shape.kp, (F_need_shape.bindsN fun _ _ _ _ _ _ us hl => match us, hl with | [_, _, _], _ => rfl), ok_need_shape T kc G_is_number F_need_shape⟩
  obtain ⟨fd_is_row, F_is_row⟩ := c.def_ 7 (d := d_is_row) rfl
  have G_is_row : Gf P w K mg base 2 "is_row" ["part"] (sp_is_row P w K (adOf K)) := ⟨_, _, He.glo_ok X G (c.fact 55 rfl), F_is_row.kp, (F_is_row.bindsN fun _ _ _ _ _ _ us hl => match us, hl with | [_], _ => rfl), ok_is_row T kc G_is_number F_is_row⟩
  obtain ⟨fd_need_key, F_need_key⟩ := c.def_ 9 (d := d_need_key) rfl
  have G_need_key : Gf P w K mg base 2 "need_key" ["key"] (sp_need_key P w K (adOf K)) := ⟨_, _, He.glo_ok X G (c.fact 56 rfl), F_need_key.kp, (F_need_key.bindsN fun _ _ _ _ _ _ us hl => match us, hl with | [_], _ => rfl), ok_need_key T kc G_is_number F_need_key⟩
  obtain ⟨fd_File_page_of, F_File_page_of⟩ := c.def_ 13 (d := d_File_page_of) rfl
  have M_File_page_of : Mf P w K mg base 2 (adOf K).File "page_of" ["self", "key"] (sp_File_page_of P w K (adOf K)) := ⟨⟨_, _, He.meth_ok (c.fact 57 rfl), (F_File_page_of.bindsN fun _ _ _ _ _ _ us hl => match us, hl with | [_, _], _ => rfl), ok_File_page_of T kc M_Store_read F_File_page_of⟩, kc.fc⟩
  obtain ⟨fd_File_pages, F_File_pages⟩ := c.def_ 14 (d := d_File_pages) rfl
  have M_File_pages : Mf P w K mg base 2 (adOf K).File "pages" ["self"] (sp_File_pages P w K (adOf K)) := ⟨⟨_, _, He.meth_ok (c.fact 58 rfl), (F_File_pages.bindsN fun _ _ _ _ _ _ us hl => match us, hl with | [_], _ => rfl), ok_File_pages T kc M_Store_read F_File_pages⟩, kc.fc⟩
  obtain ⟨fd_File_chain, F_File_chain⟩ := c.def_ 15 (d := d_File_chain) rfl
  have M_File_chain : Mf P w K mg base 2 (adOf K).File "chain" ["self", "page"] (sp_File_chain P w K (adOf K)) := ⟨⟨_, _, He.meth_ok (c.fact 59 rfl), (F_File_chain.bindsN fun _ _ _ _ _ _ us hl => match us, hl with | [_, _], _ => rfl), ok_File_chain T kc M_Store_read F_File_chain⟩, kc.fc⟩
  obtain ⟨fd_File_spilled, F_File_spilled⟩ := c.def_ 16 (d := d_File_spilled) rfl
  have M_File_spilled : Mf P w K mg base 2 (adOf K).File "spilled" ["self", "number"] (sp_File_spilled P w K (adOf K)) := ⟨⟨_, _, He.meth_ok (c.fact 60 rfl), (F_File_spilled.bindsN fun _ _ _ _ _ _ us hl => match us, hl with | [_, _], _ => rfl), ok_File_spilled T kc M_Store_read F_File_spilled⟩, kc.fc⟩
  obtain ⟨fd_law_shape, F_law_shape⟩ := c.def_ 27 (d := d_law_shape) rfl
  have G_law_shape : Gf P w K mg base 2 "_law_shape" ["_law_row"] (sp_law_shape P w K (adOf K)) := ⟨_, _, He.glo_ok X G (c.fact 61 rfl), F_law_shape.kp, (F_law_shape.bindsN fun _ _ _ _ _ _ us hl => match us, hl with | [_], _ => rfl), ok_law_shape T kc G_law_taken F_law_shape⟩
  obtain ⟨fd_law_rows, F_law_rows⟩ := c.def_ 28 (d := d_law_rows) rfl
  have G_law_rows : Gf P w K mg base 2 "_law_rows" ["_law_row", "_law_most"] (sp_law_rows P w K (adOf K)) := ⟨_, _, He.glo_ok X G (c.fact 62 rfl), F_law_rows.kp, (F_law_rows.bindsN fun _ _ _ _ _ _ us hl => match us, hl with | [_, _], _ => rfl), ok_law_rows T kc G_law_taken F_law_rows⟩
  obtain ⟨fd_law_made, F_law_made⟩ := c.def_ 30 (d := d_law_made) rfl
  have G_law_made : Gf P w K mg base 2 "_law_made" ["_law_shape_here", "_law_rows_here"] (sp_law_made P w K (adOf K)) := ⟨_, _, He.glo_ok X G (c.fact 63 rfl), F_law_made.kp, (F_law_made.bindsN fun _ _ _ _ _ _ us hl => match us, hl with | [_, _], _ => rfl), ok_law_made T kc G_law_laid F_law_made⟩
  obtain ⟨fd_need_rows, F_need_rows⟩ := c.def_ 8 (d := d_need_rows) rfl
  have G_need_rows : Gf P w K mg base 3 "need_rows" ["rows"] (sp_need_rows P w K (adOf K)) := ⟨_, _, He.glo_ok X G (c.fact 64 rfl), F_need_rows.kp, (F_need_rows.bindsN fun _ _ _ _ _ _ us hl => match us, hl with | [_], _ => rfl), ok_need_rows T kc G_is_row F_need_rows⟩
  obtain ⟨fd_File_lay, F_File_lay⟩ := c.def_ 12 (d := d_File_lay) rfl
  have M_File_lay : Mf P w K mg base 3 (adOf K).File "lay" ["self", "which", "rows", "fill"] (sp_File_lay P w K (adOf K)) := ⟨⟨_, _, He.meth_ok (c.fact 65 rfl), (F_File_lay.bindsN fun _ _ _ _ _ _ us hl => match us, hl with | [_, _, _, _], _ => rfl), ok_File_lay T kc M_Store_write G_parted F_File_lay⟩, kc.fc⟩
  obtain ⟨fd_File_rows_at, F_File_rows_at⟩ := c.def_ 17 (d := d_File_rows_at) rfl
  have M_File_rows_at : Mf P w K mg base 3 (adOf K).File "rows_at" ["self", "page"] (sp_File_rows_at P w K (adOf K)) := ⟨⟨_, _, He.meth_ok (c.fact 66 rfl), (F_File_rows_at.bindsN fun _ _ _ _ _ _ us hl => match us, hl with | [_, _], _ => rfl), ok_File_rows_at T kc M_File_chain M_File_spilled M_Store_read F_File_rows_at⟩, kc.fc⟩
  obtain ⟨fd_File_looks, F_File_looks⟩ := c.def_ 19 (d := d_File_looks) rfl
  have M_File_looks : Mf P w K mg base 3 (adOf K).File "looks" ["self", "key"] (sp_File_looks P w K (adOf K)) := ⟨⟨_, _, He.meth_ok (c.fact 67 rfl), (F_File_looks.bindsN fun _ _ _ _ _ _ us hl => match us, hl with | [_, _], _ => rfl), ok_File_looks T kc M_File_chain M_File_page_of M_File_spilled M_Store_need_up M_Store_read G_need_key F_File_looks⟩, kc.fc⟩
  obtain ⟨fd_File_many_looks, F_File_many_looks⟩ := c.def_ 22 (d := d_File_many_looks) rfl
  have M_File_many_looks : Mf P w K mg base 3 (adOf K).File "many_looks" ["self", "pages"] (sp_File_many_looks P w K (adOf K)) := ⟨⟨_, _, He.meth_ok (c.fact 68 rfl), (F_File_many_looks.bindsN fun _ _ _ _ _ _ us hl => match us, hl with | [_, _], _ => rfl), ok_File_many_looks T kc M_File_chain F_File_many_looks⟩, kc.fc⟩
  obtain ⟨fd_File_picture, F_File_picture⟩ := c.def_ 24 (d := d_File_picture) rfl
  have M_File_picture : Mf P w K mg base 3 (adOf K).File "picture" ["self"] (sp_File_picture P w K (adOf K)) := ⟨⟨_, _, He.meth_ok (c.fact 69 rfl), (F_File_picture.bindsN fun _ _ _ _ _ _ us hl => match us, hl with | [_], _ => rfl), ok_File_picture T kc M_File_pages M_Store_read F_File_picture⟩, kc.fc⟩
  obtain ⟨fd_File___init, F_File___init⟩ := c.def_ 11 (d := d_File___init) rfl
  have K_File : Kf P w K mg base 4 (adOf K).File "File" ["self", "room", "fill", "spare", "rows"] (sp_File___init P w K (adOf K)) := ⟨_, _, He.mkr_ok (c.fact 70 rfl), He.glo_ok X G (c.fact 71 rfl), (F_File___init.bindsN fun _ _ _ _ _ _ us hl => match us, hl with | [_, _, _, _, _], _ => rfl), ok_File___init T kc M_File_lay K_Store G_need_rows G_need_shape F_File___init⟩
  obtain ⟨fd_File_found, F_File_found⟩ := c.def_ 18 (d := d_File_found) rfl
  have M_File_found : Mf P w K mg base 4 (adOf K).File "found" ["self", "key"] (sp_File_found P w K (adOf K)) := ⟨⟨_, _, He.meth_ok (c.fact 72 rfl), (F_File_found.bindsN fun _ _ _ _ _ _ us hl => match us, hl with | [_, _], _ => rfl), ok_File_found T kc M_File_page_of M_File_rows_at M_Store_need_up G_need_key F_File_found⟩, kc.fc⟩
  obtain ⟨fd_File_rows, F_File_rows⟩ := c.def_ 20 (d := d_File_rows) rfl
  have M_File_rows : Mf P w K mg base 4 (adOf K).File "rows" ["self"] (sp_File_rows P w K (adOf K)) := ⟨⟨_, _, He.meth_ok (c.fact 73 rfl), (F_File_rows.bindsN fun _ _ _ _ _ _ us hl => match us, hl with | [_], _ => rfl), ok_File_rows T kc M_File_pages M_File_rows_at F_File_rows⟩, kc.fc⟩
  obtain ⟨fd_File_walk, F_File_walk⟩ := c.def_ 21 (d := d_File_walk) rfl
  have M_File_walk : Mf P w K mg base 5 (adOf K).File "walk" ["self"] (sp_File_walk P w K (adOf K)) := ⟨⟨_, _, He.meth_ok (c.fact 74 rfl), (F_File_walk.bindsN fun _ _ _ _ _ _ us hl => match us, hl with | [_], _ => rfl), ok_File_walk T kc M_File_many_looks M_File_pages M_File_rows M_Store_need_up F_File_walk⟩, kc.fc⟩
  obtain ⟨fd_law_alike, F_law_alike⟩ := c.def_ 26 (d := d_law_alike) rfl
  have G_law_alike : Gf P w K mg base 17 "_law_alike" ["_law_found", "_law_due"] (sp_law_alike P w K (adOf K)) := ⟨_, _, He.glo_ok X G (c.fact 75 rfl), F_law_alike.kp, (F_law_alike.bindsN fun _ _ _ _ _ _ us hl => match us, hl with | [_, _], _ => rfl), ok_law_alike T (He.glo_ok X G (c.fact 75 rfl)) (F_law_alike.bindsN fun _ _ _ _ _ _ us hl => match us, hl with | [_, _], _ => rfl) F_law_alike 16⟩
  exact ok_law T kc K_File M_File_found M_File_looks M_File_picture M_File_walk M_File_writes G_law_alike G_law_made G_law_picture G_law_rows G_law_shape G_law_taken F
end Sp
open PySem PySem.W PySem.Calls PyProof.Rows
theorem PySem.Challenge.cw_spillrows_k02_laid_holds : PySem.Challenge.rw_spillrows_k02_laid.Holds := by
  w_on; o_law
  refine HandSHeadRun.head_any (r := OpenLaw.row PySem.Challenge.rw_spillrows_k02_laid) (q := view (OpenLaw.row PySem.Challenge.rw_spillrows_k02_laid).prog [33]) (H := Sp.hk) (ob := Sp.ob) (M := 20000) (loose := Sp.loose) (d := HandSHeadRun.topDef (OpenLaw.row PySem.Challenge.rw_spillrows_k02_laid).prog 33) (kwd := []) Sp.ob_eq
    (by kernel_rfl) (fun s => by kernel_rfl) Sp.run (by kernel_rfl) (by kernel_rfl) (by kernel_rfl) (by rfl) (by first | assumption | decide +kernel) (by decide +kernel) ⟨rfl, rfl, rfl, rfl, rfl, by decide +kernel⟩ ?hw ?hc
  case hw => w_witness2
  case hc =>
    refine Sp.walk_ofW (l := PySem.Challenge.rw_spillrows_k02_laid) (n := 63) (k := 18) (x := "_law_script") rfl (by decide) (by kernel_rfl) ⟨rfl, by decide, by decide⟩ ?F
    intro w mg fa h Y G hmg0
    obtain ⟨K, KX, c⟩ := Y
    have hmg : mg ("law" : PySem.Str) = some (.ref fa) := by
      have e : (HandSHeadRun.topDef (OpenLaw.row PySem.Challenge.rw_spillrows_k02_laid).prog 33).name = ("law" : PySem.Str) := by kernel_rfl
      rw [← e]
      exact hmg0
    obtain ⟨fd, hb, hF⟩ := Sp.facts (P := (PySem.Challenge.rw_spillrows_k02_laid).prog) (w := w) KX G hmg c.t.d c.more
    exact ⟨K, fd, Sp.spLaw K, KX, hb, fun H a ns hl hO hS => ⟨a, ns, rfl, Sp.sqF_of hO hS, fun _ => rfl⟩, hF⟩

