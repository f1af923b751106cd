import PyProof.Rows.All
import PySem.Str
import Wide.All
import OpenK.AllK
import Wide.FinOn
import KE.DataCmp
import HandS.ForMost
import HandS.ForExc
import HandS.Style
import HandS.IsInst
import HandS.TupMul
import HandS.Flow
import HandS.Wide
import HandS.Defaults
import HandS.FStr
import HandS.ExcInit
import HandS.AnyAll
import HandS.More
import PyProof.GenCompD
import KE.KExcSuper
import HandS.ClsMeth
import HandS.Set
import HandS.SetFor
import HandS.Strs
import KE.SortData
import HandS.Walk
import HandS.Codes
import HandS.WordsExc
import HandS.ExcOwn
import HandS.WordsDict
import KE.KStateDown
import Lean
import HandS.Base
import HandS.Call
import HandS.Ends
import HandS.Words
import HandS.Head0
import HandS.Head1
import HandS.Head2
import HandS.HeadEnd
import HandS.HeadHook1
import HandS.HeadHook2
import HandS.HeadHook3
import HandS.HeadHook4
import HandS.HeadWalk
import PySem.Challenge.RW_rightrows_k30_whole_copies
section
/-! Plain mathematics: tables, trees, walks over a tree and over a list of entries. No program here. -/
namespace RR
open PySem
set_option linter.all false

/-! ### order of keys -/
/-- strictly below, by code points -/
def kb (a b : Str) : Prop := a.cps.toList < b.cps.toList
instance (a b : Str) : Decidable (kb a b) := inferInstanceAs (Decidable (a.cps.toList < b.cps.toList))
theorem kb_irrefl (a : Str) : ¬ kb a a := List.lt_irrefl _
theorem kb_trans {a b c : Str} (h : kb a b) (k : kb b c) : kb a c := List.lt_trans h k
theorem kb_asymm {a b : Str} (h : kb a b) : ¬ kb b a := fun k => kb_irrefl a (kb_trans h k)
theorem str_ext {a b : Str} (h : a.cps.toList = b.cps.toList) : a = b := by
  cases a; cases b
  simp only at h
  congr
  exact Array.toList_inj.mp h
theorem kb_tri {a b : Str} (h : ¬ kb a b) (k : ¬ kb b a) : a = b :=
  str_ext (List.le_antisymm (List.not_lt.mp k) (List.not_lt.mp h))

/-! ### links, entries, encodings -/
structure Lk where
  d : Int
  c : Int
  s0 : Int
  s1 : Int
  s2 : Int
  deriving DecidableEq, Repr
structure En where
  key : Str
  row : List Int
  l : Lk
  r : Lk
  deriving DecidableEq, Repr
def codes (x : Str) : List Int := x.cps.toList.map fun (n : Nat) => (n : Int)
def encI (n : Int) : List Int := [0, n]
def encS (x : Str) : List Int := 1 :: (x.length : Int) :: codes x
def encT (ls : List (List Int)) : List Int := 2 :: (ls.length : Int) :: ls.flatten
def encLk (l : Lk) : List Int := encT [encI l.d, encI l.c, encT [encI l.s0, encI l.s1, encI l.s2]]
def encRow (row : List Int) : List Int := encT (row.map encI)
def encEn (e : En) : List Int := encT [encS "node", encS e.key, encRow e.row, encLk e.l, encLk e.r]
def encEm : List Int := encT [encS "empty"]
/-- a rule: base, modulus -/
structure Ru where
  b : Int
  m : Int
  hb : 1 ≤ b ∧ b ≤ 1000000000000000000
  hm : 2 ≤ m ∧ m ≤ 1000000000000000000
def digF (u : Ru) (f n : Int) : Int := (f * u.b + n + 1) % u.m
def dig (u : Ru) (l : List Int) : Int := (l.foldl (digF u) 1 * u.b + (l.length : Int)) % u.m
theorem digF_range (u : Ru) (f n : Int) : 0 ≤ digF u f n ∧ digF u f n < u.m := by
  have := u.hm
  exact ⟨Int.emod_nonneg _ (by omega), Int.emod_lt_of_pos _ (by omega)⟩
theorem dig_range (u : Ru) (l : List Int) : 0 ≤ dig u l ∧ dig u l < u.m := by
  have := u.hm
  exact ⟨Int.emod_nonneg _ (by omega), Int.emod_lt_of_pos _ (by omega)⟩
def cell (row : List Int) (k : Nat) : Int := row.getD k 0
def emLk (u : Ru) : Lk := ⟨dig u encEm, 0, 0, 0, 0⟩
def mkLk (u : Ru) (e : En) : Lk := ⟨dig u (encEn e), 1 + e.l.c + e.r.c, cell e.row 0 + e.l.s0 + e.r.s0, cell e.row 1 + e.l.s1 + e.r.s1, cell e.row 2 + e.l.s2 + e.r.s2⟩

/-! ### well-formed -/
def LkOk (l : Lk) : Prop := 0 ≤ l.d ∧ 0 ≤ l.c ∧ 0 ≤ l.s0 ∧ 0 ≤ l.s1 ∧ 0 ≤ l.s2
def KeyOk (k : Str) : Prop := 1 ≤ k.length ∧ k.length ≤ 8 ∧ ∀ c ∈ k.cps.toList, c ∈ ("abcdefghijklmnopqrstuvwxyz0123456789" : Str).cps.toList
def RowOk (r : List Int) : Prop := 1 ≤ r.length ∧ r.length ≤ 3 ∧ ∀ n ∈ r, 0 ≤ n ∧ n ≤ 65535
structure EnOk (e : En) : Prop where
  key : KeyOk e.key
  row : RowOk e.row
  l : LkOk e.l
  r : LkOk e.r
theorem cell_nn {r : List Int} (h : RowOk r) (k : Nat) : 0 ≤ cell r k := by
  unfold cell
  rw [List.getD_eq_getElem?_getD]
  cases e : r[k]? with
  | none => simp
  | some n =>
    have := h.2.2 n (List.mem_of_getElem? e)
    simp
    omega
theorem emLk_ok (u : Ru) : LkOk (emLk u) := ⟨(dig_range u _).1, by simp [emLk], by simp [emLk], by simp [emLk], by simp [emLk]⟩
theorem mkLk_ok (u : Ru) {e : En} (h : EnOk e) : LkOk (mkLk u e) := by
  obtain ⟨_, a2, a3, a4, a5⟩ := h.l
  obtain ⟨_, b2, b3, b4, b5⟩ := h.r
  have c0 := cell_nn h.row 0
  have c1 := cell_nn h.row 1
  have c2 := cell_nn h.row 2
  refine ⟨(dig_range u _).1, ?_, ?_, ?_, ?_⟩ <;> simp only [mkLk] <;> omega

/-! ### tables -/
abbrev Pr := Str × List Int
abbrev Tab := List Pr
/-- keys never fall -/
def Lax (t : Tab) : Prop := t.Pairwise fun p q => ¬ kb q.1 p.1
/-- keys rise -/
def Up (t : Tab) : Prop := t.Pairwise fun p q => kb p.1 q.1
theorem Up.lax {t : Tab} (h : Up t) : Lax t := List.Pairwise.imp (fun h => kb_asymm h) h
def TabOk (t : Tab) : Prop := ∀ p ∈ t, KeyOk p.1 ∧ RowOk p.2
def rankF (f n : Int) : Int := (f * 131 + n) % 1000003
def rank (k : Str) : Int := (codes k).foldl rankF 7
/-- the place of the best so far and the next -/
def topF (t : Tab) (b k : Nat) : Nat := if rank ((t.getD b default).1) < rank ((t.getD k default).1) then k else b
def top (t : Tab) : Nat := (List.range t.length).foldl (topF t) 0
theorem topF_lt {t : Tab} {b k : Nat} (hb : b < t.length) (hk : k < t.length) : topF t b k < t.length := by
  unfold topF; split <;> assumption
theorem top_foldl {t : Tab} : ∀ (l : List Nat) (b : Nat), b < t.length → (∀ k ∈ l, k < t.length) → l.foldl (topF t) b < t.length
  | [], b, hb, _ => hb
  | k :: l, b, hb, h => top_foldl l _ (topF_lt hb (h k List.mem_cons_self)) fun j hj => h j (List.mem_cons_of_mem _ hj)
theorem top_lt {t : Tab} (h : t ≠ []) : top t < t.length :=
  top_foldl _ 0 (List.length_pos_iff.mpr h) fun k hk => List.mem_range.mp hk
/-- the scan from 0 or from 1 -/
theorem top_one {t : Tab} : ((List.range t.length).drop 1).foldl (topF t) 0 = top t := by
  unfold top
  cases h : t.length with
  | zero => rfl
  | succ n =>
    rw [List.range_succ_eq_map, List.drop_one, List.tail_cons, List.foldl_cons]
    congr 1
    unfold topF
    rw [if_neg (Int.lt_irrefl _)]

inductive Tr where
  | leaf
  | node (key : Str) (row : List Int) (a b : Tr)
  deriving Repr
def Tr.lk (u : Ru) : Tr → Lk
  | .leaf => emLk u
  | .node k r a b => mkLk u ⟨k, r, a.lk u, b.lk u⟩
def Tr.en (u : Ru) (k : Str) (r : List Int) (a b : Tr) : En := ⟨k, r, a.lk u, b.lk u⟩
def Tr.rows : Tr → Tab
  | .leaf => []
  | .node k r a b => a.rows ++ (k, r) :: b.rows
def Tr.ht : Tr → Nat
  | .leaf => 0
  | .node _ _ a b => max a.ht b.ht + 1
def mkT : Nat → Tab → Tr
  | 0, _ => .leaf
  | n + 1, t => match t[top t]? with
    | none => .leaf
    | some p => .node p.1 p.2 (mkT n (t.take (top t))) (mkT n (t.drop (top t + 1)))
/-- the tree of a table -/
def tr (t : Tab) : Tr := mkT t.length t
theorem mkT_fuel : ∀ (n m : Nat) (t : Tab), t.length ≤ n → t.length ≤ m → mkT n t = mkT m t := by
  intro n
  induction n with
  | zero =>
    intro m t h _
    have e : t = [] := List.eq_nil_of_length_eq_zero (Nat.le_zero.mp h)
    subst e
    cases m with
    | zero => rfl
    | succ m => rfl
  | succ n ih =>
    intro m t h hm
    cases m with
    | zero =>
      have e : t = [] := List.eq_nil_of_length_eq_zero (Nat.le_zero.mp hm)
      subst e
      rfl
    | succ m =>
      unfold mkT
      cases e : t[top t]? with
      | none => rfl
      | some p =>
        have hl : top t < t.length := (List.getElem?_eq_some_iff.mp e).1
        simp only
        rw [ih m (t.take (top t)) (by rw [List.length_take]; omega) (by rw [List.length_take]; omega), ih m (t.drop (top t + 1)) (by rw [List.length_drop]; omega) (by rw [List.length_drop]; omega)]
theorem tr_nil : tr [] = .leaf := rfl
theorem tr_cons {t : Tab} {p : Pr} (e : t[top t]? = some p) : tr t = .node p.1 p.2 (tr (t.take (top t))) (tr (t.drop (top t + 1))) := by
  have hl : top t < t.length := (List.getElem?_eq_some_iff.mp e).1
  unfold tr
  cases h : t.length with
  | zero => omega
  | succ n =>
    have e1 : mkT (n + 1) t = .node p.1 p.2 (mkT n (t.take (top t))) (mkT n (t.drop (top t + 1))) := by
      show (match t[top t]? with
        | none => Tr.leaf
        | some p => .node p.1 p.2 (mkT n (t.take (top t))) (mkT n (t.drop (top t + 1)))) = _
      rw [e]
    rw [e1, mkT_fuel n _ (t.take (top t)) (by rw [List.length_take]; omega) (Nat.le_refl _), mkT_fuel n _ (t.drop (top t + 1)) (by rw [List.length_drop]; omega) (Nat.le_refl _)]
theorem split_at {t : Tab} {i : Nat} {p : Pr} (e : t[i]? = some p) : t.take i ++ p :: t.drop (i + 1) = t := by
  obtain ⟨h, rfl⟩ := List.getElem?_eq_some_iff.mp e
  rw [List.getElem_cons_drop, List.take_append_drop]
theorem mkT_rows : ∀ (n : Nat) (t : Tab), t.length ≤ n → (mkT n t).rows = t := by
  intro n
  induction n with
  | zero =>
    intro t h
    have e : t = [] := List.eq_nil_of_length_eq_zero (Nat.le_zero.mp h)
    subst e
    rfl
  | succ n ih =>
    intro t h
    unfold mkT
    cases e : t[top t]? with
    | none =>
      simp only
      have : t = [] := by
        cases t with
        | nil => rfl
        | cons a r =>
          have hl := top_lt (t := a :: r) (by simp)
          rw [List.getElem?_eq_getElem hl] at e
          cases e
      rw [this]
      rfl
    | some p =>
      have hl : top t < t.length := (List.getElem?_eq_some_iff.mp e).1
      simp only
      show (mkT n (t.take (top t))).rows ++ (p.1, p.2) :: (mkT n (t.drop (top t + 1))).rows = t
      rw [ih (t.take (top t)) (by rw [List.length_take]; omega), ih (t.drop (top t + 1)) (by rw [List.length_drop]; omega)]
      exact split_at e
theorem tr_rows (t : Tab) : (tr t).rows = t := mkT_rows _ t (Nat.le_refl _)
theorem ht_rows : ∀ t : Tr, t.ht ≤ t.rows.length
  | .leaf => Nat.le_refl _
  | .node k r a b => by
    have h1 := ht_rows a
    have h2 := ht_rows b
    show max a.ht b.ht + 1 ≤ (a.rows ++ (k, r) :: b.rows).length
    rw [List.length_append, List.length_cons]
    omega
theorem Tr.c_rows (u : Ru) : ∀ t : Tr, (t.lk u).c = (t.rows.length : Int)
  | .leaf => rfl
  | .node k r a b => by
    have h1 := Tr.c_rows u a
    have h2 := Tr.c_rows u b
    show 1 + (a.lk u).c + (b.lk u).c = ((a.rows ++ (k, r) :: b.rows).length : Int)
    rw [List.length_append, List.length_cons, h1, h2]
    push_cast
    omega
theorem Tr.en_ok (u : Ru) : ∀ t : Tr, TabOk t.rows → LkOk (t.lk u) ∧ ∀ k r a b, t = .node k r a b → EnOk (Tr.en u k r a b)
  | .leaf, _ => ⟨emLk_ok u, fun _ _ _ _ e => nomatch e⟩
  | .node k r a b, h => by
    have ha : TabOk a.rows := fun p hp => h p (List.mem_append_left _ hp)
    have hb : TabOk b.rows := fun p hp => h p (List.mem_append_right _ (List.mem_cons_of_mem _ hp))
    have hk := h (k, r) (List.mem_append_right _ List.mem_cons_self)
    have hE : EnOk (Tr.en u k r a b) := ⟨hk.1, hk.2, (Tr.en_ok u a ha).1, (Tr.en_ok u b hb).1⟩
    exact ⟨mkLk_ok u hE, fun k' r' a' b' e => by cases e; exact hE⟩

/-! ### the walk, over any source -/
inductive Wd where
  | short
  | digest
  | sums
  | long
  deriving DecidableEq, Repr
/-- why a certificate is refused, and where -/
abbrev Er := Wd × Nat
/-- a source of nodes: parts, its state, a part's count, how a part is opened -/
structure Th where
  P : Type
  S : Type
  cnt : P → Int
  opn : S → P → Except Er (S × Str × List Int × P × P)
/-- add_next: the key, the most, a bound of the depth, the state, the part, what was found -/
def walk (T : Th) (key : Str) (most : Nat) : Nat → T.S → T.P → Tab → Option (Except Er (T.S × Tab))
  | 0, _, _, _ => none
  | n + 1, s, p, f =>
    if T.cnt p = 0 ∨ most ≤ f.length then some (.ok (s, f))
    else match T.opn s p with
      | .error e => some (.error e)
      | .ok (s1, k, r, a, b) =>
        if kb key k then
          match walk T key most n s1 a f with
          | none => none
          | some (.error e) => some (.error e)
          | some (.ok (s2, f2)) => walk T key most n s2 b (if f2.length < most then f2 ++ [(k, r)] else f2)
        else walk T key most n s1 b f
theorem walk_succ (T : Th) (key : Str) (most n : Nat) (s : T.S) (p : T.P) (f : Tab) : walk T key most (n + 1) s p f =
    if T.cnt p = 0 ∨ most ≤ f.length then some (.ok (s, f))
    else match T.opn s p with
      | .error e => some (.error e)
      | .ok (s1, k, r, a, b) =>
        if kb key k then
          match walk T key most n s1 a f with
          | none => none
          | some (.error e) => some (.error e)
          | some (.ok (s2, f2)) => walk T key most n s2 b (if f2.length < most then f2 ++ [(k, r)] else f2)
        else walk T key most n s1 b f := rfl
/-- over a known tree: the entries so far -/
abbrev Kn (u : Ru) : Th where
  P := Tr
  S := List En
  cnt := fun t => (t.lk u).c
  opn := fun s t => match t with
    | .leaf => .error (.short, 0)
    | .node k r a b => .ok (s ++ [Tr.en u k r a b], k, r, a, b)
/-- over given entries: how many are used -/
abbrev Gv (u : Ru) (cert : List En) : Th where
  P := Lk
  S := Nat
  cnt := fun l => l.c
  opn := fun n l => match cert[n]? with
    | none => .error (.short, n)
    | some e => if (mkLk u e).d ≠ l.d then .error (.digest, n) else if mkLk u e ≠ l then .error (.sums, n) else .ok (n + 1, e.key, e.row, e.l, e.r)
/-- what a reader says -/
inductive Told where
  | ans (f : Tab)
  | ref (w : Wd) (n : Nat)
  deriving DecidableEq, Repr
def readT (u : Ru) (head : Lk) (key : Str) (most : Nat) (cert : List En) : Told :=
  match walk (Gv u cert) key most (cert.length + 2) (0 : Nat) head [] with
  | none => .ref .short 0
  | some (.error (w, n)) => .ref w n
  | some (.ok (n, f)) => if (n : Nat) < cert.length then .ref .long n else .ans f
/-- the right certificate, and the rows -/
def askT (u : Ru) (t : Tr) (key : Str) (most : Nat) : List En × Tab :=
  match walk (Kn u) key most (t.ht + 1) ([] : List En) t [] with
  | some (.ok (s, f)) => (s, f)
  | _ => ([], [])

/-- entries are used, never more than there are; the depth that is needed -/
theorem gv_walk (u : Ru) (cert : List En) (key : Str) (most : Nat) : ∀ (n : Nat) (s : Nat) (p : Lk) (f : Tab), s ≤ cert.length → cert.length - s + 1 < n →
    ∃ r, walk (Gv u cert) key most n s p f = some r ∧ ∀ (s' : Nat) (f' : Tab), r = .ok (s', f') → s ≤ s' ∧ s' ≤ cert.length := by
  intro n
  induction n with
  | zero => intro s p f _ h; omega
  | succ n ih =>
    intro s p f hs hn
    rw [walk_succ]
    by_cases h0 : (Gv u cert).cnt p = 0 ∨ most ≤ f.length
    · rw [if_pos h0]
      exact ⟨_, rfl, fun s' f' e => by cases e; exact ⟨Nat.le_refl _, hs⟩⟩
    · rw [if_neg h0]
      cases ho : (Gv u cert).opn s p with
      | error e => exact ⟨_, rfl, fun s' f' e => nomatch e⟩
      | ok q =>
        obtain ⟨s1, k, r, a, b⟩ := q
        have h1 : s1 = s + 1 ∧ s < cert.length := by
          simp only [Gv] at ho
          cases hc : cert[s]? with
          | none => rw [hc] at ho; cases ho
          | some e =>
            rw [hc] at ho
            simp only at ho
            split at ho
            · cases ho
            · split at ho
              · cases ho
              · cases ho
                exact ⟨rfl, (List.getElem?_eq_some_iff.mp hc).1⟩
        obtain ⟨rfl, hlt⟩ := h1
        simp only
        by_cases hk : kb key k
        · rw [if_pos hk]
          obtain ⟨r1, e1, q1⟩ := ih (s + 1) a f (by omega) (by omega)
          rw [e1]
          cases r1 with
          | error e => exact ⟨_, rfl, fun s' f' e => nomatch e⟩
          | ok v =>
            obtain ⟨s2, f2⟩ := v
            obtain ⟨g1, g2⟩ := q1 s2 f2 rfl
            have g1' : s + 1 ≤ (s2 : Nat) := g1
            simp only
            obtain ⟨r2, e2, q2⟩ := ih s2 b (if f2.length < most then f2 ++ [(k, r)] else f2) g2 (by omega)
            refine ⟨r2, e2, fun s' f' e => ?_⟩
            obtain ⟨z1, z2⟩ := q2 s' f' e
            exact ⟨Nat.le_trans (Nat.le_of_succ_le g1') z1, z2⟩
        · rw [if_neg hk]
          obtain ⟨r2, e2, q2⟩ := ih (s + 1) b f (by omega) (by omega)
          refine ⟨r2, e2, fun s' f' e => ?_⟩
          obtain ⟨z1, z2⟩ := q2 s' f' e
          exact ⟨Nat.le_trans (Nat.le_succ _) z1, z2⟩
/-- never more rows than asked for -/
theorem walk_most (T : Th) (key : Str) (most : Nat) : ∀ (n : Nat) (s : T.S) (p : T.P) (f : Tab) (s' : T.S) (f' : Tab), f.length ≤ most → walk T key most n s p f = some (.ok (s', f')) → f'.length ≤ most := by
  intro n
  induction n with
  | zero => intro s p f s' f' _ h; cases h
  | succ n ih =>
    intro s p f s' f' hf h
    rw [walk_succ] at h
    split at h
    · cases h; exact hf
    · cases ho : T.opn s p with
      | error e => rw [ho] at h; cases h
      | ok q =>
        obtain ⟨s1, k, r, a, b⟩ := q
        rw [ho] at h
        simp only at h
        split at h
        · cases h1 : walk T key most n s1 a f with
          | none => rw [h1] at h; cases h
          | some v =>
            cases v with
            | error e => rw [h1] at h; cases h
            | ok v =>
              obtain ⟨s2, f2⟩ := v
              rw [h1] at h
              simp only at h
              have l2 := ih _ _ _ _ _ hf h1
              refine ih _ _ _ _ _ ?_ h
              split
              · rw [List.length_append, List.length_singleton]; omega
              · exact l2
        · exact ih _ _ _ _ _ hf h
/-- the rows come from the entries -/
theorem gv_from (u : Ru) (cert : List En) (hc : ∀ e ∈ cert, EnOk e) (key : Str) (most : Nat) : ∀ (n : Nat) (s : Nat) (p : Lk) (f : Tab) (s' : Nat) (f' : Tab), TabOk f → walk (Gv u cert) key most n s p f = some (.ok (s', f')) → TabOk f' := by
  intro n
  induction n with
  | zero => intro s p f s' f' _ h; cases h
  | succ n ih =>
    intro s p f s' f' hf h
    rw [walk_succ] at h
    split at h
    · cases h; exact hf
    · cases ho : (Gv u cert).opn s p with
      | error e => rw [ho] at h; cases h
      | ok q =>
        obtain ⟨s1, k, r, a, b⟩ := q
        have hkr : KeyOk k ∧ RowOk r := by
          simp only [Gv] at ho
          cases hce : cert[s]? with
          | none => rw [hce] at ho; cases ho
          | some e =>
            rw [hce] at ho
            simp only at ho
            split at ho
            · cases ho
            · split at ho
              · cases ho
              · cases ho
                have := hc e (List.mem_of_getElem? hce)
                exact ⟨this.key, this.row⟩
        rw [ho] at h
        simp only at h
        split at h
        · cases h1 : walk (Gv u cert) key most n s1 a f with
          | none => rw [h1] at h; cases h
          | some v =>
            cases v with
            | error e => rw [h1] at h; cases h
            | ok v =>
              obtain ⟨s2, f2⟩ := v
              rw [h1] at h
              simp only at h
              have l2 := ih _ _ _ _ _ hf h1
              refine ih _ _ _ _ _ ?_ h
              split
              · intro p hp
                rcases List.mem_append.mp hp with hp | hp
                · exact l2 p hp
                · obtain rfl := List.mem_singleton.mp hp
                  exact hkr
              · exact l2
        · exact ih _ _ _ _ _ hf h
/-- first so many of the rows behind a key -/
def behind (key : Str) (t : Tab) : Tab := t.filter fun p => decide (kb key p.1)
theorem up_parts {t s : Tab} {p : Pr} (h : Up (t ++ p :: s)) : Up t ∧ Up s ∧ (∀ q ∈ t, kb q.1 p.1) ∧ ∀ q ∈ s, kb p.1 q.1 := by
  unfold Up at h
  rw [List.pairwise_append, List.pairwise_cons] at h
  obtain ⟨h1, ⟨h2, h3⟩, h4⟩ := h
  exact ⟨h1, h3, fun q hq => h4 q hq p List.mem_cons_self, h2⟩
theorem behind_none {key : Str} {t : Tab} (h : ∀ q ∈ t, ¬ kb key q.1) : behind key t = [] := by
  unfold behind
  rw [List.filter_eq_nil_iff]
  intro q hq
  simpa using h q hq
/-- over a known tree: it ends, the entries, the rows -/
theorem kn_walk (u : Ru) (key : Str) (most : Nat) : ∀ (n : Nat) (t : Tr) (s : List En) (f : Tab), t.ht < n → Up t.rows → f.length ≤ most →
    ∃ s' , walk (Kn u) key most n s t f = some (.ok (s ++ s', (f ++ behind key t.rows).take most)) := by
  intro n
  induction n with
  | zero => intro t s f h; omega
  | succ n ih =>
    intro t s f hn hu hf
    rw [walk_succ]
    by_cases h0 : (Kn u).cnt t = 0 ∨ most ≤ f.length
    · rw [if_pos h0]
      refine ⟨[], ?_⟩
      rw [List.append_nil]
      congr 3
      rcases h0 with h0 | h0
      · have hc : (t.rows.length : Int) = 0 := by rw [← Tr.c_rows u]; exact h0
        have : t.rows = [] := List.eq_nil_of_length_eq_zero (by omega)
        rw [this]
        show f = (f ++ []).take most
        rw [List.append_nil, List.take_of_length_le hf]
      · have e : f.length = most := by omega
        rw [List.take_append_of_le_length (by omega), List.take_of_length_le (by omega)]
    · rw [if_neg h0]
      cases t with
      | leaf => exact absurd (.inl rfl) h0
      | node k r a b =>
        have hlt : f.length < most := by
          have := fun z => h0 (.inr z)
          omega
        obtain ⟨ua, ub, ka, kb'⟩ := up_parts (t := a.rows) (s := b.rows) (p := (k, r)) hu
        have hh : max a.ht b.ht + 1 < n + 1 := hn
        have ba : a.ht < n := by omega
        have bb : b.ht < n := by omega
        simp only [show (Kn u).opn s (Tr.node k r a b) = .ok (s ++ [Tr.en u k r a b], k, r, a, b) from rfl]
        have hrw : (Tr.node k r a b).rows = a.rows ++ (k, r) :: b.rows := rfl
        rw [hrw]
        have hb : behind key (a.rows ++ (k, r) :: b.rows) = behind key a.rows ++ behind key ((k, r) :: b.rows) := List.filter_append ..
        by_cases hk : kb key k
        · rw [if_pos hk]
          obtain ⟨s1, e1⟩ := ih a (s ++ [Tr.en u k r a b]) f ba ua hf
          rw [e1]
          simp only
          have hb2 : behind key ((k, r) :: b.rows) = (k, r) :: behind key b.rows := by
            unfold behind
            rw [List.filter_cons_of_pos (by simpa using hk)]
          have hl : ((f ++ behind key a.rows).take most).length ≤ most := by rw [List.length_take]; omega
          rw [hb, hb2]
          by_cases hm : ((f ++ behind key a.rows).take most).length < most
          · rw [if_pos hm]
            have et : (f ++ behind key a.rows).take most = f ++ behind key a.rows := by
              rw [List.length_take] at hm
              exact List.take_of_length_le (by omega)
            rw [et] at hm ⊢
            obtain ⟨s2, e2⟩ := ih b (s ++ [Tr.en u k r a b] ++ s1) (f ++ behind key a.rows ++ [(k, r)]) bb ub (by rw [List.length_append, List.length_singleton]; omega)
            rw [e2]
            refine ⟨[Tr.en u k r a b] ++ s1 ++ s2, ?_⟩
            simp only [List.append_assoc, List.cons_append, List.nil_append]
          · rw [if_neg hm]
            obtain ⟨s2, e2⟩ := ih b (s ++ [Tr.en u k r a b] ++ s1) ((f ++ behind key a.rows).take most) bb ub hl
            rw [e2]
            refine ⟨[Tr.en u k r a b] ++ s1 ++ s2, ?_⟩
            have hge : most ≤ (f ++ behind key a.rows).length := by
              rw [List.length_take] at hm
              omega
            rw [← List.append_assoc f, List.take_append_of_le_length (l₁ := (f ++ behind key a.rows).take most) (by rw [List.length_take]; omega), List.take_take, Nat.min_self,
              List.take_append_of_le_length (l₁ := f ++ behind key a.rows) hge]
            simp only [List.append_assoc]
        · rw [if_neg hk]
          obtain ⟨s2, e2⟩ := ih b (s ++ [Tr.en u k r a b]) f bb ub hf
          rw [e2]
          refine ⟨[Tr.en u k r a b] ++ s2, ?_⟩
          have hna : behind key a.rows = [] := behind_none fun q hq z => hk (kb_trans z (ka q hq))
          have hb2 : behind key ((k, r) :: b.rows) = behind key b.rows := by
            unfold behind
            rw [List.filter_cons_of_neg (by simpa using hk)]
          rw [hb, hna, hb2, List.nil_append, List.append_assoc]
/-- the walk over the tree and the walk over its entries go together -/
theorem kn_gv (u : Ru) (key : Str) (most : Nat) : ∀ (n : Nat) (t : Tr) (s s' : List En) (f f' : Tab), walk (Kn u) key most n s t f = some (.ok (s', f')) →
    (∃ new, s' = s ++ new) ∧ ∀ cert post : List En, cert = s' ++ post → walk (Gv u cert) key most n s.length (t.lk u) f = some (.ok (s'.length, f')) := by
  intro n
  induction n with
  | zero => intro t s s' f f' h; cases h
  | succ n ih =>
    intro t s s' f f' h
    rw [walk_succ] at h
    by_cases h0 : (Kn u).cnt t = 0 ∨ most ≤ f.length
    · rw [if_pos h0] at h
      cases h
      refine ⟨⟨[], by simp⟩, fun cert post hc => ?_⟩
      rw [walk_succ]
      rw [if_pos (show (Gv u cert).cnt (t.lk u) = 0 ∨ most ≤ f.length from h0)]
    · rw [if_neg h0] at h
      cases t with
      | leaf => exact absurd (.inl rfl) h0
      | node k r a b =>
        simp only [show (Kn u).opn s (Tr.node k r a b) = .ok (s ++ [Tr.en u k r a b], k, r, a, b) from rfl] at h
        have opn : ∀ (cert post : List En), cert = s' ++ post → (∃ new, s' = s ++ [Tr.en u k r a b] ++ new) → (Gv u cert).opn s.length ((Tr.node k r a b).lk u) = .ok (s.length + 1, k, r, a.lk u, b.lk u) := by
          rintro cert post rfl ⟨new, rfl⟩
          have e1 : (s ++ [Tr.en u k r a b] ++ new ++ post)[s.length]? = some (Tr.en u k r a b) := by simp
          simp only [Gv]
          rw [e1]
          have e2 : mkLk u (Tr.en u k r a b) = (Tr.node k r a b).lk u := rfl
          simp only [e2, ne_eq, not_true, if_false]
          rfl
        by_cases hk : kb key k
        · rw [if_pos hk] at h
          cases h1 : walk (Kn u) key most n (s ++ [Tr.en u k r a b]) a f with
          | none => rw [h1] at h; cases h
          | some v =>
            cases v with
            | error e => rw [h1] at h; cases h
            | ok v =>
              obtain ⟨s2, f2⟩ := v
              rw [h1] at h
              simp only at h
              obtain ⟨⟨n1, en1⟩, g1⟩ := ih a _ s2 f f2 h1
              obtain ⟨⟨n2, en2⟩, g2⟩ := ih b s2 s' _ f' h
              have ex : ∃ new, s' = s ++ [Tr.en u k r a b] ++ new := ⟨n1 ++ n2, by rw [en2, en1, List.append_assoc]⟩
              refine ⟨⟨[Tr.en u k r a b] ++ (n1 ++ n2), by rw [en2, en1]; simp only [List.append_assoc]⟩, fun cert post hc => ?_⟩
              rw [walk_succ]
              rw [if_neg (show ¬ ((Gv u cert).cnt ((Tr.node k r a b).lk u) = 0 ∨ most ≤ f.length) from h0), opn cert post hc ex]
              simp only
              rw [if_pos hk]
              have z1 := g1 cert (n2 ++ post) (by rw [hc, en2, List.append_assoc])
              rw [List.length_append, List.length_singleton] at z1
              rw [z1]
              exact g2 cert post hc
        · rw [if_neg hk] at h
          obtain ⟨⟨n2, en2⟩, g2⟩ := ih b _ s' _ f' h
          have ex : ∃ new, s' = s ++ [Tr.en u k r a b] ++ new := ⟨n2, en2⟩
          refine ⟨⟨[Tr.en u k r a b] ++ n2, by rw [en2]; simp only [List.append_assoc]⟩, fun cert post hc => ?_⟩
          rw [walk_succ]
          rw [if_neg (show ¬ ((Gv u cert).cnt ((Tr.node k r a b).lk u) = 0 ∨ most ≤ f.length) from h0), opn cert post hc ex]
          simp only
          rw [if_neg hk]
          have z1 := g2 cert post hc
          rw [List.length_append, List.length_singleton] at z1
          exact z1
/-- more depth does no harm -/
theorem walk_mono (T : Th) (key : Str) (most : Nat) : ∀ (n m : Nat) (s : T.S) (p : T.P) (f : Tab) (r : Except Er (T.S × Tab)), n ≤ m → walk T key most n s p f = some r → walk T key most m s p f = some r := by
  intro n
  induction n with
  | zero => intro m s p f r _ h; cases h
  | succ n ih =>
    intro m s p f r hm h
    cases m with
    | zero => omega
    | succ m =>
      have hm' : n ≤ m := by omega
      rw [walk_succ] at h ⊢
      by_cases h0 : T.cnt p = 0 ∨ most ≤ f.length
      · rw [if_pos h0] at h ⊢
        exact h
      · rw [if_neg h0] at h ⊢
        cases ho : T.opn s p with
        | error e => rw [ho] at h; exact h
        | ok q =>
          obtain ⟨s1, k, rr, a, b⟩ := q
          rw [ho] at h
          simp only at h ⊢
          by_cases hk : kb key k
          · rw [if_pos hk] at h ⊢
            cases h1 : walk T key most n s1 a f with
            | none => rw [h1] at h; cases h
            | some v =>
              rw [ih m _ _ _ _ hm' h1]
              rw [h1] at h
              cases v with
              | error e => exact h
              | ok v =>
                obtain ⟨s2, f2⟩ := v
                exact ih m _ _ _ _ hm' h
          · rw [if_neg hk] at h ⊢
            exact ih m _ _ _ _ hm' h
end RR
end
section
set_option Elab.async false
set_option maxRecDepth 100000
set_option maxHeartbeats 4000000
/-! all(test for x in e), e a text or a tuple; the test may call. -/
namespace RR
open PySem PySem.Spec PyProof.Rows L2 GxR

/-- a text by its signs, or a tuple by its items -/
def SeqV (H : Hp) (v : V) (xs : List V) : Prop :=
  (∃ a : Str, v = .str a ∧ xs = a.cps.toList.map fun c => V.str ⟨#[c]⟩) ∨ ∃ p, v = .ref p ∧ H p = some (.tup xs)

/-- what the evaluation of the test may lean on -/
structure ElIn (X : Cx) (scope : Scope) (x : Str) (cenv : Env) (A' : Around) (u : Value) (s₂ : Shared) : Prop where
  scope : cenv.scope = scope
  glob : cenv.globals = mainGlobals
  hd : A'.handled = none
  dp : A'.depth ≤ X.A.depth + 1
  un : A'.units ≤ X.A.units + 8
  loc : ∃ m₂, s₂.heap.Ns cenv.locals m₂ ∧ m₂ x = some u
  base : ∀ b o, X.base.get? b = some o → s₂.heap.get? b = some o
  md : Mod X.K X.mg X.base
def ElOk (X : Cx) (scope : Scope) (x : Str) (elt : Expr) (okv : V → Prop) (pb : V → Bool) : Prop :=
  ∀ (cenv : Env) (A' : Around) (E' : Value → Shared → Prop) (v : V) (u : Value) (s₂ : Shared), ElIn X scope x cenv A' u s₂ → RelV v u → okv v →
    wpAny (model X.prog X.w) A' (eval elt cenv) (fun y s₃ => y = .bool (pb v) ∧ Keeps s₂ s₃) E' s₂

section
variable {X : Cx} {pins : List (Addr × Obj)} {σ : L2.St} {H : Hp} {s : Shared}
theorem iter_seq {A : Around} {E : Value → Shared → Prop} {v : V} {u : Value} {xs : List V} {Q : Value → Shared → Prop} (I : Inv X pins σ H s) (r : RelV v u) (hv : SeqV H v xs)
    (hQ : ∀ (o : Obj) (fp : List Addr) (P0 : Nat → Value → Prop) (St : Nat → Heap → Prop), (∀ A' : Around, A'.handled = none → Walks X.prog X.w A' s.heap.objs.size fp [s.heap.objs.size] xs.length P0 St) → St 0 (s.heap.push o) →
      (∀ b ∈ fp, b = s.heap.objs.size ∨ ∃ ys, H b = some (.tup ys)) → (∀ i y, P0 i y → ∃ z, xs[i]? = some z ∧ RelV z y) → Q (.ref s.heap.objs.size) { s with heap := s.heap.push o }) :
    wpAny (model X.prog X.w) A (pyIter u) Q E s := by
  rcases hv with ⟨a, rfl, rfl⟩ | ⟨p, rfl, hp⟩
  · obtain ⟨t, rfl⟩ := r
    refine wpAny_pyIter_str fun o St W hst => ?_
    have hn : (a.cps.toList.map fun c => V.str ⟨#[c]⟩).length = a.cps.size := by rw [List.length_map, Array.length_toList]
    refine hQ o [s.heap.objs.size] (SignAt a) St (fun A' hA => by rw [hn]; exact W A' hA) hst (fun b hb => .inl (by simpa using hb)) fun i y hy => ?_
    obtain ⟨c, t', hc, rfl⟩ := hy
    refine ⟨.str ⟨#[c]⟩, ?_, t', rfl⟩
    rw [List.getElem?_map, Array.getElem?_toList, hc]
    rfl
  · obtain rfl : u = Value.ref p := r
    obtain ⟨its, rv, ⟨ob, ho, hc, n, hd⟩, hz⟩ := I.tuple (SqT.of hp)
    have hpl : p < s.heap.objs.size := Heap.lt_size ho
    have hne : p ≠ s.heap.objs.size := Nat.ne_of_lt hpl
    have ht : s.heap.IsTuple p its.toArray := ⟨ob, ho, hc, n, hd⟩
    refine wpAny_pyIter_tuple ht ?_
    have hn : xs.length = its.toArray.size := by rw [List.size_toArray, rv.length]
    refine hQ _ [s.heap.objs.size, p] (fun i v => its.toArray[i]? = some v) (fun i h => h.IsTupleIter s.heap.objs.size p i ∧ h.IsTuple p its.toArray) (fun A' hA => by rw [hn]; exact Walks.tuple hA s.heap.objs.size p hne its.toArray)
      ⟨⟨_, Heap.get?_push_size _ rfl, rfl, rfl⟩, ht.at fun o e => Heap.get?_push_of_some _ e⟩ (fun b hb => ?_) fun i y hy => ?_
    · rcases List.mem_cons.mp hb with e | hb
      · exact .inl e
      · obtain rfl := List.mem_singleton.mp hb
        exact .inr ⟨xs, hp⟩
    · have hy' : its[i]? = some y := by simpa using hy
      have hl : i < xs.length := by
        rw [rv.length]
        exact (List.getElem?_eq_some_iff.mp hy').1
      obtain ⟨u', e1, r1⟩ := rv.get (i := i) (x := xs[i]) (List.getElem?_eq_getElem hl)
      rw [hy'] at e1
      cases e1
      exact ⟨xs[i], List.getElem?_eq_getElem hl, r1⟩
/-- the generator g, ready to be walked, in the state s5; its truths bs; H1: what was held before -/
def ReadyB (X : Cx) (pins : List (Addr × Obj)) (σ : L2.St) (H1 : Hp) (P : Addr) (bs : List Bool) (g : Addr) (s5 : Shared) : Prop :=
  ∃ (fp wr : List Addr) (G : Array GenState → Array GenState → Prop) (F : Nat → Value → Prop) (St : Nat → Shared → Prop),
    WalksS X.prog X.w X.A.in1 g fp wr G bs.length F St ∧ St 0 s5 ∧ TruthOf X.prog X.w X.A.in1 F (fun j => bs.getD j false) ∧
    ∀ s', Moved wr G s5 s' → ∃ H2, Tabbed P H1 H2 ∧ Inv X pins σ H2 s'
theorem gen_seq {c P : Addr} {elt iter : Expr} {x : Str} {px gpos : Pos} {scope : Scope} {okv : V → Prop} {pb : V → Bool} {te : TE} {k : Nat} {Q' : Value → Shared → Prop} {R : List V → Hp → Prop}
    (hr : Room k X.A) (TB : GxR.TabB X.base X.mg c P) (hcode : X.env.code = .ref c) (S : GenS X.env scope x) (hi : PE X iter te) (hel : ElOk X scope x elt okv pb)
    (hs : ∀ v, genFold iter X.env v = pure v) (I : Inv X pins σ H s) (h : te σ H fun v H1 => ∃ xs : List V, SeqV H1 v xs ∧ (∀ y ∈ xs, okv y) ∧ TabG H1 P ∧ R xs H1)
    (hQ : ∀ xs H1 g s5, R xs H1 → ReadyB X pins σ H1 P (xs.map pb) g s5 → Q' (.ref g) s5) :
    wpAny (model X.prog X.w) X.A (eval (.GeneratorExp elt [⟨.Name x px, iter, [], 0⟩] scope gpos) X.env) Q' X.xe s := by
  refine wpAny_GeneratorExp_walksQD hr.hd S.co (closure_ok S.free) S.cell S.dot S.loc S.kind (by have := hr.dp; omega) ?_ hs
  refine thn (hi.run pins s σ H _ I h) fun xv s1 ⟨v, H1, I1, r1, q1⟩ => ?_
  obtain ⟨xs, hsq, hokv, ⟨ps, hP, ht⟩, q1⟩ := q1
  refine iter_seq I1 r1 hsq fun o fp P0 St W hst hfp hP0 => ?_
  have hPs : s1.heap.get? P = some { cls := .none, data := .fields ps } := I1.hok P _ hP
  have hPlt : P < s1.heap.objs.size := Heap.lt_size hPs
  have hP2 : (s1.heap.push o).get? P = some { cls := .none, data := .fields ps } := Heap.get?_push_of_some _ hPs
  have cd : PySem.W.CodeHd (s1.heap.push o) c P := TB.code.keeps fun b u e => Heap.get?_push_of_some _ (I1.bk b u e)
  have lim2 : (s1.heap.push o).NoLimit := I1.nolimit.push o
  have fpP : ∀ b ∈ fp, b ≠ P := fun b hb z => by
    rcases hfp b hb with e | ⟨ys, e⟩
    · exact Nat.ne_of_lt hPlt (z.symm.trans e)
    · rw [z, hP] at e
      cases e
  have cont : ∀ (code : Value) (h3 : Heap) (tk : Nat) (ps' : Array Value), Heap.ExtBut P (s1.heap.push o) h3 → (s1.heap.push o).objs.size ≤ h3.objs.size → h3.get? P = some { cls := .none, data := .fields ps' } → (∃ more, ps' = ps ++ more) → TriplesOk ps'.toList →
      wpAny (model X.prog X.w) X.A (builtinsFor X.env.globals X.env.builtins) (fun bi s₄ =>
        ∃ Ia fp wr n₀ Pf St₀ pz F, Value.ref s1.heap.objs.size = .ref Ia ∧ (∀ A' : Around, A'.handled = none → Walks X.prog X.w A' Ia fp wr n₀ Pf St₀) ∧ St₀ 0 s₄.heap ∧ (∀ b ∈ fp, b < s₄.heap.objs.size) ∧ s₄.heap.NoLimit ∧ cStatics ∉ wr ∧
          (∀ href : Heap, (∀ b o, s₄.heap.get? b = some o → href.get? b = some o) →
            QuietGenD X.prog X.w (genEnv scope (cloFrom X.env.cells scope.names []) s₄.heap.objs.size code bi X.env) x [] elt (List.range s₄.heap.objs.size) wr Pf pz F href (X.A.depth + 1) (X.A.units + 8)) ∧
          (∀ a h₅ tk gs, gs.bare = true → s₄.heap.objs.size < a → h₅.objs.size = a + 1 → (∀ b o, s₄.heap.get? b = some o → h₅.get? b = some o) →
            WalksS X.prog X.w X.A.in4 a (a :: s₄.heap.objs.size :: List.range s₄.heap.objs.size) (s₄.heap.objs.size :: wr) (GenOnlyQ s₄.gens.size) (passing pz n₀ 0).length
              (fun j y => ∃ i, (passing pz n₀ 0)[j]? = some i ∧ F i y) (GenAt X.prog X.w X.A.in4 a s₄.gens.size s₄.heap.objs.size (List.range s₄.heap.objs.size) wr pz n₀ F) →
            GenAt X.prog X.w X.A.in4 a s₄.gens.size s₄.heap.objs.size (List.range s₄.heap.objs.size) wr pz n₀ F 0 { s₄ with gens := s₄.gens.push gs, toks := tk, heap := h₅ } →
            Q' (.ref a) { s₄ with gens := s₄.gens.push gs, toks := tk, heap := h₅ })) X.xe { s1 with heap := h3, toks := tk } := by
    intro code h3 tk ps' hx hsz hP3 hmore ht3
    obtain ⟨bm, ob, e1, e2, e3, e4, e5, e6, e7, e8⟩ := TB.bm
    have hcP : cStatics ≠ P := fun e => by
      obtain ⟨_, hns, _⟩ := I1.nolimit
      obtain ⟨o', es, ep, ho, hd, _⟩ := hns
      rw [e, hPs] at ho
      cases ho
      cases hd
    have hcl : cStatics < s1.heap.objs.size := let ⟨_, hns, _⟩ := I1.nolimit; hns.lt
    have sz2 : (s1.heap.push o).objs.size = s1.heap.objs.size + 1 := Heap.size_push ..
    have lt_hs : s1.heap.objs.size < h3.objs.size := Nat.lt_of_lt_of_le (by rw [sz2]; exact Nat.lt_succ_self _) hsz
    have keep3 : ∀ b u, b ≠ P → s1.heap.get? b = some u → h3.get? b = some u := fun b u hb e => hx b u hb (Heap.get?_push_of_some _ e)
    refine wpAny_builtinsFor (m := X.mg) (by rw [I1.ok.glob]; exact ((I1.mod.glob.keeps I1.bk).push o).extBut hx TB.gP) e1 e2 (keep3 _ _ e4 (I1.bk _ _ e5)) e6 e7 e8 ?_
    refine ⟨s1.heap.objs.size, fp, [s1.heap.objs.size], xs.length, P0, St, (fun _ => true), (fun i y => ∃ b, (xs.map pb)[i]? = some b ∧ y = .bool b), rfl, W, ?_, ?_, lim2.extBut hx hcP, ?_, ?_, ?_⟩
    · exact (W X.A hr.hd).frame _ _ _ hst fun b hb u e => hx b u (fpP b hb) e
    · intro b hb
      show b < h3.objs.size
      rcases hfp b hb with z | ⟨ys, z⟩
      · rw [z]
        exact lt_hs
      · exact Nat.lt_trans (I1.hok.lt z) lt_hs
    · intro z
      rcases List.mem_cons.mp z with z | z
      · exact Nat.ne_of_lt hcl z
      · cases z
    · intro href hhref
      refine ⟨fun A' E' i v s₂ m₂ hA hD hU hPv hn hm hk => ?_, fun A' E' i v s₂ m₂ hA hD hU hPv hp hn hm hk => ?_⟩
      · simp only [List.forIn_nil]
        exact wpAny_pure ⟨rfl, keeps_refl _⟩
      · obtain ⟨z, hz, rz⟩ := hP0 i v hPv
        have J : ElIn X scope x (genEnv scope (cloFrom X.env.cells scope.names []) h3.objs.size code builtinsNs X.env) A' v s₂ := by
          refine ⟨rfl, I1.ok.glob, hA, hD, hU, ⟨m₂, hn, hm⟩, fun b ob eb => ?_, I1.mod⟩
          obtain ⟨g1, g2⟩ := I1.bs b ob eb
          have hbl := Heap.lt_size g1
          have hbP : b ≠ P := fun q => by
            rw [q, hP] at g2
            cases g2
          refine hk b (List.mem_range.mpr ?_) (fun q => ?_) ob (hhref b ob (keep3 b ob hbP g1))
          · exact Nat.lt_trans hbl lt_hs
          · have q' := List.mem_singleton.mp q
            rw [q'] at hbl
            exact Nat.lt_irrefl _ hbl
        exact wpAny_mono (hel _ A' E' z v s₂ J rz (hokv z (List.mem_of_getElem? hz))) (fun y s3 r => ⟨⟨pb z, by rw [List.getElem?_map, hz]; rfl, r.1⟩, r.2⟩) fun _ _ e => e
    · intro g h5 tk5 gs hgb hag hsz5 hk5 W5 hat
      simp only [GxR.passing_true, List.length_range] at W5
      have hlen : (xs.map pb).length = xs.length := List.length_map ..
      refine hQ xs H1 g _ q1 ⟨_, _, _, _, _, (by rw [hlen]; exact W5.in4_1), hat, ?_, fun s' hm => ?_⟩
      · intro j y sj Qj Ej hy hQj
        obtain ⟨i, hij, b, hb, rfl⟩ := hy
        obtain ⟨hj, ej⟩ := List.getElem?_eq_some_iff.mp hij
        rw [List.getElem_range] at ej
        subst ej
        have hQ2 : Qj ((xs.map pb).getD j false) sj := hQj
        rw [List.getD_eq_getElem?_getD, hb] at hQ2
        exact wpAny_truthy_bool hQ2
      · obtain ⟨more, em⟩ := hmore
        have nwr : ∀ b u, s1.heap.get? b = some u → b ∉ h3.objs.size :: [s1.heap.objs.size] := fun b u e hb => by
          have hl := Heap.lt_size e
          rcases List.mem_cons.mp hb with z | z
          · rw [z] at hl
            exact Nat.lt_irrefl _ (Nat.lt_trans hl lt_hs)
          · rcases List.mem_cons.mp z with z | z
            · rw [z] at hl
              exact Nat.lt_irrefl _ hl
            · cases z
        have J := inv_tab (more := more) (h' := s'.heap) (g' := s'.gens) (d' := s'.drawn) (t' := s'.toks) I1 hP (fun b u hb e => hm.heap b u (nwr b u e) (hk5 b u (keep3 b u hb e)))
          (by rw [← em]; exact hm.heap P _ (nwr P _ hPs) (hk5 P _ hP3)) (AllBare.movedS (I1.bare.push hgb) hm)
        rw [sh_eta s1 s' hm.os] at J
        refine ⟨upd H1 P (.tbl (ps ++ more)), ⟨⟨ps ++ more, upd_same, by rw [← em]; exact ht3⟩, fun b hb => upd_ne hb⟩, J⟩
  refine ⟨lim2, ?_⟩
  cases hf : codeAmong gpos ps.toList with
  | none =>
    refine wpAny_genexprCodeX hcode (cd.code hP2 ht) (cd.tab hP2) hf fun c' h' tk hx hge hlt hco' _ htab' _ => ?_
    obtain ⟨o1, vs, f1, tf, fl, tg, inF, tx, tt, op, _, _, _, _, _, _, _, _, _, htr, _⟩ := hco'
    exact cont _ h' tk _ hx (Nat.le_trans hge (Nat.le_of_lt hlt)) htab'.2 ⟨_, rfl⟩ htr
  | some cv =>
    refine wpAny_genexprCode_hit hcode (cd.code hP2 ht) hf ?_
    exact cont cv (s1.heap.push o) s1.toks ps (Heap.ExtBut.refl _ _) (Nat.le_refl _) hP2 ⟨#[], by simp⟩ ht
/-- all(test for x in e) -/
def tAllV (P : Addr) (okv : V → Prop) (pb : V → Bool) (te : TE) : TE := fun σ H Q => te σ H fun v H1 => ∃ xs : List V, SeqV H1 v xs ∧ (∀ y ∈ xs, okv y) ∧ TabG H1 P ∧ ∀ H2, Tabbed P H1 H2 → Q (.bl (xs.all pb)) H2
theorem all_getD (bs : List Bool) : (List.range bs.length).all (fun j => bs.getD j false) = bs.all id := by
  rw [Bool.eq_iff_iff, List.all_eq_true, List.all_eq_true]
  constructor
  · intro h b hb
    obtain ⟨j, hj, e⟩ := List.getElem_of_mem hb
    have q := h j (List.mem_range.mpr hj)
    rw [List.getD_eq_getElem?_getD, List.getElem?_eq_getElem hj, e] at q
    exact q
  · intro h j hj
    have hj' := List.mem_range.mp hj
    rw [List.getD_eq_getElem?_getD, List.getElem?_eq_getElem hj']
    exact h _ (List.getElem_mem hj')
theorem pe_allV {c P : Addr} {elt iter : Expr} {x : Str} {px p pos gpos : Pos} {scope : Scope} {okv : V → Prop} {pb : V → Bool} {te : TE} {k : Nat}
    (hr : Room k X.A) (hg : Gl X "all") (hm : X.mg "all" = none) (hb : bootBuiltins "all" = some (.builtin "all")) (TB : GxR.TabB X.base X.mg c P) (hcode : X.env.code = .ref c) (S : GenS X.env scope x) (hi : PE X iter te) (hel : ElOk X scope x elt okv pb)
    (hs : ∀ v, genFold iter X.env v = pure v)
    (he : starEach [.GeneratorExp elt [⟨.Name x px, iter, [], 0⟩] scope gpos] X.env = (false, eval (.GeneratorExp elt [⟨.Name x px, iter, [], 0⟩] scope gpos) X.env) :: starEach [] X.env := by rfl) :
    PE X (.Call (.Name "all" p) [.GeneratorExp elt [⟨.Name x px, iter, [], 0⟩] scope gpos] [] pos) (tAllV P okv pb te) := by
  refine ⟨fun pins s σ H Q I h => ?_⟩
  refine wpAny_Call_Name_kw (ld_blt I hg hm hb ?_)
  refine PyProof.Rows.callWith_builtin1 ?_ he (by rfl)
  rw [he]
  show wpAny _ _ (spliced ((false, eval (.GeneratorExp elt [⟨.Name x px, iter, [], 0⟩] scope gpos) X.env) :: backTo pos (starEach [] X.env))) _ _ s
  refine Calls.spliced_cons (gen_seq (R := fun xs H1 => ∀ H2, Tabbed P H1 H2 → Q (.bl (xs.all pb)) H2) hr TB hcode S hi hel hs I h fun xs H1 g s5 hR hG => ?_)
  obtain ⟨fp, wr, G, F, St, W, hst, htr, hI⟩ := hG
  refine Calls.spliced_nil ?_
  refine call_all_walkS (W.self 0 _ _ _ hst ⟨g, fp, wr, G, _, F, St, _, rfl, W, hst, htr, fun s' hmv => ?_⟩)
  obtain ⟨H2, hT, J⟩ := hI s' hmv
  refine ⟨.bl _, H2, J, rfl, ?_⟩
  rw [all_getD, List.all_map]
  exact hR H2 hT
end
end RR
end
section
set_option Elab.async false
set_option maxRecDepth 100000
set_option maxHeartbeats 4000000
/-! A method whose body begins with super().__init__(..): the base is an own class, or ValueError. -/
namespace RR
open PySem PySem.Spec PyProof.Rows L2
open PySem.W (envX fnX)

/-- a def of a class's body that names super: its class at D -/
structure FunS (P : Program) (K : PySem.W.Frag) (x qual : Str) (params : Arguments) (body : List Stmt) (scope : Scope) (D f : Addr) (fd : FuncData) : Prop where
  ex : ∃ (oc kV doc pm ct : Value) (od an : Option Addr) (osl : Array (Option Value)) (cda cc : Addr),
    fd = fnX x qual params body scope [("__class__", cc)] .none kV doc pm an (.ref cda) ct ∧ K.lookup f = some ⟨oc, od, .func fd, osl⟩ ∧ PySem.W.codeIn K (.ref cda) qual = true ∧
    (∃ cl cld csl, K.lookup cc = some ⟨cl, cld, .cell (some (.ref D)), csl⟩) ∧
    ∃ ccl cdd vs ccs file tf, K.lookup cda = some ⟨ccl, cdd, .fields vs, ccs⟩ ∧ vs[2]? = some (.str file tf) ∧ ((P.main.file : Str) == file) = true
  kp : PySem.W.keepIn K (.ref f) = true
structure ScS (N ps : List Str) (sc : Scope) : Prop where
  kind : sc.kind = .function
  co : sc.isCoroutine = false
  gen : sc.isGenerator = false
  nd : N.Nodup
  pre : N.take ps.length = ps
  par : ∀ x ∈ ps, sc.names.lookup x = some .local
  noc : ∀ y ∈ sc.names, y.2 ≠ .cell
  fre : ∀ y ∈ sc.names, y.2 = .free → y.1 = ("__class__" : Str)
  su : sc.names.lookup ("super" : Str) = some .globalImplicit
  cl : sc.names.lookup ("__class__" : Str) = some .free
  nn : ("__class__" : Str) ∉ N

def cxS (CX : CXT) (P : Program) (w : World) (K : PySem.W.Frag) (mg : Str → Option Value) (base : Heap) (N : List Str) (env : Env) (A : Around) (outer : List Env) (s : Shared) (H : Hp) (E : XK) : Cx where
  prog := P
  w := w
  K := K
  mg := mg
  base := base
  A := A.deeper env
  N := N
  s_0 := s
  H_0 := H
  env := env
  outer := outer
  stack := env :: outer
  ex := []
  calm := true
  fn := fun _ => false
  pn := []
  xe := fun e s' => wpAny (model P w) (A.deeper env) (leaving env e) (fun _ s'' => CX outer H s E e s'') (fun e' s'' => CX outer H s E e' s'') s'

theorem lookup_nd {α β : Type} [BEq α] [LawfulBEq α] : ∀ {l : List (α × β)} {k : α} {v : β}, (l.map (·.1)).Nodup → (k, v) ∈ l → l.lookup k = some v
  | [], _, _, _, h => by cases h
  | (a, b) :: r, k, v, hn, h => by
    rw [List.map_cons, List.nodup_cons] at hn
    rcases List.mem_cons.mp h with e | h
    · cases e
      simp [List.lookup]
    · have ne : k ≠ a := fun q => hn.1 (by rw [← q]; exact List.mem_map.mpr ⟨(k, v), h, rfl⟩)
      have e : (k == a) = false := by simpa using ne
      simp only [List.lookup, e]
      exact lookup_nd hn.2 h
theorem zip_lookup {ps : List Str} {us : List Value} {i : Nat} {y : Str} {u : Value} (hn : ps.Nodup) (hl : us.length = ps.length) (hp : ps[i]? = some y) (hu : us[i]? = some u) : (ps.zip us).reverse.lookup y = some u := by
  refine lookup_nd ?_ ?_
  · rw [List.map_reverse]
    have e : (ps.zip us).map (·.1) = ps := by
      have := List.map_fst_zip (l₁ := ps) (l₂ := us) (by omega)
      exact this
    rw [e]
    exact (List.reverse_perm ps).symm.nodup hn
  · rw [List.mem_reverse]
    refine List.mem_iff_getElem?.mpr ⟨i, ?_⟩
    rw [List.getElem?_zip_eq_some]
    exact ⟨hp, hu⟩

section
variable {P : Program} {w : World} {K : PySem.W.Frag} {mg : Str → Option Value} {base : Heap} {CX : CXT}
theorem inv_startS {N ps : List Str} {qual : Str} {scope : Scope} {f cc D : Addr} {cd : Value} {A : Around} {outer : List Env} {s : Shared} {H : Hp} {E : XK} {us : List Value} {vs : List V} {h₁ : Heap} {tk : Nat}
    (S : ScS N ps scope) (hcc : ∃ cl cld csl, K.lookup cc = some ⟨cl, cld, .cell (some (.ref D)), csl⟩) (hd : A.handled = none) (e0 : Env0 P w K mg base A outer s H) (hl : vs.length = ps.length) (r : Vals vs us)
    (hns : h₁.Ns s.heap.objs.size fun y => (ps.zip us).reverse.lookup y) (kp : ∀ b o, s.heap.get? b = some o → h₁.get? b = some o) :
    Inv (cxS CX P w K mg base N (envX qual scope s.heap.objs.size f cd [("__class__", cc)]) A outer s H E) [] (L2.start N vs) H { s with heap := h₁, toks := tk } := by
  have hpl : ps.length ≤ N.length := by have := congrArg List.length S.pre; rw [List.length_take] at this; omega
  have noA : ∀ b : Addr, b ∉ (cxS CX P w K mg base N (envX qual scope s.heap.objs.size f cd [("__class__", cc)]) A outer s H E).ex := fun b z => absurd (show b ∈ ([] : List Addr) from z) (by simp)
  have only : ∀ {y : Str} {c : Addr}, ([(("__class__" : Str), cc)] : List (Str × Addr)).lookup y = some c → c = cc := fun {y c} e => by
    simp only [List.lookup] at e
    split at e
    · exact (Option.some.inj e).symm
    · cases e
  obtain ⟨cl, cld, csl, hk⟩ := hcc
  have ccB : base.get? cc = some ⟨cl, cld, .cell (some (.ref D)), csl⟩ := e0.mod.kin cc _ hk
  obtain ⟨ccS, ccH⟩ := e0.bs cc _ ccB
  refine ⟨⟨e0.mod, S.kind, rfl, rfl, Nat.le_refl _, fun y z c h1 h2 => ?_, fun y hy => ?_, fun y c hf _ => ?_, fun _ => hd, Around.frames_deeper e0.frames, .inr ⟨rfl, rfl⟩, fun b z => absurd z (noA b), e0.bs, e0.bsz, fun b _ _ => noA b, fun b z => absurd z (noA b), e0.funs, e0.frf⟩,
    rfl, e0.bare, Un.kept kp, ⟨_, hns, fun i y v h1 h2 h3 => ?_⟩, fun y c h => ?_, e0.hok.fresh (Nat.le_refl _), fun y c h => ?_, fun p hp => absurd (show p ∈ ([] : List (Addr × Obj)) from hp) (by simp), e0.hok.kept kp, ?_⟩
  · have g1 : ∀ {y : Str}, ([(("__class__" : Str), cc)] : List (Str × Addr)).lookup y = some c → y = ("__class__" : Str) := fun {y} e => by
      simp only [List.lookup] at e
      split at e
      · rename_i q
        exact beq_iff_eq.mp q
      · cases e
    rw [g1 h1, g1 h2]
  · have hy' : scope.names.lookup y = some .cell ∨ scope.names.lookup y = some .free := hy
    rcases hy' with q | q
    · exact absurd rfl (S.noc _ (PySem.mem_of_lookup q))
    · have e := S.fre _ (PySem.mem_of_lookup q) rfl
      have e' : y = ("__class__" : Str) := e
      subst e'
      exact ⟨cc, by simp [List.lookup, envX, cxS]⟩
  · have hf' : false = true := hf
    cases hf'
  · have hi : i < vs.length := by
      unfold L2.start at h2
      by_cases hi : i < vs.length
      · exact hi
      · rw [List.getElem?_append_right (by simpa using hi)] at h2
        rw [List.getElem?_replicate] at h2
        split at h2 <;> cases h2
    have ha : vs[i]? = some v := by
      unfold L2.start at h2
      rw [List.getElem?_append_left (by simpa using hi), List.getElem?_map] at h2
      cases e : vs[i]? with
      | none => rw [e] at h2; cases h2
      | some a => rw [e] at h2; cases h2; rfl
    obtain ⟨u, hu, rv⟩ := r.get ha
    have hp : ps[i]? = some y := by
      have h1' : N[i]? = some y := h1
      rw [← S.pre, List.getElem?_take_of_lt (by omega)]; exact h1'
    have ndP : ps.Nodup := by rw [← S.pre]; exact S.nd.sublist (List.take_sublist _ _)
    exact ⟨u, rv, .inl ⟨S.par y (List.mem_of_getElem? hp), zip_lookup ndP (by rw [← r.length, hl]) hp hu⟩⟩
  · rw [only h]
    exact ⟨_, _, kp _ _ ccS, rfl⟩
  · rw [only h]
    exact ccH
  · unfold L2.start
    show _ = N.length
    rw [List.length_append, List.length_map, List.length_replicate]
    omega

/-- what of the text super() asks, for an instance of the class at C in the class D's def -/
structure SupA (K : PySem.W.Frag) (mg : Str → Option Value) (P : Program) (C D : Addr) : Prop where
  clsD : ∃ cd, PySem.W.clsIn K D = some cd
  sub : PySem.W.mroIn K C (.ref D) = some true
  mgS : mg "super" = none
  top : (P.main.scope.names.lookup ("super" : Str)).isSome = false
  opq : PySem.W.nsIn K cStatics "thirdparty.any" = some none
section
variable {X : Cx} {pins : List (Addr × Obj)} {σ : L2.St} {H : Hp} {s : Shared}
/-- super() of an object at x (whatever it is) -/
theorem sup_node {N ps : List Str} {body : List Stmt} {x : Addr} {ox : Obj} {odx : Option Obj} {C D f cc cda : Addr} {qual : Str} {scope : Scope} {L : Addr} {p0 p1 : Pos} {attr : Str} {whole : Sem Value} {fd : FuncData} {ar : Arg} {Q : Value → Shared → Prop} {oc : Value} {od : Option Addr} {osl : Array (Option Value)}
    (I : Inv X pins σ H s) (he : X.env = envX qual scope L f (.ref cda) [("__class__", cc)]) (S : ScS N ps scope) (T : SupA X.K X.mg X.prog C D)
    (lk : X.K.lookup f = some ⟨oc, od, .func fd, osl⟩) (hp : (fd.params.posonlyargs ++ fd.params.args).head? = some ar) (hN : X.N[0]? = some ar.arg) (har : scope.names.lookup ar.arg = some .local) (hσ : σ[0]? = some (some (.ref x))) (J : PySem.W.InstAt s.heap x ox C odx)
    (hcc : ∃ cl cld csl, X.K.lookup cc = some ⟨cl, cld, .cell (some (.ref D)), csl⟩) (hcd : ∃ ccl cdd vs ccs file tf, X.K.lookup cda = some ⟨ccl, cdd, .fields vs, ccs⟩ ∧ vs[2]? = some (.str file tf) ∧ ((X.prog.main.file : Str) == file) = true)
    (hat : (attr == ("__class__" : Str)) = false)
    (h : ∀ so s', Inv X ((so, PySem.W.ks_superObj D x C) :: pins) σ H s' → s.heap.objs.size ≤ so → (∀ b o, s.heap.get? b = some o → s'.heap.get? b = some o) → Q (.ref so) s') :
    _root_.PySem.wpAt (model X.prog X.w) X.A (.func body X.env) (attributeBase (.Call (.Name "super" p0) [] [] p1) attr X.env whole) Q X.xe s := by
  obtain ⟨cdD, hD⟩ := T.clsD
  obtain ⟨ccl, cdd, vs, ccs, file, tf, hcode, hvs, hfile⟩ := hcd
  obtain ⟨cl, cld, csl, hcell⟩ := hcc
  have kX : X.K.In s.heap := I.kIn
  obtain ⟨m, hn, hloc⟩ := id I.loc
  obtain ⟨ux, rx, lx⟩ := hloc 0 ar.arg (.ref x) hN hσ (by rw [he]; exact .inl har)
  obtain rfl : ux = Value.ref x := rx
  have hm : m ar.arg = some (.ref x) := by
    rcases lx with ⟨_, q⟩ | ⟨q, _⟩
    · exact q
    · have q' : scope.names.lookup ar.arg = some .cell ∨ scope.names.lookup ar.arg = some .free := by rw [he] at q; exact q
      rw [har] at q'
      rcases q' with q' | q' <;> cases q'
  have hgl := I.mod.glob.keeps I.bk
  obtain ⟨mb, hb1, hb2⟩ := I.mod.blt
  obtain ⟨oD, hD1, hD2⟩ : ∃ oD, s.heap.get? D = some oD ∧ oD.data = .cls cdD := by
    unfold PySem.W.clsIn at hD
    split at hD
    · rename_i c d cd' sl ho
      cases hD
      exact ⟨_, kX _ _ ho, rfl⟩
    · cases hD
  have bk := I.bk
  obtain ⟨hh, g, d, t, os⟩ := s
  rw [he] at hn ⊢
  refine PySem.ks_wpAt_super_base (env := envX qual scope L f (.ref cda) [("__class__", cc)]) S.su S.cl hat rfl (kX _ _ lk) rfl hp rfl (kX _ _ hcode) rfl hvs hfile T.top ?_
  refine PySem.W.ks_loadName_global S.kind S.su (Calls.loadGlobal_builtin (env := envX qual scope L f (.ref cda) [("__class__", cc)]) hgl T.mgS (hb1.keeps bk) ((hb2 _ (by decide)).trans (by first | rfl | kernel_rfl | decide +kernel)) ⟨rfl, ?_⟩)
  refine wpAny_loadName_free S.kind S.cl rfl ⟨_, kX _ _ hcell, rfl⟩ ?_
  refine wpAny_loadName_local S.kind har hn hm ?_
  refine PySem.ks_wpAny_isType_cls hD1 hD2 ⟨rfl, ?_⟩
  refine PySem.ks_wpAny_call_super hD1 hD2 J.at_ J.cls (fun c e => ?_) (PySem.W.looks_mroIn kX T.sub) (fun h' e k => ?_)
  · have := J.no
    unfold PySem.W.notCls at this
    rw [e] at this
    exact Bool.noConfusion this
  · exact h _ _ (ClX.pin_new (h' := h') (t' := t) I k (Nat.le_refl _) e fun v z => nomatch z) (Nat.le_refl _) k

/-- the method that super() finds, bound -/
theorem sup_meth {x : Addr} {ox : Obj} {odx : Option Obj} {C D so g : Addr} {name : Str} {pl : Sem Bool} {Q : Value × List Value → Shared → Prop} {A : Around} {E : Value → Shared → Prop} (I : Inv X ((so, PySem.W.ks_superObj D x C) :: pins) σ H s) (J : PySem.W.InstAt s.heap x ox C odx) (T : SupA X.K X.mg X.prog C D)
    (hm : PySem.W.ks_superIn X.K C D name = some (some (.ref g))) (ht : PySem.W.typeIn X.K (.ref g) = some (.type "function")) (hn : (name == ("__class__" : Str)) = false)
    (h : ∀ q s', Inv X ((q, PySem.W.methodObj (.ref g) (.ref x)) :: pins) σ H s' → X.base.get? q = none → Q (.ref q, []) s') : wpAny (model X.prog X.w) A (getMethod (.ref so) name pl) Q E s := by
  have kX : X.K.In s.heap := I.kIn
  have hso := ClX.pin_at I
  have I0 := ClX.unpin I
  cases hc : PySem.W.clsIn X.K C with
  | none =>
    unfold PySem.W.ks_superIn at hm
    rw [hc] at hm
    cases hm
  | some cd =>
    unfold PySem.W.ks_superIn at hm
    rw [hc] at hm
    obtain ⟨fo, hof, hofc⟩ : ∃ fo, s.heap.get? g = some fo ∧ fo.cls = .type "function" := by
      have ht' : (X.K.lookup g).map (·.cls) = some (.type "function") := ht
      cases z : X.K.lookup g with
      | none => rw [z] at ht'; cases ht'
      | some fo => rw [z] at ht'; exact ⟨fo, kX _ _ z, Option.some.inj ht'⟩
    have hxC := PySem.W.ks_ne kX J hc
    have hb0 : X.base.get? s.heap.objs.size = none := ClX.base_none I0 (Nat.le_refl _)
    obtain ⟨hh, gg, d, t, os⟩ := s
    refine PySem.ks_wpAny_getMethod_super hso (PySem.W.looks_opaque kX T.opq) (l₀ := cd.mro) ?_ rfl kX hm hof hofc hxC hn ?_
    · exact fun A Q E s k q => wpAny_bind ((PySem.W.looks_clsIn kX hc) A _ E s k (wpAny_pure q))
    · exact h _ _ (ClX.pin_new (o := PySem.W.methodObj (.ref g) (.ref x)) (h' := hh.push (PySem.W.methodObj (.ref g) (.ref x))) (t' := t + 1) I0 (fun _ _ z => Heap.get?_push_of_some _ z) (Nat.le_refl _) (Heap.get?_push_size hh rfl) (fun v z => nomatch z)) hb0
end

/-- THE RULE: super().__init__(e, ..) of an own base class, then the rest -/
theorem fn_sup {N ps psg : List Str} {x qual : Str} {params : Arguments} {scope : Scope} {D f g : Addr} {fd fdg : FuncData} {j k : Nat} {sp spB : Sp} {p0 p1 p2 p3 p4 : Pos} {e : Expr} {es : List Expr} {rest : List Stmt} {ar : Arg}
    (F : FunS P K x qual params (.Expr (.Call (.Attribute (.Call (.Name "super" p0) [] [] p1) "__init__" p2) (e :: es) [] p3) p4 :: rest) scope D f fd) (S : ScS N ps scope) (T : SupA K mg P D D)
    (hp : (params.posonlyargs ++ params.args).head? = some ar) (hN : N[0]? = some ar.arg) (har : ar.arg ∈ ps)
    (G : FnOk P w K mg base CX0 j g fdg psg spB) (bg : Binds K fdg psg []) (fi : PySem.W.fnIn K g = true) (hm : PySem.W.ks_superIn K D D "__init__" = some (some (.ref g))) (ht : PySem.W.typeIn K (.ref g) = some (.type "function")) (hjk : j ≤ k)
    (len : ∀ vs H Q E, sp vs H Q E → vs.length = ps.length)
    (hbody : ∀ (cda cc : Addr) (A : Around) (outer : List Env) (s : Shared) (H : Hp) (vs : List V) (Q : VK) (E : XK), Room k (A.deeper (envX qual scope s.heap.objs.size f (.ref cda) [("__class__", cc)])) → sp vs H Q E →
      ∃ (x dx : Addr) (fs : List (Str × V)) (t : TA) (u : TS), vs[0]? = some (.ref x) ∧ H x = some (.ins D dx fs) ∧
        PA (cxS CX0 P w K mg base N (envX qual scope s.heap.objs.size f (.ref cda) [("__class__", cc)]) A outer s H E) (e :: es) t ∧ PSs (cxS CX0 P w K mg base N (envX qual scope s.heap.objs.size f (.ref cda) [("__class__", cc)]) A outer s H E) rest u ∧
        t (L2.start N vs) H fun ws H1 => spB (.ref x :: ws) H1 (fun _ H2 => u { nx := fun _ H' => Q .non H', rt := Q } (L2.start N vs) H2) E0)
    (hev : ∀ env, ∃ pl : Sem Bool, eval (.Call (.Attribute (.Call (.Name "super" p0) [] [] p1) "__init__" p2) (e :: es) [] p3) env = (do
      let ov ← attributeBase (.Call (.Name "super" p0) [] [] p1) "__init__" env (eval (.Call (.Name "super" p0) [] [] p1) env)
      standAt p2.atName
      let (f, first) ← holding [ov] (getMethod ov "__init__" pl)
      callWith p3 f first (backTo p3 (starEach (e :: es) env)) []) := by intro _; exact ⟨_, rfl⟩)
    (hes : ∀ env, starEach (e :: es) env = (false, eval e env) :: starEach es env := by intro _; rfl) (hpl : ∀ env, (backTo p3 (starEach es env)).any (·.1) = false := by intro _; rfl) :
    FnOk P w K mg base CX0 (k + 1) f fd ps sp := by
  obtain ⟨oc, kV, doc, pm, ct, od, an, osl, cda, cc, rfl, lk, hcdI, hcc, hcode⟩ := F.ex
  refine ⟨len, fun A outer s H args us vs Q E hr e0 hb r hsp => ?_⟩
  have hl := len _ _ _ _ hsp
  have KX : K.In s.heap := e0.mod.kin.keeps fun b o e => (e0.bs b o e).1
  have lim : s.heap.NoLimit := e0.mod.nolimit.keeps fun b o e => (e0.bs b o e).1
  refine PySem.ks_codeAny_call_defAt (fd := fnX x qual params _ scope [("__class__", cc)] .none kV doc pm an (.ref cda) ct) (binds := ps.zip us) hr.depth (KX _ _ lk) rfl lim (PySem.W.codeRec_of KX hcdI) rfl hb S.noc
    (fun y hy => S.par y.1 (List.of_mem_zip (show (y.1, y.2) ∈ ps.zip us from hy)).1) (fun h₁ hns kp => ?_) S.co S.gen S.kind
  have hr' : Room k (A.deeper (envX qual scope s.heap.objs.size f (.ref cda) [("__class__", cc)])) := hr.deeper _
  obtain ⟨xa, dx, fs, t, u, hv0, hx, hPA, hPS, hq⟩ := hbody cda cc A outer s H vs Q E hr' hsp
  have I : Inv (cxS CX0 P w K mg base N (envX qual scope s.heap.objs.size f (.ref cda) [("__class__", cc)]) A outer s H E) [] (L2.start N vs) H { s with heap := h₁, toks := s.toks + (ps.zip us).length } :=
    inv_startS S hcc hr.hd e0 hl r hns kp
  have hσ : (L2.start N vs)[0]? = some (some (.ref xa)) := by
    unfold L2.start
    have h0 : 0 < vs.length := (List.getElem?_eq_some_iff.mp hv0).1
    rw [List.getElem?_append_left (by simpa using h0), List.getElem?_map, hv0]
    rfl
  have fin : ∀ (fl : Flow) (s' : Shared), SP (cxS CX0 P w K mg base N (envX qual scope s.heap.objs.size f (.ref cda) [("__class__", cc)]) A outer s H E) [] { nx := fun _ H' => Q .non H', rt := Q } fl s' →
      CR CX0 outer P w H s Q E (.ok (.ret (match fl with | .ret v => v | _ => .none))) s' := fun fl s' hs => by
    cases fl with
    | ret u =>
      obtain ⟨v, σ', H', J, rv, q⟩ := hs
      exact ⟨v, H', J.os, J.bare, J.base, J.hok, rv, q⟩
    | next =>
      obtain ⟨σ', H', J, q⟩ := hs
      exact ⟨V.non, H', J.os, J.bare, J.base, J.hok, rfl, q⟩
    | brk =>
      obtain ⟨_, _, _, q⟩ := hs
      exact False.elim q
    | cont =>
      obtain ⟨_, _, _, q⟩ := hs
      exact False.elim q
  have J0 : ∀ {s' : Shared}, HOk P w H s'.heap → ∃ ox odx, PySem.W.InstAt s'.heap xa ox D odx := fun {s'} hok => by
    obtain ⟨mA, O, _⟩ := ins_get hok hx
    obtain ⟨od, J, _⟩ := O.look
    exact ⟨_, _, J⟩
  show _root_.PySem.wpAt _ _ _ (execs _ _) _ _ _
  obtain ⟨pl, hpl0⟩ := hev (envX qual scope s.heap.objs.size f (.ref cda) [("__class__", cc)])
  refine PySem.ks_wpAt_execs_cons (PySem.ks_wpAt_Expr_any (PySem.ks_wpAt_MethodCall (pl := pl) ?_ hpl0) I.quiet rfl)
  obtain ⟨ox, odx, J1⟩ := J0 I.hok
  refine sup_node (ps := ps) (fd := fnX x qual params (.Expr (.Call (.Attribute (.Call (.Name "super" p0) [] [] p1) "__init__" p2) (e :: es) [] p3) p4 :: rest) scope [("__class__", cc)] .none kV doc pm an (.ref cda) ct) I rfl S T lk hp hN (S.par _ har) hσ J1 hcc hcode (by decide) fun so s2 I2 hso hk2 => ?_
  obtain ⟨ox2, odx2, J2⟩ := J0 I2.hok
  refine sup_meth I2 J2 T hm ht (by decide) fun q s3 I3 hq0 => ?_
  refine ClX.callwith_cm I3 hq0 fi ?_ (hes _) (hpl _)
  refine thn (hPA.run p3 _ s3 _ H _ I3 hq) fun ws s4 ⟨vs4, H4, I4, rv4, q4⟩ => ⟨⟨ClX.pin_at I4, I4.kIn⟩, ?_⟩
  have GR : wpAny (model P w) (A.deeper (envX qual scope s.heap.objs.size f (.ref cda) [("__class__", cc)])) (call (.ref q) ws) (EP (cxS CX0 P w K mg base N (envX qual scope s.heap.objs.size f (.ref cda) [("__class__", cc)]) A outer s H E) ((q, PySem.W.methodObj (.ref g) (.ref xa)) :: []) (L2.start N vs)
      (fun _ H2 => u { nx := fun _ H' => Q .non H', rt := Q } (L2.start N vs) H2)) (cxS CX0 P w K mg base N (envX qual scope s.heap.objs.size f (.ref cda) [("__class__", cc)]) A outer s H E).xe s4 := by
    refine wpAny_call (PySem.W.method_call (ClX.pin_at I4) ?_)
    have r4 : Vals (V.ref xa :: vs4) (Value.ref xa :: ws) := .cons rfl rv4
    have hlg : (Value.ref xa :: ws ++ []).length = psg.length := by
      rw [List.append_nil, ← r4.length]
      exact G.len _ _ _ _ q4
    have hbg := bg s4 (Value.ref xa :: ws) I4.kIn hlg
    rw [List.append_nil] at hbg
    refine codeAny_mono (G.run _ _ s4 H4 ⟨Value.ref xa :: ws, []⟩ (Value.ref xa :: ws) (V.ref xa :: vs4) _ E0 (hr'.mono hjk) I4.env0 hbg r4 q4) fun rr s5 hq5 => ?_
    cases rr with
    | error e => exact (show False from hq5).elim
    | ok fl =>
      cases fl with
      | ret u => exact I4.after hq5
      | next => exact False.elim hq5
      | brk => exact False.elim hq5
      | cont => exact False.elim hq5
  refine thn GR fun uu s5 h5 => ?_
  obtain ⟨v5, H5, I5, r5, q5⟩ := ClX.unpinE h5
  refine wpAt_of_wpAny ?_
  exact wpAny_mono (hPS.run [] s5 (L2.start N vs) H5 _ I5 q5) (fun fl s' hs => fin fl s' hs) fun _ _ h => h
end
end RR
end
section
set_option Elab.async false
set_option maxRecDepth 100000
set_option maxHeartbeats 4000000
/-! super().__init__(e) in the __init__ of an own exception over ValueError. -/
namespace RR
open PySem PySem.Spec PyProof.Rows L2
open PySem.W (envX fnX)
section
variable {X : Cx} {pins : List (Addr × Obj)} {σ : L2.St} {H : Hp} {s : Shared}
/-- an exception's record, as InstAt -/
theorem exo_inst {P : Program} {w : World} {h : Heap} {a C : Addr} (hok : HOk P w H h) (e : H a = some (exo a C none)) : ∃ ox, PySem.W.InstAt h a ox C none := by
  obtain ⟨t1, ho⟩ := exo_at hok e
  exact ⟨_, ho, rfl, rfl, trivial⟩
theorem sup_methE {x : Addr} {C D so : Addr} {name : Str} {pl : Sem Bool} {Q : Value × List Value → Shared → Prop} {A : Around} {E : Value → Shared → Prop} {ox : Obj} {odx : Option Obj} (I : Inv X ((so, PySem.W.ks_superObj D x C) :: pins) σ H s) (J : PySem.W.InstAt s.heap x ox C odx) (T : SupA X.K X.mg X.prog C D)
    (hm : PySem.W.ks_superIn X.K C D name = some (some (.builtin "ValueError.__init__"))) (hB : PySem.W.subIn X.K (.ref C) (.type "ValueError") = some true) (hn : (name == ("__class__" : Str)) = false)
    (h : ∀ q s', Inv X ((q, PySem.W.kxs_mw "ValueError.__init__" x) :: pins) σ H s' → Q (.ref q, []) s') : wpAny (model X.prog X.w) A (getMethod (.ref so) name pl) Q E s := by
  have kX : X.K.In s.heap := I.kIn
  have hso := ClX.pin_at I
  have I0 := ClX.unpin I
  cases hc : PySem.W.clsIn X.K C with
  | none =>
    unfold PySem.W.ks_superIn at hm
    rw [hc] at hm
    cases hm
  | some cd =>
    unfold PySem.W.ks_superIn at hm
    rw [hc] at hm
    have hxC := PySem.W.ks_ne kX J hc
    have hI : PySem.W.Looks (model X.prog X.w) s.heap (isInstance (.ref x) (.type "ValueError")) true := J.type.andThen (PySem.W.looks_subIn kX hB)
    obtain ⟨hh, gg, d, t, os⟩ := s
    refine PySem.W.kxs_getMethod PySem.W.kxs_ValueError hso (PySem.W.looks_opaque kX T.opq) (l₀ := cd.mro) ?_ rfl kX hm hI hxC hn ?_
    · exact fun A Q E s k q => wpAny_bind ((PySem.W.looks_clsIn kX hc) A _ E s k (wpAny_pure q))
    · exact h _ _ (ClX.pin_new (o := PySem.W.kxs_mw "ValueError.__init__" x) (h' := hh.push (PySem.W.kxs_mw "ValueError.__init__" x)) (t' := t + 1) I0 (fun _ _ z => Heap.get?_push_of_some _ z) (Nat.le_refl _) (Heap.get?_push_size hh rfl) (fun v z => nomatch z))
/-- the bound built-in __init__, called -/
theorem call_mw {u a C : Addr} {rest : List Value} {Q : Value → Shared → Prop} {A : Around} {E : Value → Shared → Prop} (T : OexC X.K C) (I : Inv X ((u, PySem.W.kxs_mw "ValueError.__init__" a) :: pins) σ H s) (e : H a = some (exo a C none)) (hl : rest.length ≤ sizeLine)
    (h : ∀ s', Inv X pins σ H s' → Q .none s') : wpAny (model X.prog X.w) A (call (.ref u) rest) Q E s := by
  have hu := ClX.pin_at I
  have I0 := ClX.unpin I
  obtain ⟨nm, q, N, bs, bm, sn, sub, ab, col, dd, k0, k1, k2, k3, k5, hC, hbm⟩ := T.cls
  obtain ⟨t1, ho⟩ := exo_at I.hok e
  have hCs := I.kIn _ _ hC
  obtain ⟨hp, g, d, t, os⟩ := s
  refine wpAny_call (codeAny_of_tree ?_)
  show wpAny _ A.in1 (callAny (.ref u) ⟨rest, []⟩) _ _ _
  simp only [callAny]
  refine wpAny_bind (wpAny_load hu ?_)
  simp only [PySem.W.kxs_mw, show (Value.type "method-wrapper" == Value.type "method" || Value.type "method-wrapper" == Value.type "builtin_function_or_method" || Value.type "method-wrapper" == Value.type "method-wrapper") = true by decide, if_true]
  refine PySem.W.KFB.if_so (by decide) ?_
  refine wpAny_bind (PySem.W.check_bound_init F.excBase_ValueError.toExcCallFacts hCs ho rfl ?_)
  refine wpAny_bind (wpAny_pure (wpAny_pure ?_))
  refine ⟨Code.quiet_builtin _ (by decide +kernel), codeAny_builtin F.excBase_ValueError.initEntry ?_⟩
  rw [Around.under_plainId F.excBase_ValueError.init.plain _]
  refine PySem.W.exc_init_tree (cls := .ref C) (t0 := t1) (dv := none) (c2 := .none) (c3 := .none) (b4 := .bool false) ho hl fun h' k hx _ => ?_
  have J := I0.write (t' := t) (x := a) (e := a) (o := exo a C none) (by rw [e]; exact True.intro) (.inl rfl) k ⟨_, hx⟩ (exo_ok hx)
  have eu : upd H a (exo a C none) = H := by
    funext b
    by_cases hb : b = a
    · rw [hb, upd_same, e]
    · rw [upd_ne hb]
  rw [eu] at J
  exact h _ J
end
section
variable {P : Program} {w : World} {K : PySem.W.Frag} {mg : Str → Option Value} {base : Heap}
/-- THE RULE: super().__init__(e) of an exception, then the rest -/
theorem fn_supE {N ps : List Str} {x qual : Str} {params : Arguments} {scope : Scope} {C f : Addr} {fd : FuncData} {k : Nat} {sp : Sp} {p0 p1 p2 p3 p4 : Pos} {e : Expr} {es : List Expr} {rest : List Stmt} {ar : Arg}
    (F : FunS P K x qual params (.Expr (.Call (.Attribute (.Call (.Name "super" p0) [] [] p1) "__init__" p2) (e :: es) [] p3) p4 :: rest) scope C f fd) (S : ScS N ps scope) (T : SupA K mg P C C) (TC : OexC K C)
    (hp : (params.posonlyargs ++ params.args).head? = some ar) (hN : N[0]? = some ar.arg) (har : ar.arg ∈ ps)
    (hm : PySem.W.ks_superIn K C C "__init__" = some (some (.builtin "ValueError.__init__"))) (hB : PySem.W.subIn K (.ref C) (.type "ValueError") = some true)
    (len : ∀ vs H Q E, sp vs H Q E → vs.length = ps.length)
    (hbody : ∀ (cda cc : Addr) (A : Around) (outer : List Env) (s : Shared) (H : Hp) (vs : List V) (Q : VK) (E : XK), Room k (A.deeper (envX qual scope s.heap.objs.size f (.ref cda) [("__class__", cc)])) → sp vs H Q E →
      ∃ (xa : Addr) (t : TA) (u : TS), vs[0]? = some (.ref xa) ∧ H xa = some (exo xa C none) ∧
        PA (cxS CX0 P w K mg base N (envX qual scope s.heap.objs.size f (.ref cda) [("__class__", cc)]) A outer s H E) (e :: es) t ∧ PSs (cxS CX0 P w K mg base N (envX qual scope s.heap.objs.size f (.ref cda) [("__class__", cc)]) A outer s H E) rest u ∧
        t (L2.start N vs) H fun ws H1 => ws.length ≤ 1000 ∧ H1 xa = some (exo xa C none) ∧ u { nx := fun _ H' => Q .non H', rt := Q } (L2.start N vs) H1)
    (hev : ∀ env, ∃ pl : Sem Bool, eval (.Call (.Attribute (.Call (.Name "super" p0) [] [] p1) "__init__" p2) (e :: es) [] p3) env = (do
      let ov ← attributeBase (.Call (.Name "super" p0) [] [] p1) "__init__" env (eval (.Call (.Name "super" p0) [] [] p1) env)
      standAt p2.atName
      let (f, first) ← holding [ov] (getMethod ov "__init__" pl)
      callWith p3 f first (backTo p3 (starEach (e :: es) env)) []) := by intro _; exact ⟨_, rfl⟩)
    (hes : ∀ env, starEach (e :: es) env = (false, eval e env) :: starEach es env := by intro _; rfl) (hpl : ∀ env, (backTo p3 (starEach es env)).any (·.1) = false := by intro _; rfl) :
    FnOk P w K mg base CX0 (k + 1) f fd ps sp := by
  obtain ⟨oc, kV, doc, pm, ct, od, an, osl, cda, cc, rfl, lk, hcdI, hcc, hcode⟩ := F.ex
  refine ⟨len, fun A outer s H args us vs Q E hr e0 hb r hsp => ?_⟩
  have hl := len _ _ _ _ hsp
  have KX : K.In s.heap := e0.mod.kin.keeps fun b o e => (e0.bs b o e).1
  have lim : s.heap.NoLimit := e0.mod.nolimit.keeps fun b o e => (e0.bs b o e).1
  refine PySem.ks_codeAny_call_defAt (fd := fnX x qual params _ scope [("__class__", cc)] .none kV doc pm an (.ref cda) ct) (binds := ps.zip us) hr.depth (KX _ _ lk) rfl lim (PySem.W.codeRec_of KX hcdI) rfl hb S.noc
    (fun y hy => S.par y.1 (List.of_mem_zip (show (y.1, y.2) ∈ ps.zip us from hy)).1) (fun h₁ hns kp => ?_) S.co S.gen S.kind
  have hr' : Room k (A.deeper (envX qual scope s.heap.objs.size f (.ref cda) [("__class__", cc)])) := hr.deeper _
  obtain ⟨xa, t, u, hv0, hx, hPA, hPS, hq⟩ := hbody cda cc A outer s H vs Q E hr' hsp
  have I : Inv (cxS CX0 P w K mg base N (envX qual scope s.heap.objs.size f (.ref cda) [("__class__", cc)]) A outer s H E) [] (L2.start N vs) H { s with heap := h₁, toks := s.toks + (ps.zip us).length } :=
    inv_startS S hcc hr.hd e0 hl r hns kp
  have hσ : (L2.start N vs)[0]? = some (some (.ref xa)) := by
    unfold L2.start
    have h0 : 0 < vs.length := (List.getElem?_eq_some_iff.mp hv0).1
    rw [List.getElem?_append_left (by simpa using h0), List.getElem?_map, hv0]
    rfl
  have fin : ∀ (fl : Flow) (s' : Shared), SP (cxS CX0 P w K mg base N (envX qual scope s.heap.objs.size f (.ref cda) [("__class__", cc)]) A outer s H E) [] { nx := fun _ H' => Q .non H', rt := Q } fl s' →
      CR CX0 outer P w H s Q E (.ok (.ret (match fl with | .ret v => v | _ => .none))) s' := fun fl s' hs => by
    cases fl with
    | ret u =>
      obtain ⟨v, σ', H', J, rv, q⟩ := hs
      exact ⟨v, H', J.os, J.bare, J.base, J.hok, rv, q⟩
    | next =>
      obtain ⟨σ', H', J, q⟩ := hs
      exact ⟨V.non, H', J.os, J.bare, J.base, J.hok, rfl, q⟩
    | brk =>
      obtain ⟨_, _, _, q⟩ := hs
      exact False.elim q
    | cont =>
      obtain ⟨_, _, _, q⟩ := hs
      exact False.elim q
  show _root_.PySem.wpAt _ _ _ (execs _ _) _ _ _
  obtain ⟨pl, hpl0⟩ := hev (envX qual scope s.heap.objs.size f (.ref cda) [("__class__", cc)])
  refine PySem.ks_wpAt_execs_cons (PySem.ks_wpAt_Expr_any (PySem.ks_wpAt_MethodCall (pl := pl) ?_ hpl0) I.quiet rfl)
  obtain ⟨ox, J1⟩ := exo_inst I.hok hx
  refine sup_node (ps := ps) (fd := fnX x qual params (.Expr (.Call (.Attribute (.Call (.Name "super" p0) [] [] p1) "__init__" p2) (e :: es) [] p3) p4 :: rest) scope [("__class__", cc)] .none kV doc pm an (.ref cda) ct) I rfl S T lk hp hN (S.par _ har) hσ J1 hcc hcode (by decide) fun so s2 I2 hso hk2 => ?_
  obtain ⟨ox2, J2⟩ := exo_inst I2.hok hx
  refine sup_methE I2 J2 T hm hB (by decide) fun q s3 I3 => ?_
  have hargs : wpAny (model P w) (A.deeper (envX qual scope s.heap.objs.size f (.ref cda) [("__class__", cc)])) (spliced (backTo p3 (starEach (e :: es) (envX qual scope s.heap.objs.size f (.ref cda) [("__class__", cc)]))))
      (fun ws s4 => PySem.W.KxsAt "ValueError.__init__" q xa s4.heap ∧ ∃ vs4 H4, Inv (cxS CX0 P w K mg base N (envX qual scope s.heap.objs.size f (.ref cda) [("__class__", cc)]) A outer s H E) ((q, PySem.W.kxs_mw "ValueError.__init__" xa) :: []) (L2.start N vs) H4 s4 ∧ Vals vs4 ws ∧
        vs4.length ≤ 1000 ∧ H4 xa = some (exo xa C none) ∧ u { nx := fun _ H' => Q .non H', rt := Q } (L2.start N vs) H4) (cxS CX0 P w K mg base N (envX qual scope s.heap.objs.size f (.ref cda) [("__class__", cc)]) A outer s H E).xe s3 :=
    thn (hPA.run p3 _ s3 _ H _ I3 hq) fun ws s4 ⟨vs4, H4, I4, rv4, q4⟩ => ⟨ClX.pin_at I4, vs4, H4, I4, rv4, q4⟩
  rw [hes] at hargs ⊢
  refine PySem.W.kxs_callWith (i := "ValueError.__init__") (x := xa) (by show (false || (backTo p3 (starEach es _)).any (·.1)) = false; rw [hpl]; rfl) (Calls.evalArgs_plain (thn hargs fun ws s4 h4 => ⟨h4.1, ?_⟩))
  obtain ⟨_, vs4, H4, I4, rv4, hl4, hx4, q4⟩ := h4
  refine call_mw TC I4 hx4 (by rw [List.nil_append, ← rv4.length, sizeLine_eq]; omega) fun s5 I5 => ?_
  refine wpAt_of_wpAny ?_
  exact wpAny_mono (hPS.run [] s5 (L2.start N vs) H4 _ I5 q4) (fun fl s' hs => fin fl s' hs) fun _ _ h => h
end
end RR
end
section
set_option Elab.async false
set_option linter.all false
set_option maxRecDepth 100000
set_option maxHeartbeats 4000000
/-! sorted(set(list of texts)): some rising list of texts, no longer than the list. -/
namespace RR
open PySem PySem.Spec PyProof.Rows L2
def GoodT (w : World) (e : Int × Value) : Prop := ∃ x tk, e.2 = Value.str x tk ∧ e.1 = hashStr w x ∧ PyData.strOk x = true
/-- a set of texts at a, at most n -/
def SetW (w : World) (h : Heap) (a : Addr) (n : Nat) : Prop :=
  ∃ o es ep t, h.get? a = some o ∧ o.ExactSet ∧ o.data = .set es ep t ∧ (∀ e ∈ es.toList, GoodT w e) ∧ es.size ≤ n ∧ t.fits es.size = true ∧ Ris t.place.toList ∧ (w.params.followText "set-order" = true ∨ t.led = true)
def SetWO (w : World) (a : Addr) (n : Nat) : HO := .ext fun h => SetW w h a n
section
variable {P : Program} {w : World} {h h' : Heap} {a : Addr} {n : Nat}
theorem SetW.at (R : SetW w h a n) (k : ∀ o, h.get? a = some o → h'.get? a = some o) : SetW w h' a n := by
  obtain ⟨o, es, ep, t, ho, r⟩ := R
  exact ⟨o, es, ep, t, k o ho, r⟩
theorem goodT_elems {l : List (Int × Value)} (g : ∀ e ∈ l, GoodT w e) : ElemsOf (strKind P w) l := fun e he => by
  obtain ⟨k, tk, h1, h2, _⟩ := g e he
  exact ⟨⟨k, by rw [h1]; exact strKind_is P w k tk, h2⟩, by rw [h1] <;> rfl⟩
theorem setWO_new {P : Program} {w : World} {H : Hp} {h : Heap} {a : Addr} {n : Nat} (R : SetW w h a n) : ObjOk P w H h a (SetWO w a n) := by
  have ⟨o, _, _, _, ho, _⟩ := R
  exact ⟨R, ⟨o, ho⟩, fun h1 h2 p k => SetW.at p k⟩
end
section
variable {P : Program} {w : World} {A : Around} {E : Value → Shared → Prop} {s : Shared} {a : Addr} {n : Nat}
theorem setW_tail {g : Bool → Sem Unit} (hg : ∀ (b : Bool) (s₁ : Shared) (Q' : Unit → Shared → Prop), Q' () s₁ → wpAny (model P w) A (g b) Q' E s₁)
    {o : Obj} {es : Array (Int × Value)} {ep : Nat} {t : SetTable} (ho : s.heap.get? a = some o) (hex : o.ExactSet) (hd : o.data = .set es ep t)
    {es1 : Array (Int × Value)} {t2 : SetTable} (g1 : ∀ e ∈ es1.toList, GoodT w e) (hz : es1.size ≤ n) (hn : n < scanBound)
    (hf2 : t2.fits es1.size = true) (hr : Ris t2.place.toList) (hl : w.params.followText "set-order" = true ∨ t2.led = true) {wasDummy : Bool} {R : Option Bool → Shared → Prop}
    (hR : ∀ h', Heap.SameBut a s.heap h' → SetW w h' a n → R (some true) { s with heap := h' }) :
    wpAny (model P w) A (do
        storeSet a es1 t2
        if (!wasDummy && t2.tooFull) = true then do
            g (relayAll t2 es1 (SetTable.grown es1.size)).2.2
            storeSet a (relayAll t2 es1 (SetTable.grown es1.size)).1 (relayAll t2 es1 (SetTable.grown es1.size)).2.1
            pure (some true)
          else pure (some true)) R E s := by
  have hb1 : es1.size < scanBound := Nat.lt_of_le_of_lt hz hn
  refine wpAny_bind (wpAny_storeSet_of ho hd ?_ (fits_of_scanBound hb1))
  have ho1 := store_at (es' := es1) (t' := t2) ho hd
  have sb1 := Heap.SameBut.update s.heap a (Obj.putSet es1 t2)
  split
  · have pm := relayAll_perm t2 es1 (SetTable.grown es1.size)
    have hf3 := relayAll_fits t2 es1 (SetTable.grown es1.size)
    have hr3 := relayAll_ris t2 es1 (SetTable.grown es1.size)
    have hl3 := relayAll_led t2 es1 (SetTable.grown es1.size)
    generalize relayAll t2 es1 (SetTable.grown es1.size) = Z at pm hf3 hr3 hl3 ⊢
    obtain ⟨es2, t3, gave⟩ := Z
    dsimp only at pm hf3 hr3 hl3 ⊢
    have hsz : es2.size = es1.size := by rw [← Array.length_toList, pm.length_eq, Array.length_toList]
    refine wpAny_bind (hg _ _ _ ?_)
    refine wpAny_bind (wpAny_storeSet_of ho1 rfl ?_ (fits_of_scanBound (by rw [hsz]; exact hb1)))
    have ho2 := store_at (es' := es2) (t' := t3) ho1 rfl
    refine wpAny_pure (hR _ (sb1.trans (Heap.SameBut.update _ a _)) ?_)
    exact ⟨_, es2, _, t3, ho2, hex, rfl, fun e he => g1 e (pm.mem_iff.mp he), by rw [hsz]; exact hz, hf3, hr3, hl.imp id fun z => by rw [hl3]; exact z⟩
  · exact wpAny_pure (hR _ sb1 ⟨_, es1, _, t2, ho1, hex, rfl, g1, hz, hf2, hr, hl⟩)

theorem setW_add {k : Str} {tk : Tok} {Q : Bool → Shared → Prop} (R : SetW w s.heap a n) (room : n + 1 < scanBound) (hk : PyData.strOk k = true)
    (hQ : ∀ b h', Heap.SameBut a s.heap h' → SetW w h' a (n + 1) → Q b { s with heap := h' }) :
    wpAny (model P w) A (setAddHashed a (.str k tk) ((strKind P w).hash k)) Q E s := by
  obtain ⟨o, es, ep, t, ho, hex, hd, g, hn, hf, hr, hl⟩ := R
  have hkey : (strKind P w).is k (.str k tk) = true := strKind_is P w k tk
  have hsc : (Value.str k tk).scannable = true := rfl
  have hel : ElemsOf (strKind P w) es.toList := goodT_elems g
  have hb : es.size < scanBound := by omega
  unfold setAddHashed setAddHashedIn
  refine wpAny_holding (wpAny_bind (wpAny_setState_of ho hd hf ?_))
  dsimp only
  rw [byScan_of hsc hb hel]
  simp only [↓reduceIte]
  unfold setAddByScan
  refine wpAny_bind ?_
  refine wpAny_bind (wpAny_rule ?_)
  refine wpAny_bind (wpAny_setScan_of hkey ho hd hf hel ?_)
  cases hfi : List.findIdx? (fun e => (strKind P w).is k e.2) es.toList with
  | some j =>
    dsimp only
    refine wpAny_pure (wpAny_pure ?_)
    exact hQ _ s.heap (Heap.SameBut.refl a s.heap) ⟨o, es, ep, t, ho, hex, hd, g, by omega, hf, hr, hl⟩
  | none =>
    dsimp only
    have hgw : ∀ (b : Bool) {s₁ : Shared} {Q' : Unit → Shared → Prop}, Q' () s₁ → wpAny (model P w) A (match b with | true => rule "set.scan.the-table-gave-way" | false => pure ()) Q' E s₁ :=
      fun b s₁ Q' q => by cases b <;> first | exact wpAny_pure q | exact wpAny_rule q
    have pm := layNew_perm t es ((strKind P w).hash k) (.str k tk)
    have hf1 := layNew_fits t es ((strKind P w).hash k) (.str k tk)
    have hr1 := layNew_ris t es ((strKind P w).hash k) (.str k tk) hr
    have hl1 := layNew_led t es ((strKind P w).hash k) (.str k tk)
    generalize layNew t es ((strKind P w).hash k) (.str k tk) = Z at pm hf1 hr1 hl1 ⊢
    obtain ⟨es1, t1, wasDummy, gave⟩ := Z
    dsimp only at pm hf1 hr1 hl1 ⊢
    rw [Array.toList_push] at pm
    have pc : es1.toList.Perm (((strKind P w).hash k, Value.str k tk) :: es.toList) := pm.trans (List.perm_append_singleton _ _)
    have g1 : ∀ e ∈ es1.toList, GoodT w e := fun e he => by
      rcases List.mem_cons.mp (pc.mem_iff.mp he) with z | z
      · rw [z]; exact ⟨k, tk, rfl, rfl, hk⟩
      · exact g e z
    have hsz : es1.size ≤ n + 1 := by rw [← Array.length_toList, pc.length_eq, List.length_cons, Array.length_toList]; omega
    have hled : w.params.followText "set-order" = true ∨ t1.led = true := hl.imp id fun z => by rw [hl1]; exact z
    refine wpAny_bind (hgw _ ?_)
    split
    · refine wpAny_bind ?_
      rw [hashByValue_scannable 8 hsc]
      refine wpAny_pure ?_
      refine setW_tail ?_ ho hex hd g1 hsz room ?_ ?_ ?_ ?_
      · intro b s₁ Q' q; cases b <;> first | exact wpAny_pure q | exact wpAny_rule q
      · first | (split <;> first | exact hf1 | exact SetTable.fits_plain_off hf1) | exact hf1
      · first | (split <;> exact hr1) | exact hr1
      · first | (split <;> exact hled) | exact hled
      · intro h' sb r; dsimp only; exact wpAny_pure (hQ _ h' sb r)
    · refine wpAny_bind (wpAny_pure ?_)
      simp only [↓reduceIte]
      refine setW_tail ?_ ho hex hd g1 hsz room hf1 hr1 hled ?_
      · intro b s₁ Q' q; cases b <;> first | exact wpAny_pure q | exact wpAny_rule q
      · intro h' sb r; dsimp only; exact wpAny_pure (hQ _ h' sb r)

theorem setW_fresh {h : Heap} {a : Addr} (ho : h.get? a = some { cls := .type "set", dict := none, data := .set #[] 0 (.fresh 0 0 (!w.params.followText "set-order")) }) : SetW w h a 0 :=
  ⟨_, #[], 0, _, ho, ⟨rfl, rfl, rfl⟩, rfl, (fun e he => by simp at he), Nat.le_refl _, (by rfl), List.Pairwise.nil, by
    show _ ∨ (!w.params.followText "set-order") = true
    cases w.params.followText "set-order"
    · exact .inr rfl
    · exact .inl rfl⟩

theorem setW_loop {I : Addr} {fp wr : List Addr} {G : Array GenState → Array GenState → Prop} {n : Nat} {Pv : Nat → Value → Prop} {St : Nat → Shared → Prop} {R : Result → Shared → Prop}
    (W : WalksS P w A.in1 I fp wr G n Pv St) (S : Addr) (hSf : S ∉ fp) (hb : n + 1 < scanBound) (hval : ∀ i v, Pv i v → ∃ k t, v = .str k t ∧ PyData.strOk k = true) :
    ∀ (k i : Nat) (s : Shared), n - i = k → i ≤ n → St i s → SetW w s.heap S i →
      (∀ s', Moved (S :: wr) G s s' → SetW w s'.heap S n → R (.ok (.ret .none)) s') →
      codeAny (model P w) A (.builtin "set.update.loop" ⟨[.ref S, .ref I], []⟩) R s := by
  have hSw : S ∉ wr := fun h => hSf (W.sub _ h)
  have hsub : ∀ b ∈ wr, b ∈ S :: wr := fun b hb => List.mem_cons_of_mem _ hb
  intro k
  induction k with
  | zero =>
    intro i s hk' hi hst hS hR
    have hin : i = n := by omega
    subst hin
    refine codeAny_builtin F.entry_set_update_loop ?_
    rw [Around.under_plainId F.plain_set_update_loop _]
    show wpAny _ A.in1 (pyNext (.ref I) >>= _) _ _ s
    refine wpAny_bind (W.done s _ _ hst fun s' hm => ?_)
    show wpAny _ A.in1 (ret Value.none) _ _ s'
    exact wpAny_pure (hR s' (hm.mono hsub) (hS.at fun o e => hm.heap S o hSw e))
  | succ k ih =>
    intro i s hk' hi hst hS hR
    have hlt : i < n := by omega
    refine codeAny_builtin F.entry_set_update_loop ?_
    rw [Around.under_plainId F.plain_set_update_loop _]
    show wpAny _ A.in1 (pyNext (.ref I) >>= _) _ _ s
    refine wpAny_bind (W.item i s _ _ hlt hst fun v s' hP hst' hm => ?_)
    obtain ⟨z, t, rfl, hz⟩ := hval i v hP
    have hS' : SetW w s'.heap S i := hS.at fun o e => hm.heap S o hSw e
    show wpAny _ A.in1 (holding [Value.str z t] (setAdd S (.str z t)) >>= _) _ _ s'
    refine wpAny_bind (wpAny_holding ?_)
    unfold setAdd
    refine wpAny_holding ?_
    refine wpAny_bind ((strKind P w).pyHash (k := z) (strKind_is _ _ _ _) ?_)
    refine setW_add (s := { s' with toks := s'.toks + 1 }) hS' (by omega) hz fun b h' hsb hS2 => ?_
    refine wpAny_pure ⟨plainId_quiet F.plain_set_update_loop _, ih (i + 1) _ (by omega) hlt (W.frame _ s' _ _ hst' (Nat.le_succ _) fun b hb o e => ?_) hS2 fun s'' hm'' hS'' => ?_⟩
    · rw [hsb.2 b (fun h : b = S => hSf (by rw [← h]; exact hb))]; exact e
    · refine hR s'' (Moved.trans W.gtrans ((hm.mono hsub).then_heap (Nat.le_succ _) fun b o hb e => ?_) hm'') hS''
      rw [hsb.2 b (fun h : b = S => hb (by rw [h]; exact List.mem_cons_self))]; exact e

theorem call_setW {l : Addr} {items : Array Value} {xs : List Str} {Q : Value → Shared → Prop}
    (hh : A.handled = none) (hl : s.heap.IsList l items) (hi : PyProof.Rows.StrsAre items.toList xs) (hok : ∀ x ∈ xs, PyData.strOk x = true) (hb : items.size + 1 < scanBound)
    (h : ∀ (h' : Heap) (tk : Nat), SetW w h' s.heap.objs.size items.size →
      (∀ b o, s.heap.get? b = some o → h'.get? b = some o) → Q (.ref s.heap.objs.size) { s with heap := h', toks := tk }) :
    wpAny (model P w) A (call (.type "set") [.ref l]) Q E s := by
  obtain ⟨c, tl, hmro⟩ := PySem.F.called_set.mro
  have hmade := PySem.F.called_set.made
  have hsub := PySem.F.called_set.sub
  refine wpAny_call (codeAny_of_tree ?_)
  show wpAny _ _ (callAny (.type "set") _) _ _ _
  refine wpAny_pure ⟨Code.quiet_builtin _ (by decide +kernel), codeAny_builtin PySem.F.entry_type_call ?_⟩
  rw [Around.under_plain (weight_type_call_type "set" [.ref l] []) rfl]
  have h1 := PySem.F.called_set.notType
  have h2 := PySem.F.called_set.canCreate
  have hct := PySem.F.typeCall_set_1 (.ref l)
  repeat (any_goals (first | assumption | wp_step))

  refine codeAny_mono (code_set_led1 (.ref l) (E := E) (Q₁ := fun obj s₁ => obj = .ref s.heap.objs.size ∧ s₁ = { s with heap := s.heap.push { cls := .type "set", dict := none, data := .set #[] 0 (.fresh 0 0 (!w.params.followText "set-order")) } }) ⟨rfl, rfl⟩) fun r s₁ hr => ?_
  cases r with
  | error e => exact hr
  | ok fl =>
    cases fl with
    | ret obj =>
      obtain ⟨rfl, rfl⟩ := hr
      have hS : (s.heap.push { cls := .type "set", dict := none, data := .set #[] 0 (.fresh 0 0 (!w.params.followText "set-order")) }).get? s.heap.objs.size = some { cls := .type "set", dict := none, data := .set #[] 0 (.fresh 0 0 (!w.params.followText "set-order")) } := Heap.get?_push_size _ rfl
      have hT : Shared.TypeIs { s with heap := s.heap.push { cls := .type "set", dict := none, data := .set #[] 0 (.fresh 0 0 (!w.params.followText "set-order")) } } (.ref s.heap.objs.size) "set" := ⟨_, hS, rfl⟩
      have hli := F.called_set.init.lookup
      have hbi := F.called_set.init.bind (.ref s.heap.objs.size)
      repeat (any_goals (first | assumption | wp_step))

      refine codeAny_mono (codeAny_call_builtin (R := wants (fun r s₂ => r = .none ∧ ∃ h' tk, s₂ = { s with heap := h', toks := tk } ∧
          SetW w h' s.heap.objs.size items.size ∧
          (∀ b o, s.heap.get? b = some o → h'.get? b = some o)) E) PySem.F.called_set.init.plain PySem.F.entry_set_init (check_set_init_1 hT ?_)) fun r₂ s₂ hr₂ => ?_
      · obtain ⟨ol, hol, hcl, nl, hdl⟩ := hl
        obtain ⟨ocls, odict, odata, oslots⟩ := ol
        simp only at hcl hdl
        subst hcl; subst hdl
        have hol' : (s.heap.push { cls := .type "set", dict := none, data := .set #[] 0 (.fresh 0 0 (!w.params.followText "set-order")) }).get? l = some { cls := .type "list", dict := odict, data := .seq items nl, slots := oslots } := Heap.get?_push_of_some _ hol
        have hsls := PySem.F.sub_list_set
        have hslf := PySem.F.sub_list_frozenset
        have hne : (Value.type "list" == Value.type "dict") = false := by decide
        have hl1 : (s.heap.push { cls := .type "set", dict := none, data := .set #[] 0 (.fresh 0 0 (!w.params.followText "set-order")) }).IsList l items := ⟨_, hol', rfl, nl, rfl⟩
        unfold Builtin.«set.__init__» noKeywords Builtin.Frozenset.updateFrom
        generalize hPI : pyIter = PI
        wp_walk
        subst hPI

        refine wpAny_pyIter_list hl1 ?_
        refine wpAny_bind (wpAny_runValue ?_)
        have hlS : l < s.heap.objs.size := Heap.lt_size hol
        have hh3 : A.in1.in1.in1.handled = none := by simp [hh]
        have hneI : l ≠ (s.heap.push { cls := .type "set", dict := none, data := .set #[] 0 (.fresh 0 0 (!w.params.followText "set-order")) }).objs.size := by
          rw [Heap.size_push]; exact Nat.ne_of_lt (Nat.lt_succ_of_lt hlS)
        have hSf : s.heap.objs.size ∉ [(s.heap.push { cls := .type "set", dict := none, data := .set #[] 0 (.fresh 0 0 (!w.params.followText "set-order")) }).objs.size, l] := by
          rw [Heap.size_push]; simp only [List.mem_cons, List.mem_singleton, List.not_mem_nil, or_false, not_or]
          exact ⟨Nat.ne_of_lt (Nat.lt_succ_self _), Nat.ne_of_gt hlS⟩
        have hval : ∀ (i : Nat) (v : Value), items[i]? = some v → ∃ k t, v = .str k t ∧ PyData.strOk k = true := fun i v hv => by
          obtain ⟨t, e⟩ := SS.strs_at hi i v (by rw [Array.getElem?_toList]; exact hv)
          have hlt : i < xs.length := by
            rw [← StrsAre.len_eq hi, Array.length_toList]
            exact (Array.getElem?_eq_some_iff.mp hv).1
          refine ⟨_, t, e, ?_⟩
          rw [List.getD_eq_getElem?_getD, List.getElem?_eq_getElem hlt]
          exact hok _ (List.getElem_mem hlt)
        refine setW_loop ((Walks.list hh3 _ l hneI items).toS) s.heap.objs.size
          hSf hb hval (items.size - 0) 0 _ (by omega) (Nat.zero_le _)
          ⟨⟨_, Heap.get?_push_size _ rfl, rfl, rfl⟩, (hl1.push _)⟩ ?hS0 ?hR
        case hS0 =>
          exact setW_fresh (Heap.get?_push_of_some _ hS)
        case hR =>
          intro s' hm hS'
          obtain ⟨h', g', d', tk', os'⟩ := s'
          have eg : g' = s.gens := hm.gens
          have ed : d' = s.drawn := hm.drawn
          have eo : os' = s.os := hm.os
          subst eg; subst ed; subst eo
          show wpAny _ _ _ _ _ _
          refine wpAny_pure ?_
          show wpAny _ _ (ret Value.none) _ _ _
          refine wpAny_pure ⟨rfl, h', tk', rfl, hS', fun b o e => ?_⟩
          have hb0 : b < s.heap.objs.size := Heap.lt_size e
          have hb1 : b ≠ s.heap.objs.size := Nat.ne_of_lt hb0
          have hb2 : b ≠ (s.heap.push { cls := .type "set", dict := none, data := .set #[] 0 (.fresh 0 0 (!w.params.followText "set-order")) }).objs.size := by
            rw [Heap.size_push]; exact Nat.ne_of_lt (Nat.lt_succ_of_lt hb0)
          exact hm.heap b o (by simp only [List.mem_cons, List.mem_singleton, List.not_mem_nil, or_false, not_or]; exact ⟨hb1, hb2⟩) (Heap.get?_push_of_some _ (Heap.get?_push_of_some _ e))

      · cases r₂ with
        | error e => exact hr₂
        | ok fl₂ =>
          cases fl₂ with
          | ret r =>
            obtain ⟨rfl, h', tk, rfl, hS', hk'⟩ := hr₂
            repeat (any_goals (first | assumption | wp_step))
            exact h _ _ hS' hk'
          | _ => exact hr₂.elim
    | _ => exact hr.elim

theorem strs_of : ∀ (l : List Value), (∀ v ∈ l, ∃ k tk, v = Value.str k tk ∧ PyData.strOk k = true) → ∃ xs, StrsAre l xs ∧ ∀ x ∈ xs, PyData.strOk x = true
  | [], _ => ⟨[], .nil, fun x h => by cases h⟩
  | v :: l, h => by
    obtain ⟨k, tk, rfl, hk⟩ := h v List.mem_cons_self
    obtain ⟨xs, hx, hok⟩ := strs_of l fun u hu => h u (List.mem_cons_of_mem _ hu)
    refine ⟨k :: xs, .cons k tk hx, fun x hx => ?_⟩
    rcases List.mem_cons.mp hx with z | z
    · rw [z]; exact hk
    · exact hok x z

theorem sorted_setW {n : Nat} {Q : Value → Shared → Prop} (R : SetW w s.heap a n) (hh : A.handled = none) (h64 : n < 64)
    (hQ : ∀ s' p (out : Array Value) (c : Nat) (ns : List Str), (∀ b o, s.heap.get? b = some o → s'.heap.get? b = some o) → s'.gens = s.gens → s'.os = s.os → s.heap.objs.size ≤ p →
      s'.heap.get? p = some (seqObj "list" out c) → StrsAre out.toList ns → sortedS ns = true → ns.length ≤ n → (∀ x ∈ ns, PyData.strOk x = true) → Q (.ref p) s') :
    wpAny (model P w) A (call (.builtin "sorted") [.ref a]) Q E s := by
  obtain ⟨o, es, ep, t, ho, hex, hd, g, hn, hf, hr, hl⟩ := R
  have hb : es.size < scanBound := by
    have : (64 : Nat) ≤ scanBound := by decide
    omega
  refine Calls.call_function_entry kind_sorted plain_sorted entry_sorted (args_sorted1 _) ?_
  unfold Builtin.«sorted»
  refine wpAny_bind (m := checkCount "sorted" 1 1 _) (wpAny_pure ?_)
  refine wpAny_bind (collect_set (A := A.in1) hh ⟨o, ho, hex.1, hd⟩ hf hb hr hl fun s1 vs k1 hz g1 o1 pm => ?_)
  have hvl : vs.length ≤ n := by rw [pm.length_eq, List.length_map, Array.length_toList]; exact hn
  obtain ⟨xs, hS, hxok⟩ := strs_of vs fun v hv => by
    obtain ⟨e, he, q⟩ := List.mem_map.mp (pm.mem_iff.mp hv)
    obtain ⟨k, tk, h1, _, h3⟩ := g e he
    exact ⟨k, tk, by rw [← q]; exact h1, h3⟩
  refine wpAny_bind (wpAny_newList ?_ (by rw [sizeLine_eq]; omega))
  have hoL : (s1.heap.push (seqObj "list" vs.toArray 0)).get? s1.heap.objs.size = some (seqObj "list" vs.toArray 0) := Heap.get?_push_size _ rfl
  refine wpAny_bind (wpAny_holding (wpAny_call_entry slot_list_sort ⟨_, hoL, rfl⟩ entry_list_sort
    (list_sort_treeK strKind_oneLt hoL hS.keysOf (fun v₁ v₂ rest e => keyKind_strs (by rw [← e]; exact hS)) (by omega) fun st' hp hs => ⟨_, rfl, ?_⟩) (args_list_sort _)))
  obtain ⟨ys, q1, q2, q3⟩ := sorted_out_str hS hp hs
  obtain ⟨c, hc⟩ := sortedHeap_at (vs := vs) (out := (arrOf st').map (·.2)) hoL
  have hxl : xs.length = vs.length := (StrsAre.len_eq hS).symm
  refine wpAny_pure ⟨_, rfl, hQ _ s1.heap.objs.size _ c ys (fun b u e => ?_) g1 o1 hz hc q1 q3 (by rw [q2.length_eq]; omega) fun x hx => hxok x (q2.mem_iff.mp hx)⟩
  have q := k1 b u e
  have hlt := Heap.lt_size q
  show (sortedHeap (s1.heap.push (seqObj "list" vs.toArray 0)) s1.heap.objs.size vs ((arrOf st').map (·.2))).get? b = some u
  rw [sortedHeap_old (Nat.ne_of_lt hlt) (by rw [size_push']; exact Nat.lt_succ_of_lt hlt)]
  exact Heap.get?_push_of_some _ q
end
section
variable {X : Cx}
def rSetW (K : PySem.W.Frag) (w : World) : List V → Hp → VK → Prop := fun xs H Q => ∃ (l : Addr) (ss : List Str), xs = [V.ref l] ∧ SqL K H l (ss.map V.str) ∧ ss.length < 64 ∧ (∀ x ∈ ss, PyData.strOk x = true) ∧ ∀ p, H p = none → Q (.ref p) (upd H p (SetWO w p ss.length))
theorem cr_setW (hc : X.calm = true) : CallR X (.type "set") (rSetW X.K X.w) := by
  intro pins s σ H vs us Q I r h
  obtain ⟨a, ss, rfl, hs, h64, hok, q⟩ := h
  obtain ⟨its, rv, hl, _⟩ := I.list hs
  rw [Vals.ref1 r]
  have hlen0 := rv.length
  rw [List.length_map] at hlen0
  have hsz : its.toArray.size = ss.length := by rw [List.size_toArray]; exact hlen0.symm
  refine call_setW (items := its.toArray) (xs := ss) (I.ok.hd hc) hl.isList (by simpa using rv.strs) hok ?_ fun h' tk hS hk => ?_
  · have : (66 : Nat) ≤ scanBound := by decide
    omega
  · rw [hsz] at hS
    have hn : H s.heap.objs.size = none := I.hok.fresh (Nat.le_refl _)
    exact ⟨.ref _, upd H s.heap.objs.size (SetWO X.w s.heap.objs.size ss.length), I.laid (t' := tk) hk (Nat.le_refl _) (setWO_new hS), rfl, q _ hn⟩
def rSortW (w : World) : List V → Hp → VK → Prop := fun vs H Q => ∃ (a : Addr) (n : Nat), vs = [V.ref a] ∧ H a = some (SetWO w a n) ∧ n < 64 ∧
  ∀ (ys : List Str) (p : Addr), sortedS ys = true → ys.length ≤ n → (∀ x ∈ ys, PyData.strOk x = true) → H p = none → Q (.ref p) (upd H p (.lst (ys.map V.str)))
theorem cr_sortW (hc : X.calm = true) : CallR X (.builtin "sorted") (rSortW X.w) := by
  intro pins s σ H vs us Q I r h
  obtain ⟨a, n, rfl, ha, h64, q⟩ := h
  have R : SetW X.w s.heap a n := (I.hok a _ ha).1
  rw [Vals.ref1 r]
  refine sorted_setW R (I.ok.hd hc) h64 fun s' p out c ns k g o hp hg hi hs hl hok => ?_
  have hlen : (ns.map V.str).length ≤ sizeLine := by rw [List.length_map, sizeLine_eq]; omega
  have hn : H p = none := I.hok.fresh hp
  have J : Inv X pins σ (upd H p (.lst (ns.map V.str))) { s with heap := s'.heap, gens := s'.gens, drawn := s'.drawn, toks := s'.toks } :=
    I.call (ch := []) (Un.laid k hp hn) (I.hok.laid k hp ⟨hlen, out.toList, c, vals_of_strs hi, hg⟩) (by rw [g]; exact I.bare) (fun _ z => nomatch z)
  have e : s' = { s with heap := s'.heap, gens := s'.gens, drawn := s'.drawn, toks := s'.toks } := by
    cases s'
    cases s
    cases o
    rfl
  rw [e]
  exact ⟨.ref p, _, J, rfl, q ns p hs hl hok hn⟩
end
end RR
end
section
set_option Elab.async false
set_option linter.all false
set_option maxRecDepth 100000
set_option maxHeartbeats 4000000
/-! What stands in memory, and what a def leaves of it. -/
namespace RR
open PySem PySem.Spec PyProof.Rows L2
/-! ### item by item -/
def A2 {α : Type} (R : V → α → Prop) : List V → List α → Prop
  | [], [] => True
  | v :: vs, a :: as => R v a ∧ A2 R vs as
  | [], _ :: _ => False
  | _ :: _, [] => False
section
variable {α : Type} {R S : V → α → Prop}
theorem A2.imp (h : ∀ v a, R v a → S v a) : ∀ {vs : List V} {as : List α}, A2 R vs as → A2 S vs as
  | [], [], _ => trivial
  | _ :: _, _ :: _, ⟨r, t⟩ => ⟨h _ _ r, A2.imp h t⟩
theorem A2.length : ∀ {vs : List V} {as : List α}, A2 R vs as → vs.length = as.length
  | [], [], _ => rfl
  | _ :: _, _ :: _, ⟨_, t⟩ => by rw [List.length_cons, List.length_cons, A2.length t]
theorem A2.get : ∀ {vs : List V} {as : List α} {i : Nat} {a : α}, A2 R vs as → as[i]? = some a → ∃ v, vs[i]? = some v ∧ R v a
  | [], [], _, _, _, h => by simp at h
  | v :: _, b :: _, 0, a, ⟨r, _⟩, h => by
    obtain rfl : b = a := Option.some.inj h
    exact ⟨v, rfl, r⟩
  | _ :: _, _ :: _, i + 1, a, ⟨_, t⟩, h => A2.get (i := i) t h
theorem A2.getV : ∀ {vs : List V} {as : List α} {i : Nat} {v : V}, A2 R vs as → vs[i]? = some v → ∃ a, as[i]? = some a ∧ R v a
  | [], [], _, _, _, h => by simp at h
  | v :: _, b :: _, 0, a, ⟨r, _⟩, h => by
    obtain rfl : v = a := Option.some.inj h
    exact ⟨b, rfl, r⟩
  | _ :: _, _ :: _, i + 1, a, ⟨_, t⟩, h => A2.getV (i := i) t h
theorem A2.app : ∀ {vs : List V} {as : List α} {ws : List V} {bs : List α}, A2 R vs as → A2 R ws bs → A2 R (vs ++ ws) (as ++ bs)
  | [], [], _, _, _, h => h
  | _ :: _, _ :: _, _, _, ⟨r, t⟩, h => ⟨r, A2.app t h⟩
theorem A2.take : ∀ (n : Nat) {vs : List V} {as : List α}, A2 R vs as → A2 R (vs.take n) (as.take n)
  | 0, _, _, _ => by rw [List.take_zero, List.take_zero]; trivial
  | n + 1, [], [], _ => trivial
  | n + 1, _ :: _, _ :: _, ⟨r, t⟩ => ⟨r, A2.take n t⟩
theorem A2.drop : ∀ (n : Nat) {vs : List V} {as : List α}, A2 R vs as → A2 R (vs.drop n) (as.drop n)
  | 0, _, _, h => h
  | n + 1, [], [], _ => trivial
  | n + 1, _ :: _, _ :: _, ⟨_, t⟩ => A2.drop n t
theorem A2.one {v : V} {a : α} (h : R v a) : A2 R [v] [a] := ⟨h, trivial⟩
theorem A2.set : ∀ (i : Nat) {vs : List V} {as : List α} {v : V} {a : α}, A2 R vs as → R v a → A2 R (vs.set i v) (as.set i a)
  | _, [], [], _, _, _, _ => trivial
  | 0, _ :: _, _ :: _, _, _, ⟨_, t⟩, h => ⟨h, t⟩
  | i + 1, _ :: _, _ :: _, _, _, ⟨r, t⟩, h => ⟨r, A2.set i t h⟩
theorem A2.map {β : Type} {T : V → β → Prop} (f : V → V) (g : α → β) (h : ∀ v a, R v a → T (f v) (g a)) : ∀ {vs : List V} {as : List α}, A2 R vs as → A2 T (vs.map f) (as.map g)
  | [], [], _ => trivial
  | _ :: _, _ :: _, ⟨r, t⟩ => ⟨h _ _ r, A2.map f g h t⟩
end
/-! ### what is kept -/
def Imm : HO → Prop
  | .tup _ => True
  | .ins _ _ fs => (fs.lookup ("entry" : Str)).isSome = true ∧ (fs.lookup ("right" : Str)).isSome = true
  | _ => False
def Firm (S : List Addr) (b : Addr) (o : HO) : Prop := Imm o ∨ (b ∉ S ∧ ∀ ps, o ≠ .tbl ps)
/-- all but the addresses S stands as before; tuples and trees wherever they are -/
structure Ext (S : List Addr) (H H' : Hp) : Prop where
  keep : ∀ b o, H b = some o → Firm S b o → H' b = some o
  tab : ∀ P, GxR.TabG H P → GxR.TabG H' P
  dom : ∀ b, H' b = none → H b = none
section
variable {S S' : List Addr} {H H1 H2 H' : Hp} {p : Addr} {o : HO}
theorem Ext.refl (S : List Addr) (H : Hp) : Ext S H H := ⟨fun _ _ h _ => h, fun _ h => h, fun _ h => h⟩
theorem Ext.mono (e : Ext S H H') (h : ∀ b ∈ S, b ∈ S') : Ext S' H H' := ⟨fun b o hb f => e.keep b o hb (f.imp id fun f => ⟨fun z => f.1 (h b z), f.2⟩), e.tab, e.dom⟩
theorem Ext.of (e : Ext [] H H') : Ext S H H' := e.mono fun _ h => nomatch h
theorem Ext.trans (e : Ext S H H1) (k : Ext S H1 H2) : Ext S H H2 := ⟨fun b o h f => k.keep b o (e.keep b o h f) f, fun P h => k.tab P (e.tab P h), fun b h => e.dom b (k.dom b h)⟩
/-- what was not there before may change later -/
theorem Ext.then (e : Ext S H H1) (k : Ext S' H1 H2) (h : ∀ b ∈ S', b ∈ S ∨ H b = none) : Ext S H H2 :=
  ⟨fun b o hb f => k.keep b o (e.keep b o hb f) (f.imp id fun f => ⟨fun z => (h b z).elim f.1 fun q => (by rw [q] at hb; cases hb), f.2⟩), fun P hp => k.tab P (e.tab P hp), fun b h => e.dom b (k.dom b h)⟩
theorem upd_dom {H : Hp} {p b : Addr} {o : HO} (h : upd H p o b = none) : H b = none ∧ b ≠ p := by
  have hb : b ≠ p := fun z => by rw [z, upd_same] at h; cases h
  rw [upd_ne hb] at h
  exact ⟨h, hb⟩
theorem Ext.new (h : H p = none) : Ext S H (upd H p o) :=
  ⟨fun b u hb _ => by rw [upd_ne (ne_of_none hb h)]; exact hb, fun P ⟨ps, e, t⟩ => ⟨ps, by rw [upd_ne (ne_of_none e h)]; exact e, t⟩, fun b hb => (upd_dom hb).1⟩
/-- the same, behind a step -/
theorem Ext.new2 (e : Ext S H H1) (h : H1 p = none) : Ext S H (upd H1 p o) := e.trans (Ext.new h)
theorem Ext.wr {o0 : HO} (h : H p = some o0) (hs : p ∈ S) (hi : ¬ Imm o0) (ht : ∀ ps, o0 ≠ .tbl ps) : Ext S H (upd H p o) := by
  refine ⟨fun b u hb f => ?_, fun P ⟨ps, e, t⟩ => ⟨ps, ?_, t⟩, fun b hb => (upd_dom hb).1⟩
  · have hbp : b ≠ p := fun z => by
      subst z
      rw [h] at hb
      cases hb
      exact f.elim hi fun f => f.1 hs
    rw [upd_ne hbp]
    exact hb
  · have hbp : P ≠ p := fun z => by
      subst z
      rw [h] at e
      cases e
      exact ht ps rfl
    rw [upd_ne hbp]
    exact e
theorem Ext.wrL {xs : List V} (h : H p = some (.lst xs)) (hs : p ∈ S) : Ext S H (upd H p o) := Ext.wr h hs (fun z => z) fun _ z => nomatch z
theorem Ext.tabbed {P : Addr} (hP : GxR.TabG H P) (h : GxR.Tabbed P H H') : Ext S H H' := by
  obtain ⟨ps, e, t⟩ := hP
  refine ⟨fun b u hb f => ?_, fun Q ⟨qs, e', t'⟩ => ?_, fun b hb => ?_⟩
  · have hbp : b ≠ P := fun z => by
      subst z
      rw [e] at hb
      cases hb
      exact f.elim (fun z => z) fun f => f.2 ps rfl
    rw [h.2 b hbp]
    exact hb
  · by_cases z : Q = P
    · subst z
      exact h.1
    · exact ⟨qs, by rw [h.2 Q z]; exact e', t'⟩
  · by_cases z : b = P
    · subst z
      obtain ⟨ps', e', _⟩ := h.1
      rw [e'] at hb
      cases hb
    · rw [h.2 b z] at hb
      exact hb
theorem Ext.tup (e : Ext S H H') {a : Addr} {xs : List V} (h : H a = some (.tup xs)) : H' a = some (.tup xs) := e.keep a _ h (.inl trivial)
theorem Ext.lst (e : Ext S H H') {a : Addr} {xs : List V} (h : H a = some (.lst xs)) (hs : a ∉ S) : H' a = some (.lst xs) := e.keep a _ h (.inr ⟨hs, fun _ z => nomatch z⟩)
theorem Ext.ins (e : Ext S H H') {a C dx : Addr} {fs : List (Str × V)} (h : H a = some (.ins C dx fs)) (hs : a ∉ S) : H' a = some (.ins C dx fs) := e.keep a _ h (.inr ⟨hs, fun _ z => nomatch z⟩)
theorem Ext.dk (e : Ext S H H') {a : Addr} {kvs : List (L2.Key × V)} (h : H a = some (.dK kvs)) (hs : a ∉ S) : H' a = some (.dK kvs) := e.keep a _ h (.inr ⟨hs, fun _ z => nomatch z⟩)
theorem none_ne {a : Addr} (h : H a = none) (k : H p = some o) : a ≠ p := fun z => by rw [z, k] at h; cases h
end
/-! ### the data -/
section
variable {S : List Addr} {H H' : Hp}
def LkAt (H : Hp) (v : V) (l : Lk) : Prop := ∃ a b, v = .ref a ∧ H a = some (.tup [.int l.d, .int l.c, .ref b]) ∧ H b = some (.tup [.int l.s0, .int l.s1, .int l.s2])
def RowAt (H : Hp) (v : V) (r : List Int) : Prop := ∃ a, v = .ref a ∧ H a = some (.tup (r.map V.int))
def EnAt (H : Hp) (v : V) (e : En) : Prop := ∃ a rv lv mv, v = .ref a ∧ H a = some (.tup [.str e.key, rv, lv, mv]) ∧ RowAt H rv e.row ∧ LkAt H lv e.l ∧ LkAt H mv e.r
def PrAt (H : Hp) (v : V) (p : Pr) : Prop := ∃ a rv, v = .ref a ∧ H a = some (.tup [.str p.1, rv]) ∧ RowAt H rv p.2
def RuAt (H : Hp) (v : V) (u : Ru) : Prop := ∃ a, v = .ref a ∧ H a = some (.tup [.int u.b, .int u.m])
def QuAt (H : Hp) (v : V) (key : Str) (most : Int) : Prop := ∃ a, v = .ref a ∧ H a = some (.tup [.str "next", .str key, .int most])
def LsAt {α : Type} (R : Hp → V → α → Prop) (H : Hp) (a : Addr) (xs : List α) : Prop := ∃ vs, H a = some (.lst vs) ∧ A2 (R H) vs xs
def word : Wd → Str
  | .short => "short"
  | .digest => "digest"
  | .sums => "sums"
  | .long => "long"
def ToAt (H : Hp) (v : V) : Told → Prop
  | .ans f => ∃ a l, v = .ref a ∧ H a = some (.tup [.str "answer", .ref l]) ∧ LsAt PrAt H l f
  | .ref w n => ∃ a, v = .ref a ∧ H a = some (.tup [.str "refused", .str (word w), .int (n : Int)])
theorem LkAt.ext (e : Ext S H H') {v : V} {l : Lk} : LkAt H v l → LkAt H' v l := fun ⟨a, b, q, h1, h2⟩ => ⟨a, b, q, e.tup h1, e.tup h2⟩
theorem RowAt.ext (e : Ext S H H') {v : V} {r : List Int} : RowAt H v r → RowAt H' v r := fun ⟨a, q, h⟩ => ⟨a, q, e.tup h⟩
theorem EnAt.ext (e : Ext S H H') {v : V} {n : En} : EnAt H v n → EnAt H' v n := fun ⟨a, rv, lv, mv, q, h, h1, h2, h3⟩ => ⟨a, rv, lv, mv, q, e.tup h, h1.ext e, h2.ext e, h3.ext e⟩
theorem PrAt.ext (e : Ext S H H') {v : V} {n : Pr} : PrAt H v n → PrAt H' v n := fun ⟨a, rv, q, h, h1⟩ => ⟨a, rv, q, e.tup h, h1.ext e⟩
theorem RuAt.ext (e : Ext S H H') {v : V} {n : Ru} : RuAt H v n → RuAt H' v n := fun ⟨a, q, h⟩ => ⟨a, q, e.tup h⟩
theorem QuAt.ext (e : Ext S H H') {v : V} {k : Str} {n : Int} : QuAt H v k n → QuAt H' v k n := fun ⟨a, q, h⟩ => ⟨a, q, e.tup h⟩
theorem LsAt.ext {α : Type} {R : Hp → V → α → Prop} (hR : ∀ v a, R H v a → R H' v a) (e : Ext S H H') {a : Addr} {xs : List α} (hs : a ∉ S) : LsAt R H a xs → LsAt R H' a xs :=
  fun ⟨vs, h, t⟩ => ⟨vs, e.lst h hs, t.imp hR⟩
theorem LsAt.pr (e : Ext S H H') {a : Addr} {xs : Tab} (h : LsAt PrAt H a xs) (hs : a ∉ S) : LsAt PrAt H' a xs := LsAt.ext (fun _ _ => PrAt.ext e) e hs h
theorem LsAt.en (e : Ext S H H') {a : Addr} {xs : List En} (h : LsAt EnAt H a xs) (hs : a ∉ S) : LsAt EnAt H' a xs := LsAt.ext (fun _ _ => EnAt.ext e) e hs h
theorem LsAt.wr {α : Type} {R : Hp → V → α → Prop} {a : Addr} {xs : List α} {o : HO} (h : LsAt R H a xs) (hs : a ∈ S) : Ext S H (upd H a o) := by
  obtain ⟨vs, h, _⟩ := h
  exact Ext.wrL h hs
/-! ### objects: their fields by name, in order -/
def treeF (l e a b : V) : List (Str × V) := putF "right" b (putF "left" a (putF "entry" e (putF "link" l [])))
def partF (l t n : V) : List (Str × V) := putF "node" n (putF "tree" t (putF "link" l []))
def nodeF (k r a b : V) : List (Str × V) := putF "right" b (putF "left" a (putF "row" r (putF "key" k [])))
def knowF (r e : V) : List (Str × V) := putF "entries" e (putF "rule" r [])
def givF (r c p : V) : List (Str × V) := putF "position" p (putF "certificate" c (putF "rule" r []))
def copyF (r h n o : V) : List (Str × V) := putF "_rows" o (putF "_size" n (putF "_head" h (putF "_rule" r [])))
def TrAt (C : Addr) (H : Hp) (u : Ru) : V → Tr → Prop
  | v, .leaf => ∃ p dx lv, v = .ref p ∧ H p = some (.ins C dx (treeF lv .non .non .non)) ∧ LkAt H lv (emLk u)
  | v, .node k r a b => ∃ p dx lv ev av bv, v = .ref p ∧ H p = some (.ins C dx (treeF lv ev av bv)) ∧ LkAt H lv (Tr.lk u (.node k r a b)) ∧ EnAt H ev (Tr.en u k r a b) ∧ TrAt C H u av a ∧ TrAt C H u bv b
end
section
variable {S : List Addr} {H H' : Hp}
theorem TrAt.ref {C : Addr} {u : Ru} {v : V} : ∀ {t : Tr}, TrAt C H u v t → ∃ p dx lv ev av bv, v = .ref p ∧ H p = some (.ins C dx (treeF lv ev av bv)) ∧ LkAt H lv (t.lk u)
  | .leaf, ⟨p, dx, lv, e, h, l⟩ => ⟨p, dx, lv, _, _, _, e, h, l⟩
  | .node k r a b, ⟨p, dx, lv, ev, av, bv, e, h, l, _⟩ => ⟨p, dx, lv, ev, av, bv, e, h, l⟩
theorem tree_imm {C dx : Addr} {l e a b : V} : Imm (.ins C dx (treeF l e a b)) := ⟨by kernel_rfl, by kernel_rfl⟩
theorem TrAt.ext (e : Ext S H H') {C : Addr} {u : Ru} : ∀ {t : Tr} {v : V}, TrAt C H u v t → TrAt C H' u v t
  | .leaf, _, ⟨p, dx, lv, q, h, l⟩ => ⟨p, dx, lv, q, e.keep _ _ h (.inl tree_imm), l.ext e⟩
  | .node _ _ a b, _, ⟨p, dx, lv, ev, av, bv, q, h, l, n, ta, tb⟩ => ⟨p, dx, lv, ev, av, bv, q, e.keep _ _ h (.inl tree_imm), l.ext e, n.ext e, TrAt.ext e ta, TrAt.ext e tb⟩
section
variable {l e a b t n k r c p h o : V}
theorem treeF_link : (treeF l e a b).lookup ("link" : Str) = some l := by kernel_rfl
theorem treeF_entry : (treeF l e a b).lookup ("entry" : Str) = some e := by kernel_rfl
theorem treeF_left : (treeF l e a b).lookup ("left" : Str) = some a := by kernel_rfl
theorem treeF_right : (treeF l e a b).lookup ("right" : Str) = some b := by kernel_rfl
theorem partF_link : (partF l t n).lookup ("link" : Str) = some l := by kernel_rfl
theorem partF_tree : (partF l t n).lookup ("tree" : Str) = some t := by kernel_rfl
theorem partF_node : (partF l t n).lookup ("node" : Str) = some n := by kernel_rfl
theorem partF_put : putF "node" p (partF l t n) = partF l t p := by kernel_rfl
theorem partF_is : (partF l t n).lookup ("is_empty" : Str) = none := by kernel_rfl
theorem partF_imm {C dx : Addr} : ¬ Imm (.ins C dx (partF l t n)) := fun z => by
  have q : ((partF l t n).lookup ("entry" : Str)).isSome = false := by kernel_rfl
  have := z.1
  rw [q] at this
  cases this
theorem nodeF_key : (nodeF k r a b).lookup ("key" : Str) = some k := by kernel_rfl
theorem nodeF_row : (nodeF k r a b).lookup ("row" : Str) = some r := by kernel_rfl
theorem nodeF_left : (nodeF k r a b).lookup ("left" : Str) = some a := by kernel_rfl
theorem nodeF_right : (nodeF k r a b).lookup ("right" : Str) = some b := by kernel_rfl
theorem knowF_rule : (knowF r e).lookup ("rule" : Str) = some r := by kernel_rfl
theorem knowF_entries : (knowF r e).lookup ("entries" : Str) = some e := by kernel_rfl
theorem knowF_opened : (knowF r e).lookup ("opened" : Str) = none := by kernel_rfl
theorem knowF_entry_of : (knowF r e).lookup ("entry_of" : Str) = none := by kernel_rfl
theorem knowF_root : (knowF r e).lookup ("root" : Str) = none := by kernel_rfl
theorem givF_rule : (givF r c p).lookup ("rule" : Str) = some r := by kernel_rfl
theorem givF_cert : (givF r c p).lookup ("certificate" : Str) = some c := by kernel_rfl
theorem givF_pos : (givF r c p).lookup ("position" : Str) = some p := by kernel_rfl
theorem givF_put : putF "position" n (givF r c p) = givF r c n := by kernel_rfl
theorem givF_opened : (givF r c p).lookup ("opened" : Str) = none := by kernel_rfl
theorem givF_entry_of : (givF r c p).lookup ("entry_of" : Str) = none := by kernel_rfl
theorem givF_root : (givF r c p).lookup ("root" : Str) = none := by kernel_rfl
theorem givF_finish : (givF r c p).lookup ("finish" : Str) = none := by kernel_rfl
theorem givF_imm {C dx : Addr} : ¬ Imm (.ins C dx (givF r c p)) := fun z => by
  have q : ((givF r c p).lookup ("entry" : Str)).isSome = false := by kernel_rfl
  have := z.1
  rw [q] at this
  cases this
theorem copyF_rule : (copyF r h n o).lookup ("_rule" : Str) = some r := by kernel_rfl
theorem copyF_head : (copyF r h n o).lookup ("_head" : Str) = some h := by kernel_rfl
theorem copyF_size : (copyF r h n o).lookup ("_size" : Str) = some n := by kernel_rfl
theorem copyF_rows : (copyF r h n o).lookup ("_rows" : Str) = some o := by kernel_rfl
theorem copyF_put : putF "_rows" p (copyF r h n o) = copyF r h n p := by kernel_rfl
theorem copyF_wanted : (copyF r h n o).lookup ("wanted" : Str) = none := by kernel_rfl
theorem copyF_add : (copyF r h n o).lookup ("add" : Str) = none := by kernel_rfl
theorem copyF_mrows : (copyF r h n o).lookup ("rows" : Str) = none := by kernel_rfl
theorem copyF_whole : (copyF r h n o).lookup ("is_whole" : Str) = none := by kernel_rfl
theorem copyF_imm {C dx : Addr} : ¬ Imm (.ins C dx (copyF r h n o)) := fun z => by
  have q : ((copyF r h n o).lookup ("entry" : Str)).isSome = false := by kernel_rfl
  have := z.1
  rw [q] at this
  cases this
theorem part_tree {C dx C' dx' : Addr} {l' e' a' b' : V} : (HO.ins C dx (partF l t n)) ≠ .ins C' dx' (treeF l' e' a' b') := fun z => by
  have := tree_imm (C := C') (dx := dx') (l := l') (e := e') (a := a') (b := b')
  rw [← z] at this
  exact partF_imm this
end
end
/-! ### as data, to be compared -/
structure Dx {α : Type} [DecidableEq α] (ok : α → Prop) (n : Nat) (f : α → PyData) : Prop where
  can : ∀ a, ok a → (f a).canLay0 = true
  dep : ∀ a, (f a).depth ≤ n
  eqv : ∀ a b, PyData.eqv (f a) (f b) = decide (a = b)
theorem Dx.shaped {α : Type} [DecidableEq α] {ok : α → Prop} {n : Nat} {f : α → PyData} (D : Dx ok n f) {a : α} (h : ok a) (hn : n ≤ 64 := by decide) : SeqAt.shaped (f a) = true := by
  have := D.dep a
  unfold SeqAt.shaped
  rw [D.can a h, Bool.true_and]
  exact decide_eq_true (by omega)
theorem beqD {α : Type} [BEq α] [LawfulBEq α] [DecidableEq α] (a b : α) : (a == b) = decide (a = b) := by
  rw [Bool.eq_iff_iff, beq_iff_eq, decide_eq_true_eq]
section
variable {α : Type} [DecidableEq α] {ok : α → Prop} {n : Nat} {f : α → PyData}
theorem Dx.canAll (D : Dx ok n f) : ∀ l : List α, (∀ a ∈ l, ok a) → PyData.canLayAll0 (l.map f) = true
  | [], _ => rfl
  | a :: l, h => by
    rw [List.map_cons, PyData.canLayAll0, D.can a (h a List.mem_cons_self), D.canAll l fun b hb => h b (List.mem_cons_of_mem _ hb)]
    rfl
theorem Dx.depAll (D : Dx ok n f) : ∀ l : List α, PyData.depthAll (l.map f) ≤ n
  | [] => Nat.zero_le _
  | a :: l => by
    rw [List.map_cons, PyData.depthAll]
    exact Nat.max_le.mpr ⟨D.dep a, D.depAll l⟩
theorem Dx.eqvAll (D : Dx ok n f) : ∀ l m : List α, PyData.eqvAll (l.map f) (m.map f) = decide (l = m)
  | [], [] => by simp [PyData.eqvAll]
  | [], _ :: _ => by simp [PyData.eqvAll]
  | _ :: _, [] => by simp [PyData.eqvAll]
  | a :: l, b :: m => by
    rw [List.map_cons, List.map_cons, PyData.eqvAll, D.eqv a b, D.eqvAll l m, ← Bool.decide_and]
    exact decide_eq_decide.mpr (by rw [List.cons.injEq])
theorem Dx.list (D : Dx ok n f) : Dx (fun l : List α => ∀ a ∈ l, ok a) (n + 1) (fun l => .list (l.map f)) where
  can l h := by simp only [PyData.canLay0]; exact D.canAll l h
  dep l := by simp only [PyData.depth]; exact Nat.succ_le_succ (D.depAll l)
  eqv l m := by simp only [PyData.eqv]; exact D.eqvAll l m
theorem Dx.tuple (D : Dx ok n f) : Dx (fun l : List α => ∀ a ∈ l, ok a) (n + 1) (fun l => .tuple (l.map f)) where
  can l h := by simp only [PyData.canLay0]; exact D.canAll l h
  dep l := by simp only [PyData.depth]; exact Nat.succ_le_succ (D.depAll l)
  eqv l m := by simp only [PyData.eqv]; exact D.eqvAll l m
end
theorem dxI : Dx (fun _ : Int => True) 0 PyData.int := ⟨fun _ _ => rfl, fun _ => Nat.le_refl _, fun a b => by simp only [PyData.eqv]; exact beqD a b⟩
abbrev SOk (x : Str) : Prop := PyData.strOk x = true
theorem dxS : Dx SOk 0 PyData.str := ⟨fun _ h => by simp only [PyData.canLay0]; exact h, fun _ => Nat.le_refl _, fun a b => by simp only [PyData.eqv]; exact beqD a b⟩
theorem key_sok {k : Str} (h : KeyOk k) : SOk k := by
  show (k.cps.all (· < 0x110000)) = true
  rw [← Array.all_toList, List.all_eq_true]
  intro c hc
  have q : ∀ c ∈ ("abcdefghijklmnopqrstuvwxyz0123456789" : Str).cps.toList, decide (c < 0x110000) = true := by decide +kernel
  exact q c (h.2.2 c hc)
def lkD (l : Lk) : PyData := .tuple [.int l.d, .int l.c, .tuple [.int l.s0, .int l.s1, .int l.s2]]
theorem dxL : Dx (fun _ : Lk => True) 2 lkD := by
  refine ⟨fun _ _ => rfl, fun a => by simp [lkD, PyData.depth, PyData.depthAll], fun a b => ?_⟩
  simp only [lkD, PyData.eqv, PyData.eqvAll, beqD, Bool.and_true, ← Bool.decide_and]
  refine decide_eq_decide.mpr ?_
  cases a; cases b
  simp
def prD (p : Pr) : PyData := .tuple [.str p.1, .tuple (p.2.map PyData.int)]
theorem dxP : Dx (fun p : Pr => SOk p.1) 2 prD := by
  refine ⟨fun p h => ?_, fun a => ?_, fun a b => ?_⟩
  · simp only [prD, PyData.canLay0, PyData.canLayAll0, Bool.and_true, Bool.and_eq_true]
    exact ⟨h, dxI.canAll _ fun _ _ => trivial⟩
  · have := dxI.depAll a.2
    simp only [prD, PyData.depth, PyData.depthAll]
    omega
  · simp only [prD, PyData.eqv, PyData.eqvAll, beqD, Bool.and_true, dxI.eqvAll, ← Bool.decide_and]
    exact decide_eq_decide.mpr (by rw [Prod.ext_iff])
abbrev tabD (t : Tab) : PyData := .list (t.map prD)
theorem dxT : Dx (fun t : Tab => ∀ p ∈ t, SOk p.1) 3 tabD := dxP.list
def toD : Told → PyData
  | .ans f => .tuple [.str "answer", tabD f]
  | .ref w n => .tuple [.str "refused", .str (word w), .int (n : Int)]
def ToOk : Told → Prop
  | .ans f => ∀ p ∈ f, SOk p.1
  | .ref _ _ => True
theorem word_inj : ∀ {w v : Wd}, word w = word v → w = v := by
  intro w v
  cases w <;> cases v <;> intro h <;> first | rfl | (exfalso; revert h; decide +kernel)
theorem dxA : Dx ToOk 4 toD := by
  refine ⟨fun t h => ?_, fun t => ?_, fun t u => ?_⟩
  · cases t with
    | ans f =>
      have q := dxT.can f h
      simp only [tabD] at q
      simp only [toD, PyData.canLay0, PyData.canLayAll0, Bool.and_true, Bool.and_eq_true]
      simp only [PyData.canLay0] at q
      exact ⟨by decide +kernel, q⟩
    | ref w n =>
      simp only [toD, PyData.canLay0, PyData.canLayAll0, Bool.and_true, Bool.and_eq_true]
      exact ⟨by decide +kernel, by cases w <;> decide +kernel⟩
  · cases t with
    | ans f =>
      have q := dxT.dep f
      simp only [toD, PyData.depth, PyData.depthAll] at q ⊢
      omega
    | ref w n =>
      simp only [toD, PyData.depth, PyData.depthAll]
      omega
  · cases t with
    | ans f =>
      cases u with
      | ans g =>
        have q := dxT.eqv f g
        simp only [tabD, PyData.eqv] at q
        simp only [toD, PyData.eqv, PyData.eqvAll, q, beq_self_eq_true, Bool.true_and, Bool.and_true]
        exact decide_eq_decide.mpr (by rw [Told.ans.injEq])
      | ref w n =>
        have q : (("answer" : Str) == "refused") = false := by decide +kernel
        simp [toD, PyData.eqv, PyData.eqvAll, q]
    | ref w n =>
      cases u with
      | ans g =>
        have q : (("refused" : Str) == "answer") = false := by decide +kernel
        simp [toD, PyData.eqv, PyData.eqvAll, q]
      | ref v m =>
        simp only [toD, PyData.eqv, PyData.eqvAll, beq_self_eq_true, Bool.true_and, Bool.and_true, beqD, ← Bool.decide_and]
        refine decide_eq_decide.mpr ?_
        rw [Told.ref.injEq]
        exact ⟨fun ⟨h, k⟩ => ⟨word_inj h, by omega⟩, fun ⟨h, k⟩ => ⟨by rw [h], by rw [k]⟩⟩
def quD (q : Str × Int) : PyData := .tuple [.str "next", .str q.1, .int q.2]
theorem dxQ : Dx (fun q : Str × Int => SOk q.1) 1 quD := by
  refine ⟨fun p h => ?_, fun a => ?_, fun a b => ?_⟩
  · simp only [quD, PyData.canLay0, PyData.canLayAll0, Bool.and_true, Bool.and_eq_true]
    exact ⟨by decide +kernel, h⟩
  · simp [quD, PyData.depth, PyData.depthAll]
  · simp only [quD, PyData.eqv, PyData.eqvAll, beq_self_eq_true, Bool.true_and, Bool.and_true, beqD, ← Bool.decide_and]
    exact decide_eq_decide.mpr (by rw [Prod.ext_iff])
section
variable {K : PySem.W.Frag} {H : Hp}
theorem dpAll {α : Type} {f : α → PyData} {R : V → α → Prop} (h : ∀ v a, R v a → Dp K H v (f a)) : ∀ {vs : List V} {as : List α}, A2 R vs as → DpAll K H vs (as.map f)
  | [], [], _ => .nil
  | _ :: _, _ :: _, ⟨r, t⟩ => .cons (h _ _ r) (dpAll h t)
theorem dpInts : ∀ ns : List Int, DpAll K H (ns.map V.int) (ns.map PyData.int)
  | [] => .nil
  | n :: ns => .cons (.int n) (dpInts ns)
theorem dpStrs : ∀ ns : List Str, DpAll K H (ns.map V.str) (ns.map PyData.str)
  | [] => .nil
  | n :: ns => .cons (.str n) (dpStrs ns)
theorem LkAt.dp {v : V} {l : Lk} : LkAt H v l → Dp K H v (lkD l) := fun ⟨_, _, e, h1, h2⟩ => by
  rw [e]
  exact .tup (SqT.of h1) (.cons (.int _) (.cons (.int _) (.cons (.tup (SqT.of h2) (.cons (.int _) (.cons (.int _) (.cons (.int _) .nil)))) .nil)))
theorem RowAt.dp {v : V} {r : List Int} : RowAt H v r → Dp K H v (.tuple (r.map PyData.int)) := fun ⟨_, e, h⟩ => by
  rw [e]
  exact .tup (SqT.of h) (dpInts r)
theorem PrAt.dp {v : V} {p : Pr} : PrAt H v p → Dp K H v (prD p) := fun ⟨_, _, e, h, r⟩ => by
  rw [e]
  exact .tup (SqT.of h) (.cons (.str _) (.cons r.dp .nil))
theorem LsAt.dp {a : Addr} {t : Tab} : LsAt PrAt H a t → Dp K H (.ref a) (tabD t) := fun ⟨_, h, r⟩ => .lst (SqL.of h) (dpAll (fun _ _ h => h.dp) r)
theorem ToAt.dp {v : V} : ∀ {t : Told}, ToAt H v t → Dp K H v (toD t)
  | .ans f, ⟨_, _, e, h, l⟩ => by
    rw [e]
    exact .tup (SqT.of h) (.cons (.str _) (.cons l.dp .nil))
  | .ref w n, ⟨_, e, h⟩ => by
    rw [e]
    exact .tup (SqT.of h) (.cons (.str _) (.cons (.str _) (.cons (.int _) .nil)))
theorem QuAt.dp {v : V} {k : Str} {n : Int} : QuAt H v k n → Dp K H v (quD (k, n)) := fun ⟨_, e, h⟩ => by
  rw [e]
  exact .tup (SqT.of h) (.cons (.str _) (.cons (.str _) (.cons (.int _) .nil)))
end
end RR
end
section
set_option Elab.async false
set_option linter.all false
set_option maxRecDepth 100000
set_option maxHeartbeats 4000000
/-! What every text below leans on: the classes' facts, defs with their promises as one package, the order of (int, text). -/
namespace RR
open PySem PySem.Spec PyProof.Rows L2
/-- where the classes stand -/
structure Ad where
  tree : Addr
  part : Addr
  node : Addr
  known : Addr
  given : Addr
  copy : Addr
  refd : Addr
structure Txt (K : PySem.W.Frag) (mg : Str → Option Value) (A : Ad) : Prop where
  tree : Cls K A.tree
  tL : NoAttr K A.tree "link"
  tE : NoAttr K A.tree "entry"
  tA : NoAttr K A.tree "left"
  tB : NoAttr K A.tree "right"
  part : Cls K A.part
  pL : NoAttr K A.part "link"
  pT : NoAttr K A.part "tree"
  pN : NoAttr K A.part "node"
  node : Cls K A.node
  nK : NoAttr K A.node "key"
  nR : NoAttr K A.node "row"
  nA : NoAttr K A.node "left"
  nB : NoAttr K A.node "right"
  known : Cls K A.known
  kR : NoAttr K A.known "rule"
  kE : NoAttr K A.known "entries"
  given : Cls K A.given
  gR : NoAttr K A.given "rule"
  gC : NoAttr K A.given "certificate"
  gP : NoAttr K A.given "position"
  copy : Cls K A.copy
  cR : NoAttr K A.copy "_rule"
  cH : NoAttr K A.copy "_head"
  cS : NoAttr K A.copy "_size"
  cO : NoAttr K A.copy "_rows"
  len : mg "len" = none
  all : mg "all" = none
  isinstance : mg "isinstance" = none
  str : mg "str" = none
  int : mg "int" = none
  bool : mg "bool" = none
  tuple : mg "tuple" = none
  list : mg "list" = none
  ord : mg "ord" = none
  range : mg "range" = none
  sorted : mg "sorted" = none
  set : mg "set" = none
  columns : ∃ t, mg "COLUMNS" = some (.int 3 t)
  most : ∃ t, mg "MOST_NUMBER" = some (.int 65535 t)
  letters : ∃ t, mg "LETTERS" = some (.str "abcdefghijklmnopqrstuvwxyz0123456789" t)
/-! ### a def, a method, a class's making: with the promise -/
def OkF (P : Program) (w : World) (K : PySem.W.Frag) (mg : Str → Option Value) (base : Heap) (CX : CXT) (k : Nat) (x : Str) (ps : List Str) (sp : Sp) : Prop :=
  ∃ f fd, mg x = some (.ref f) ∧ PySem.W.keepIn K (.ref f) = true ∧ Binds K fd ps [] ∧ FnOk P w K mg base CX k f fd ps sp
def OkM (P : Program) (w : World) (K : PySem.W.Frag) (mg : Str → Option Value) (base : Heap) (CX : CXT) (k : Nat) (C : Addr) (m : Str) (ps : List Str) (sp : Sp) : Prop :=
  ∃ f fd, Meth K C m f ∧ Binds K fd ps [] ∧ FnOk P w K mg base CX k f fd ps sp
def OkI (P : Program) (w : World) (K : PySem.W.Frag) (mg : Str → Option Value) (base : Heap) (CX : CXT) (k : Nat) (x : Str) (C : Addr) (ps : List Str) (sp : Sp) : Prop :=
  mg x = some (.ref C) ∧ ∃ f fd, Mk K C f ∧ Binds K fd ps [] ∧ FnOk P w K mg base CX k f fd ps sp
def tCl (sp : Sp) (E : XK) (t : TA) : TE := fun σ H Q => t σ H fun vs H1 => sp vs H1 Q E
def tMe (C : Addr) (m : Str) (sp : Sp) (E : XK) (ta : TE) (t : TA) : TE := fun σ H Q => ta σ H fun x H1 => ∃ a dx fs, x = .ref a ∧ H1 a = some (.ins C dx fs) ∧ fs.lookup m = none ∧
  t σ H1 fun vs H2 => sp (x :: vs) H2 Q E
def tMk (C : Addr) (sp : Sp) (E : XK) (t : TA) : TE := fun σ H Q => t σ H fun vs H1 => ∀ x dx, H1 x = none → H1 dx = none → dx ≠ x →
  sp (.ref x :: vs) (upd (upd H1 dx (.own x)) x (.ins C dx [])) (fun v H2 => v = .non ∧ Q (.ref x) H2) E
section
variable {X : Cx} {CX : CXT} {k : Nat} {C : Addr} {ps : List Str} {sp : Sp} {E : XK} {x m : Str} {p pos apos : Pos} {e o : Expr} {es : List Expr} {ta te : TE} {t : TA}
theorem tCall_eq (sp : Sp) (E : XK) (t : TA) : tCall sp [] E t = tCl sp E t := by
  funext σ H Q
  simp only [tCall, tCl, List.append_nil]
theorem tMeth_eq (sp : Sp) (E : XK) (t : TA) : tMeth C m sp [] E ta t = tMe C m sp E ta t := by
  funext σ H Q
  simp only [tMeth, tMe, List.append_nil]
theorem tMake_eq (sp : Sp) (E : XK) (t : TA) : tMake C sp [] E t = tMk C sp E t := by
  funext σ H Q
  simp only [tMake, tMk, List.append_nil]
theorem pe_f (O : OkF X.prog X.w X.K X.mg X.base CX k x ps sp) (hr : Room k X.A) (hx : Passes CX X E) (ha : PA X (e :: es) t) (hg : Gl X x := by rfl)
    (hdb : (x == ("__debug__" : Str)) = false := by decide) (he : starEach (e :: es) X.env = (false, eval e X.env) :: starEach es X.env := by rfl) (hpl : (backTo pos (starEach es X.env)).any (·.1) = false := by rfl) :
    PE X (.Call (.Name x p) (e :: es) [] pos) (tCl sp E t) := by
  obtain ⟨f, fd, g, kp, b, F⟩ := O
  rw [← tCall_eq]
  exact pe_call F hr hg g kp b .nil hx ha hdb he hpl
theorem pe_m {pl : Sem Bool} (c : Cls X.K C) (O : OkM X.prog X.w X.K X.mg X.base CX k C m ps sp) (hr : Room k X.A) (hx : Passes CX X E) (he : PE X o te) (ha : PA X (e :: es) t)
    (hst : starEach (e :: es) X.env = (false, eval e X.env) :: starEach es X.env := by rfl) (hpl : (backTo pos (starEach es X.env)).any (·.1) = false := by rfl)
    (ht : eval (.Call (.Attribute o m apos) (e :: es) [] pos) X.env = (do
      let ov ← eval o X.env
      standAt apos.atName
      let (f, first) ← holding [ov] (getMethod ov m pl)
      callWith pos f first (backTo pos (starEach (e :: es) X.env)) (backToKw pos (keywordEach [] X.env))) := by rfl) :
    PE X (.Call (.Attribute o m apos) (e :: es) [] pos) (tMe C m sp E te t) := by
  obtain ⟨f, fd, hm, b, F⟩ := O
  rw [← tMeth_eq]
  exact pe_meth (pl := pl) he c hm F hr b .nil hx ha hst hpl ht
theorem pe_m0 {pl : Sem Bool} (c : Cls X.K C) (O : OkM X.prog X.w X.K X.mg X.base CX k C m ps sp) (hr : Room k X.A) (hx : Passes CX X E) (he : PE X o te)
    (ht : eval (.Call (.Attribute o m apos) [] [] pos) X.env = (do
      let ov ← eval o X.env
      standAt apos.atName
      let (f, first) ← holding [ov] (getMethod ov m pl)
      callWith pos f first (backTo pos (starEach [] X.env)) (backToKw pos (keywordEach [] X.env))) := by rfl) :
    PE X (.Call (.Attribute o m apos) [] [] pos) (tMe C m sp E te tNil) := by
  obtain ⟨f, fd, hm, b, F⟩ := O
  rw [← tMeth_eq]
  exact pe_meth0 (pl := pl) he c hm F hr b .nil hx ht
theorem pe_c (O : OkI X.prog X.w X.K X.mg X.base CX k x C ps sp) (hr : Room (k + 1) X.A) (hx : Passes CX X E) (ha : PA X (e :: es) t) (hg : Gl X x := by rfl)
    (hdb : (x == ("__debug__" : Str)) = false := by decide) (he : starEach (e :: es) X.env = (false, eval e X.env) :: starEach es X.env := by rfl) (hpl : (backTo pos (starEach es X.env)).any (·.1) = false := by rfl) :
    PE X (.Call (.Name x p) (e :: es) [] pos) (tMk C sp E t) := by
  obtain ⟨g, f, fd, M, b, F⟩ := O
  rw [← tMake_eq]
  exact pe_make M F hr hg g b .nil hx ha hdb he hpl
theorem pe_gi {i : Int} (h : ∃ t, X.mg x = some (.int i t)) (hg : Gl X x := by rfl) (hdb : (x == ("__debug__" : Str)) = false := by decide) : PE X (.Name x p) (tC (.int i)) := by
  obtain ⟨t, h⟩ := h
  exact pe_glob hg h ⟨t, rfl⟩ (hd := hdb)
theorem pe_gs {i : Str} (h : ∃ t, X.mg x = some (.str i t)) (hg : Gl X x := by rfl) (hdb : (x == ("__debug__" : Str)) = false := by decide) : PE X (.Name x p) (tC (.str i)) := by
  obtain ⟨t, h⟩ := h
  exact pe_glob hg h ⟨t, rfl⟩ (hd := hdb)
end
/-! ### (i, s) < (j, t) -/
def rLtIS (K : PySem.W.Frag) : R2 := fun x y H Q => ∃ (a b : Addr) (i j : Int) (s t : Str), x = .ref a ∧ y = .ref b ∧ H a = some (.tup [.int i, .str s]) ∧ H b = some (.tup [.int j, .str t]) ∧ Q (.bl (decide (i < j ∨ i = j ∧ kb s t))) H
theorem lt_is (i j : Int) (s t : Str) : PySem.W.dataLt (.tuple [.int i, .str s]) (.tuple [.int j, .str t]) = decide (i < j ∨ i = j ∧ kb s t) := by
  rw [PySem.W.dataLt_pair (by simp only [PySem.W.alike]) (by simp only [PySem.W.alike]), PySem.W.dataLt_int, PySem.W.dataLt_str]
  simp only [PyData.eqv, beqD, decide_eq_true_eq]
  by_cases h : i = j
  · subst h
    rw [if_pos rfl]
    have e : (decide (i < i ∨ i = i ∧ kb s t)) = decide (kb s t) := decide_eq_decide.mpr ⟨fun z => z.elim (fun z => absurd z (Int.lt_irrefl _)) And.right, fun z => .inr ⟨rfl, z⟩⟩
    rw [e]
    by_cases q : s = t
    · subst q
      rw [if_pos rfl, decide_eq_false (kb_irrefl s)]
    · rw [if_neg q]
      rfl
  · rw [if_neg h]
    exact decide_eq_decide.mpr ⟨.inl, fun z => z.elim id fun z => absurd z.1 h⟩
section
variable {X : Cx}
theorem op_ltIS (hu : X.A.units + 64 < cLine) : OpR X (compareOp .Lt) (rLtIS X.K) := by
  intro pins s σ H x y v u Q I rx ry h
  obtain ⟨a, b, i, j, z, t, rfl, rfl, h1, h2, q⟩ := h
  obtain ⟨as, r1⟩ := Dp.reads I (.tuple [.int i, .str z]) (.ref a) v (.tup (SqT.of h1) (.cons (.int _) (.cons (.str _) .nil))) rx
  obtain ⟨bs, r2⟩ := Dp.reads I (.tuple [.int j, .str t]) (.ref b) u (.tup (SqT.of h2) (.cons (.int _) (.cons (.str _) .nil))) ry
  refine PySem.W.lt_data r1 r2 (by simp [PySem.W.alike, PySem.W.alikeAll]) (fun z => by cases z) ?_ ?_
  · have : min (PyData.depth (.tuple [.int i, .str z])) (PyData.depth (.tuple [.int j, .str t])) ≤ 64 := by simp [PyData.depth, PyData.depthAll]
    omega
  · rw [lt_is]
    exact ⟨.bl _, H, I, rfl, q⟩
end
theorem ixT (K : PySem.W.Frag) {X : Cx} (h : X.K = K := by rfl) : IxR X (rIxT K) := by
  subst h
  exact ix_tup
theorem ixL (K : PySem.W.Frag) {X : Cx} (h : X.K = K := by rfl) : IxR X (rIxL K) := by
  subst h
  exact ix_list
end RR
end
section
set_option Elab.async false
set_option linter.all false
set_option maxRecDepth 100000
set_option maxHeartbeats 4000000
/-! The plain defs: cells, encodings, digests, ranks, links. -/
namespace RR
open PySem PySem.Spec PyProof.Rows L2
def tp (i : Nat) : Stmt := PySem.Challenge.pw_rightrows_k30_whole_copies.main.body.getD i (.Pass ⟨0, 0, 0, 0⟩)
abbrev FnP (K : PySem.W.Frag) (x qual : Str) (st : Stmt) (f : Addr) (fd : FuncData) : Prop := FunD K x qual (defArgs st) (defBody st) (defScope st) [] [] f fd
theorem iteB {c : Bool} {A B : Prop} (h1 : c = true → A) (h2 : c = false → B) : if c = true then A else B := by
  cases c
  · rw [if_neg Bool.false_ne_true]; exact h2 rfl
  · rw [if_pos rfl]; exact h1 rfl
theorem iteD {p : Prop} [Decidable p] {A B : Prop} (h1 : p → A) (h2 : ¬ p → B) : if decide p = true then A else B := iteB (fun h => h1 (of_decide_eq_true h)) fun h => h2 (of_decide_eq_false h)
/-! ### promises -/
def spCell : Sp := fun vs H Q _ => ∃ (v : V) (r : List Int) (k : Nat), vs = [v, .int (k : Int)] ∧ RowAt H v r ∧ Q (.int (cell r k)) H
/-- a value and its encoding, less deep than so -/
def Enc (H : Hp) : Nat → V → List Int → Prop
  | 0, _, _ => False
  | n + 1, v, l => (∃ i, v = .int i ∧ l = encI i) ∨ (∃ x, v = .str x ∧ x.length ≤ 1000 ∧ l = encS x) ∨ ∃ a vs ls, v = .ref a ∧ H a = some (.tup vs) ∧ A2 (Enc H n) vs ls ∧ (encT ls).length ≤ 2000 ∧ l = encT ls
def spEnc (n : Nat) : Sp := fun vs H Q _ => ∃ v l, vs = [v] ∧ Enc H n v l ∧ ∀ H' p, Ext [] H H' → H p = none → H' p = some (.lst (l.map V.int)) → Q (.ref p) H'
def spDig (n : Nat) : Sp := fun vs H Q _ => ∃ r v u l, vs = [r, v] ∧ RuAt H r u ∧ Enc H n v l ∧ l.length ≤ 3000 ∧ ∀ H', Ext [] H H' → Q (.int (dig u l)) H'
section
variable {S : List Addr} {H H' : Hp}
theorem Enc.ext (e : Ext S H H') : ∀ {n : Nat} {v : V} {l : List Int}, Enc H n v l → Enc H' n v l
  | 0, _, _, h => h
  | n + 1, _, _, .inl h => .inl h
  | n + 1, _, _, .inr (.inl h) => .inr (.inl h)
  | n + 1, _, _, .inr (.inr ⟨a, vs, ls, e1, e2, e3, e4⟩) => .inr (.inr ⟨a, vs, ls, e1, e.tup e2, e3.imp fun _ _ => Enc.ext e, e4⟩)
theorem Enc.int {n : Nat} (i : Int) : Enc H (n + 1) (.int i) (encI i) := .inl ⟨i, rfl, rfl⟩
theorem Enc.str {n : Nat} {x : Str} (h : x.length ≤ 1000) : Enc H (n + 1) (.str x) (encS x) := .inr (.inl ⟨x, rfl, h, rfl⟩)
theorem Enc.tup {n : Nat} {a : Addr} {vs : List V} {ls : List (List Int)} (h : H a = some (.tup vs)) (r : A2 (Enc H n) vs ls) (hl : (encT ls).length ≤ 2000) : Enc H (n + 1) (.ref a) (encT ls) :=
  .inr (.inr ⟨a, vs, ls, rfl, h, r, hl, rfl⟩)
theorem enc_ints (n : Nat) : ∀ ns : List Int, A2 (Enc H (n + 1)) (ns.map V.int) (ns.map encI)
  | [] => trivial
  | i :: ns => ⟨Enc.int i, enc_ints n ns⟩
theorem encI_flat : ∀ ns : List Int, ((ns.map encI).flatten).length = 2 * ns.length
  | [] => rfl
  | n :: ns => by
    rw [List.map_cons, List.flatten_cons, List.length_append, encI_flat ns, List.length_cons]
    show 2 + _ = _
    omega
theorem encRow_len (r : List Int) : (encRow r).length = 2 + 2 * r.length := by
  show (2 :: ((r.map encI).length : Int) :: (r.map encI).flatten).length = _
  rw [List.length_cons, List.length_cons, encI_flat]
  omega
theorem encS_len (x : Str) : (encS x).length = 2 + x.length := by
  show (1 :: (x.length : Int) :: codes x).length = _
  rw [List.length_cons, List.length_cons]
  unfold codes
  rw [List.length_map, Array.length_toList]
  show _ = 2 + x.cps.size
  omega
theorem RowAt.enc {v : V} {r : List Int} (h : RowAt H v r) (hl : r.length ≤ 3) (n : Nat) : Enc H (n + 2) v (encRow r) := by
  obtain ⟨a, rfl, h⟩ := h
  refine Enc.tup h (enc_ints n r) ?_
  have := encRow_len r
  unfold encRow at this
  omega
theorem encLk_len (l : Lk) : (encLk l).length = 14 := rfl
theorem LkAt.enc {v : V} {l : Lk} (h : LkAt H v l) (n : Nat) : Enc H (n + 3) v (encLk l) := by
  obtain ⟨a, b, rfl, h1, h2⟩ := h
  refine Enc.tup h1 ⟨Enc.int _, Enc.int _, Enc.tup (ls := [encI l.s0, encI l.s1, encI l.s2]) h2 ⟨Enc.int _, Enc.int _, Enc.int _, trivial⟩ (by simp [encT, encI]), trivial⟩ (by
    show (encLk l).length ≤ 2000
    rw [encLk_len]
    decide)
/-- ('node',) + entry -/
theorem En.enc {a : Addr} {e : En} {rv lv mv : V} (h : H a = some (.tup [.str "node", .str e.key, rv, lv, mv])) (hr : RowAt H rv e.row) (hl : LkAt H lv e.l) (hm : LkAt H mv e.r) (hk : e.key.length ≤ 8) (hz : e.row.length ≤ 3) :
    Enc H 4 (.ref a) (encEn e) ∧ (encEn e).length ≤ 100 := by
  have q : (encEn e).length ≤ 100 := by
    unfold encEn encT
    simp only [List.length_cons, List.flatten_cons, List.length_append, List.flatten_nil, List.length_nil, encS_len, encRow_len, encLk_len]
    have : ("node" : Str).length = 4 := by decide +kernel
    omega
  refine ⟨Enc.tup h ⟨Enc.str (by decide +kernel), Enc.str (by omega), hr.enc hz 1, hl.enc 0, hm.enc 0, trivial⟩ ?_, q⟩
  unfold encEn at q
  omega
end
section
variable {P : Program} {w : World} {K : PySem.W.Frag} {mg : Str → Option Value} {base : Heap} {A : Ad} {f : Addr} {fd : FuncData}
abbrev s_cell : Stmt := tp 6
theorem sc_cell : FnScope ["row", "column"] ["row", "column"] (defScope s_cell) := ⟨rfl, rfl, rfl, by decide +kernel, rfl, by decide +kernel, by decide +kernel⟩
abbrev ps_cell : List Str := ["row", "column"]
abbrev sl_cell : List Str := ["row", "column"]
theorem ok_cell (F : FnP K "cell" "cell" s_cell f fd) (T : Txt K mg A) : FnOk P w K mg base CX0 1 f fd ps_cell spCell := by
  refine F.ok sc_cell (fun vs H Q E h => ?_) (fun cdv A outer s H vs Q E hr h => ?_)
  · obtain ⟨v, r, k, rfl, _⟩ := h
    rfl
  · obtain ⟨v, r, k, rfl, ⟨a, rfl, ha⟩, q⟩ := h
    refine ⟨_, PSs.nox (pss_one (ps_ret (pe_ifExp (pt_cmpR op_lt (pv 1) (pe_callB call_len_seq (by rfl) T.len PySem.boot_len (pa_cons (pv 0) pa_nil)) (nomark _)) (pe_ix ix_tup (pv 0) (pv 1) (fun _ _ => rfl)) pe_int))), ?_⟩
    refine ⟨_, rfl, _, rfl, a, _, rfl, .inr (SqT.of ha), _, _, rfl, rfl, _, rfl, iteD (fun c => ?_) fun c => ?_⟩
    · rw [List.length_map] at c
      have hk : k < r.length := by omega
      refine ⟨_, rfl, _, rfl, a, _, _, V.int (cell r k), rfl, rfl, SqT.of ha, atI_nat ?_, q⟩
      rw [List.getElem?_map, List.getElem?_eq_getElem hk]
      unfold cell
      rw [List.getD_eq_getElem?_getD, List.getElem?_eq_getElem hk]
      rfl
    · rw [List.length_map] at c
      have e : cell r k = 0 := by
        unfold cell
        rw [List.getD_eq_getElem?_getD, List.getElem?_eq_none (by omega)]
        rfl
      rw [e] at q
      exact q
abbrev s__law_cell : Stmt := tp 56
theorem sc__law_cell : FnScope ["_law_row_here", "_law_column"] ["_law_row_here", "_law_column"] (defScope s__law_cell) := ⟨rfl, rfl, rfl, by decide +kernel, rfl, by decide +kernel, by decide +kernel⟩
abbrev ps__law_cell : List Str := ["_law_row_here", "_law_column"]
abbrev sl__law_cell : List Str := ["_law_row_here", "_law_column"]
theorem ok__law_cell (F : FnP K "_law_cell" "_law_cell" s__law_cell f fd) (T : Txt K mg A) : FnOk P w K mg base CX0 1 f fd ps__law_cell spCell := by
  refine F.ok sc__law_cell (fun vs H Q E h => ?_) (fun cdv A outer s H vs Q E hr h => ?_)
  · obtain ⟨v, r, k, rfl, _⟩ := h
    rfl
  · obtain ⟨v, r, k, rfl, ⟨a, rfl, ha⟩, q⟩ := h
    refine ⟨_, PSs.nox (pss_cons (ps_if (pt_cmpR op_lt (pv 1) (pe_callB call_len_seq (by rfl) T.len PySem.boot_len (pa_cons (pv 0) pa_nil)) (nomark _))
          (pss_one (ps_ret (pe_ix ix_tup (pv 0) (pv 1) (fun _ _ => rfl))))
          (pss_nil))
        (pss_one (ps_ret pe_int))), ?_⟩
    refine ⟨_, rfl, _, rfl, a, _, rfl, .inr (SqT.of ha), _, _, rfl, rfl, _, rfl, iteD (fun c => ?_) fun c => ?_⟩
    · rw [List.length_map] at c
      have hk : k < r.length := by omega
      refine ⟨_, rfl, _, rfl, a, _, _, V.int (cell r k), rfl, rfl, SqT.of ha, atI_nat ?_, q⟩
      rw [List.getElem?_map, List.getElem?_eq_getElem hk]
      unfold cell
      rw [List.getD_eq_getElem?_getD, List.getElem?_eq_getElem hk]
      rfl
    · rw [List.length_map] at c
      have e : cell r k = 0 := by
        unfold cell
        rw [List.getD_eq_getElem?_getD, List.getElem?_eq_none (by omega)]
        rfl
      rw [e] at q
      exact q
end
end RR
end
section
set_option Elab.async false
set_option linter.all false
set_option maxRecDepth 100000
set_option maxHeartbeats 4000000
/-! Encodings, ranks. -/
namespace RR
open PySem PySem.Spec PyProof.Rows L2
theorem foldl_next {α β : Type} {f : β → α → β} {b : β} {l : List α} {i : Nat} {a : α} (h : l[i]? = some a) : (l.take (i + 1)).foldl f b = f ((l.take i).foldl f b) a := by
  rw [List.take_add_one, h, List.foldl_append]
  rfl
theorem take_next {α : Type} {l : List α} {i : Nat} {a : α} (h : l[i]? = some a) : l.take (i + 1) = l.take i ++ [a] := by
  rw [List.take_add_one, h]
  rfl
theorem codes_at {x : Str} {i c : Nat} (h : x.cps[i]? = some c) : (codes x)[i]? = some (c : Int) := by
  unfold codes
  rw [List.getElem?_map, Array.getElem?_toList, h]
  rfl
theorem codes_len (x : Str) : (codes x).length = x.cps.size := by
  unfold codes
  rw [List.length_map, Array.length_toList]
theorem smallS {n : Nat} (h : n ≤ 3000) : n ≤ sizeLine := Nat.le_trans h (by decide)
theorem smallT {n : Nat} (h : n ≤ 3000) : n < sizeLine := Nat.lt_of_le_of_lt h (by decide)
/-! ### promises -/
def spRank : Sp := fun vs H Q _ => ∃ x : Str, vs = [.str x] ∧ x.length ≤ 1000 ∧ ∀ H', Ext [] H H' → Q (.int (rank x)) H'
def spCodes : Sp := fun vs H Q _ => ∃ x : Str, vs = [.str x] ∧ x.length ≤ 1000 ∧ ∀ H' p, Ext [] H H' → H p = none → H' p = some (.lst ((codes x).map V.int)) → Q (.ref p) H'
theorem rank_take {x : Str} {i c : Nat} (h : x.cps[i]? = some c) : ((codes x).take (i + 1)).foldl rankF 7 = (((codes x).take i).foldl rankF 7 * 131 + (c : Int)) % 1000003 := by
  rw [foldl_next (codes_at h)]
  rfl
section
variable {P : Program} {w : World} {K : PySem.W.Frag} {mg : Str → Option Value} {base : Heap} {A : Ad} {f : Addr} {fd : FuncData}
abbrev s_rank : Stmt := tp 11
theorem sc_rank : FnScope ["key", "found", "letter"] ["key"] (defScope s_rank) := ⟨rfl, rfl, rfl, by decide +kernel, rfl, by decide +kernel, by decide +kernel⟩
abbrev ps_rank : List Str := ["key"]
abbrev sl_rank : List Str := ["key", "found", "letter"]
theorem ok_rank (F : FnP K "rank" "rank" s_rank f fd) (T : Txt K mg A) : FnOk P w K mg base CX0 1 f fd ps_rank spRank := by
  refine F.ok sc_rank (fun vs H Q E h => ?_) (fun cdv A outer s H vs Q E hr h => ?_)
  · obtain ⟨x, rfl, _⟩ := h
    rfl
  · obtain ⟨x, rfl, hx, q⟩ := h
    refine ⟨_, PSs.nox (pss_cons (ps_set (i := 1) sc_rank.nd rfl (Or.inl rfl) pe_int)
        (pss_cons (ps_for PassesOwn.never rfl (pi_str (pv 0)) (pg_name (i := 2) sc_rank.nd rfl (Or.inl rfl))
          (pss_one (ps_set (i := 1) sc_rank.nd rfl (Or.inl rfl) (pe_op op_mod (pe_op op_add (pe_op op_mul (pv 1) pe_int) (pe_callB call_ord (by rfl) T.ord (by decide +kernel) (pa_cons (pv 2) pa_nil))) pe_int))))
        (pss_one (ps_ret (pv 1))))), ?_⟩
    refine ⟨_, rfl, x, rfl, for_it walk_str (fun i σ H' => H' = H ∧ ∃ z, σ = [some (.str x), some (.int (((codes x).take i).foldl rankF 7)), z]) ⟨rfl, none, rfl⟩ (fun _ _ _ _ _ => trivial) ?_ ?_⟩
    · rintro i y σ H0 H' hi ⟨rfl, z, rfl⟩ ⟨rfl, c, hc, rfl⟩
      refine ⟨_, rfl, _, _, rfl, rfl, .inr (by decide), _, rfl, _, rfl, rfl, _, _, rfl, rfl, _, _, rfl, rfl, (by show (0 : Int) < 1000003; decide), rfl, some (.str ⟨#[c]⟩), ?_⟩
      rw [rank_take hc]
      rfl
    · rintro σ H' ⟨rfl, z, rfl⟩
      refine ⟨_, rfl, ?_⟩
      have e : ((codes x).take x.cps.size).foldl rankF 7 = rank x := by
        rw [List.take_of_length_le (by rw [codes_len]; exact Nat.le_refl _)]
        rfl
      show Q (.int (((codes x).take x.cps.size).foldl rankF 7)) H'
      rw [e]
      exact q _ (Ext.refl _ _)
abbrev s__law_codes : Stmt := tp 49
theorem sc__law_codes : FnScope ["_law_text", "_law_letter"] ["_law_text"] (defScope s__law_codes) := ⟨rfl, rfl, rfl, by decide +kernel, rfl, by decide +kernel, by decide +kernel⟩
abbrev ps__law_codes : List Str := ["_law_text"]
abbrev sl__law_codes : List Str := ["_law_text", "_law_letter"]
theorem ok__law_codes (F : FnP K "_law_codes" "_law_codes" s__law_codes f fd) (T : Txt K mg A) : FnOk P w K mg base CX0 1 f fd ps__law_codes spCodes := by
  refine F.ok sc__law_codes (fun vs H Q E h => ?_) (fun cdv A outer s H vs Q E hr h => ?_)
  · obtain ⟨x, rfl, _⟩ := h
    rfl
  · obtain ⟨x, rfl, hx, q⟩ := h
    refine ⟨_, PSs.nox (pss_one (ps_ret (pe_lc (own := [("_law_letter", 1)]) (g := gName 1) rfl sc__law_codes.nd (pi_str (pv 0)) (blkOk_by (own := [("_law_letter", 1)]) (N := ["_law_text", "_law_letter"]) (sc := defScope s__law_codes) (by decide +kernel)) (fun _ _ _ _ _ => pg_name (i := 1) sc__law_codes.nd rfl (Or.inl rfl)) (fun _ _ _ _ _ => pts_nil) (fun _ _ _ _ _ => (pe_callB call_ord (by rfl) T.ord (by decide +kernel) (pa_cons (pv 1) pa_nil)))))), ?_⟩
    refine ⟨_, rfl, x, rfl, fun D hD => lc_it walk_str (fun i H' => Ext [] H H' ∧ H' D = some (.lst (((codes x).take i).map V.int))) ⟨Ext.new hD, upd_same⟩ (fun _ _ _ _ => trivial) ?_ ?_⟩
    · rintro i y H0 H' hi ⟨e, h1⟩ ⟨rfl, c, hc, rfl⟩
      refine ⟨rfl, ?_⟩
      refine ⟨_, rfl, _, rfl, rfl, _, h1, ?_, e.then (S' := [D]) (Ext.wrL h1 List.mem_cons_self) (fun b hb => .inr (by rw [List.mem_singleton.mp hb]; exact hD)), ?_⟩
      · rw [List.length_map, List.length_take]
        have : x.length = x.cps.size := rfl
        exact smallT (by omega)
      · rw [upd_same, take_next (codes_at hc), List.map_append]
        rfl
    · rintro H' ⟨e, h1⟩
      rw [List.take_of_length_le (by rw [codes_len]; exact Nat.le_refl _)] at h1
      exact q H' D e hD h1
abbrev s_encode : Stmt := tp 8
theorem sc_encode : FnScope ["value", "made", "one", "letter"] ["value"] (defScope s_encode) := ⟨rfl, rfl, rfl, by decide +kernel, rfl, by decide +kernel, by decide +kernel⟩
abbrev ps_encode : List Str := ["value"]
abbrev sl_encode : List Str := ["value", "made", "one", "letter"]
theorem ok_encode (F : FnP K "encode" "encode" s_encode f fd) (T : Txt K mg A) (g : mg "encode" = some (.ref f)) (b : Binds K fd ps_encode []) : ∀ n, FnOk P w K mg base CX0 n f fd ps_encode (spEnc n) := by
  intro n
  induction n with
  | zero => exact ⟨fun vs H Q E ⟨_, _, _, h, _⟩ => h.elim, fun A outer s H args us vs Q E _ _ _ _ ⟨_, _, _, h, _⟩ => h.elim⟩
  | succ n ih =>
    have O_encode : OkF P w K mg base CX0 n "encode" ps_encode (spEnc n) := ⟨f, fd, g, F.kp, b, ih⟩
    refine F.ok sc_encode (fun vs H Q E h => ?_) (fun cdv A outer s H vs Q E hr h => ?_)
    · obtain ⟨x, l, rfl, _⟩ := h
      rfl
    · obtain ⟨v, l, rfl, hE, q⟩ := h
      refine ⟨_, PSs.nox (pss_cons (ps_if (pt_val (pe_callB call_isi (by rfl) T.isinstance (by decide +kernel) (pa_cons (pv 0) (pa_cons (pe_bltn (v := .ty "str") (by rfl) T.str (by decide +kernel) rfl) pa_nil))))
          (pss_one (ps_ret (pe_op op_cat (pe_lst (pa_cons pe_int (pa_cons (pe_callB call_len (by rfl) T.len PySem.boot_len (pa_cons (pv 0) pa_nil)) pa_nil))) (pe_lc (own := [("letter", 3)]) (g := gName 3) rfl sc_encode.nd (pi_str (pv 0)) (blkOk_by (own := [("letter", 3)]) (N := ["value", "made", "one", "letter"]) (sc := defScope s_encode) (by decide +kernel)) (fun _ _ _ _ _ => pg_name (i := 3) sc_encode.nd rfl (Or.inl rfl)) (fun _ _ _ _ _ => pts_nil) (fun _ _ _ _ _ => (pe_callB call_ord (by rfl) T.ord (by decide +kernel) (pa_cons (pv 3) pa_nil)))))))
          (pss_nil))
        (pss_cons (ps_if (pt_val (pe_callB call_isi (by rfl) T.isinstance (by decide +kernel) (pa_cons (pv 0) (pa_cons (pe_bltn (v := .ty "tuple") (by rfl) T.tuple (by decide +kernel) rfl) pa_nil))))
          (pss_cons (ps_set (i := 1) sc_encode.nd rfl (Or.inl rfl) (pe_lst (pa_cons pe_int (pa_cons (pe_callB call_len (by rfl) T.len PySem.boot_len (pa_cons (pv 0) pa_nil)) pa_nil))))
          (pss_cons (ps_for PassesOwn.never rfl (pi_tup (pv 0)) (pg_name (i := 2) sc_encode.nd rfl (Or.inl rfl))
            (pss_one (ps_aug (i := 1) sc_encode.nd rfl (Or.inl rfl) (pe_f O_encode hr pass0 (pa_cons (pv 2) pa_nil)) iop_ext)))
          (pss_one (ps_ret (pv 1)))))
          (pss_nil))
        (pss_one (ps_ret (pe_lst (pa_cons pe_int (pa_cons (pv 0) pa_nil))))))), ?_⟩
      rcases hE with ⟨i, rfl, rfl⟩ | ⟨x, rfl, hx, rfl⟩ | ⟨a, us, ls, rfl, ha, hA, hz, rfl⟩
      · refine ⟨_, rfl, _, _, _, _, false, rfl, .ty _, .base (.int i), kit_ty (by decide +kernel), _, rfl, ?_⟩
        refine iteF ?_
        refine ⟨_, rfl, _, _, _, _, false, rfl, .ty _, .base (.int i), kit_ty (by decide +kernel), _, rfl, ?_⟩
        refine iteF ?_
        refine ⟨_, rfl, (by show 2 ≤ sizeLine; decide), fun p hp => q _ p (Ext.new hp) hp upd_same⟩
      · have hx2 : x.cps.size ≤ 1000 := hx
        refine ⟨_, rfl, _, _, _, _, true, rfl, .ty _, .base (.str x), kit_ty (by decide +kernel), _, rfl, ?_⟩
        refine iteT ?_
        refine ⟨_, rfl, _, _, rfl, ⟨smallS (Nat.le_trans hx (by decide)), rfl⟩, (by show 2 ≤ sizeLine; decide), fun p hp => ⟨_, rfl, x, rfl, fun D hD => ?_⟩⟩
        have hpD : p ≠ D := fun z => by rw [← z, upd_same] at hD; cases hD
        have hD0 : H D = none := (upd_dom hD).1
        refine lc_it walk_str (fun i H' => Ext [] H H' ∧ H' p = some (.lst [.int 1, .int (x.length : Nat)]) ∧ H' D = some (.lst (((codes x).take i).map V.int)))
          ⟨(Ext.new hp).new2 hD, by rw [upd_ne hpD, upd_same], upd_same⟩ (fun _ _ _ _ => trivial) ?_ ?_
        · rintro i y H0 H' hi ⟨e, hp1, h1⟩ ⟨rfl, c, hc, rfl⟩
          refine ⟨rfl, ?_⟩
          refine ⟨_, rfl, _, rfl, rfl, _, h1, ?_, e.then (S' := [D]) (Ext.wrL h1 List.mem_cons_self) (fun b hb => .inr (by rw [List.mem_singleton.mp hb]; exact hD0)), by rw [upd_ne hpD]; exact hp1, ?_⟩
          · rw [List.length_map, List.length_take]
            exact smallT (by omega)
          · rw [upd_same, take_next (codes_at hc), List.map_append]
            rfl
        · rintro H' ⟨e, hp1, h1⟩
          rw [List.take_of_length_le (by rw [codes_len]; exact Nat.le_refl _)] at h1
          refine ⟨_, _, _, _, rfl, rfl, hp1, h1, ?_, fun r hr => q _ r (e.new2 hr) (e.dom r hr) ?_⟩
          · rw [List.length_map, codes_len]
            show 2 + x.cps.size ≤ _
            exact smallS (by omega)
          · rw [upd_same]
            rfl
      · have hlen := hA.length
        refine ⟨_, rfl, _, _, _, _, false, rfl, .ty _, .base (.tup ha), kit_ty (by decide +kernel), _, rfl, ?_⟩
        refine iteF ?_
        refine ⟨_, rfl, _, _, _, _, true, rfl, .ty _, .base (.tup ha), kit_ty (by decide +kernel), _, rfl, ?_⟩
        refine iteT ?_
        refine ⟨_, rfl, _, _, rfl, .inr ⟨_, SqT.of ha, rfl⟩, (by show 2 ≤ sizeLine; decide), fun m hm => ?_⟩
        refine ⟨_, rfl, a, rfl, ⟨_, SqT.of (Ext.tup (Ext.new (S := []) hm) ha)⟩, for_tup (fun i σ H' => Ext [] H H' ∧ (∃ z1 z2, σ = [some (.ref a), some (.ref m), z1, z2]) ∧ H' m = some (.lst ((2 :: (ls.length : Int) :: (ls.take i).flatten).map V.int))) ?_ (fun i σ H' _ ⟨e, _⟩ => SqT.of (e.tup ha)) ?_ ?_⟩
        · refine ⟨Ext.new hm, ⟨none, none, rfl⟩, ?_⟩
          rw [upd_same, hlen]
          rfl
        · rintro i y σ H' hi ⟨e, ⟨z1, z2, rfl⟩, h1⟩
          obtain ⟨l, hl, hE⟩ := hA.getV hi
          refine ⟨_, rfl, _, rfl, y, l, rfl, hE.ext e, fun H2 p e2 hp hp2 => ?_⟩
          have hpm : m ≠ p := fun z => by rw [← z, h1] at hp; cases hp
          have h2 := e2.lst h1 (by simp)
          have hfl : (ls.take (i + 1)).flatten.length ≤ 2000 := by
            have z : (encT ls).length = 2 + ls.flatten.length := by
              show (2 :: (ls.length : Int) :: ls.flatten).length = _
              rw [List.length_cons, List.length_cons]
              omega
            have z2 : ls.flatten = (ls.take (i + 1)).flatten ++ (ls.drop (i + 1)).flatten := by rw [← List.flatten_append, List.take_append_drop]
            rw [z2, List.length_append] at z
            omega
          rw [take_next hl, List.flatten_append, List.flatten_cons, List.flatten_nil, List.append_nil] at hfl
          refine ⟨m, p, _, _, rfl, rfl, h2, hp2, ?_, ?_⟩
          · rw [List.length_append] at hfl
            simp only [List.length_map, List.length_cons]
            exact smallS (by omega)
          · refine ⟨(e.trans e2).then (S' := [m]) (Ext.wrL h2 List.mem_cons_self) (fun b hb => .inr (by rw [List.mem_singleton.mp hb]; exact hm)), ⟨_, _, rfl⟩, ?_⟩
            rw [upd_same, take_next hl, List.flatten_append, List.flatten_cons, List.flatten_nil, List.append_nil, ← List.map_append]
            rfl
        · rintro σ H' ⟨e, ⟨z1, z2, rfl⟩, h1⟩
          rw [hlen, List.take_length] at h1
          exact ⟨_, rfl, q H' m e hm h1⟩
end
end RR
end
section
set_option Elab.async false
set_option linter.all false
set_option maxRecDepth 100000
set_option maxHeartbeats 4000000
/-! The law's encodings; digests, links. -/
namespace RR
open PySem PySem.Spec PyProof.Rows L2
theorem one_new {H : Hp} {m : Addr} (hm : H m = none) : ∀ b ∈ [m], b ∈ ([] : List Addr) ∨ H b = none := fun b hb => .inr (by rw [List.mem_singleton.mp hb]; exact hm)
def spLk : Sp := fun vs H Q _ => ∃ r u, vs = [r] ∧ RuAt H r u ∧ ∀ H' v, Ext [] H H' → LkAt H' v (emLk u) → Q v H'
def spEnLk : Sp := fun vs H Q _ => ∃ r v u e, vs = [r, v] ∧ RuAt H r u ∧ EnAt H v e ∧ EnOk e ∧ ∀ H' v, Ext [] H H' → LkAt H' v (mkLk u e) → Q v H'
def spOut : Sp := fun vs H Q _ => ∃ x y : Str, vs = [.str x, .str y] ∧ x.length ≤ 1000 ∧ y.length ≤ 1000 ∧ ∀ H', Ext [] H H' → Q (.bl (decide (rank y < rank x ∨ rank y = rank x ∧ kb x y))) H'
theorem ru_lt (u : Ru) : -(2 ^ 64) < u.b ∧ u.b < 2 ^ 64 := by
  have := u.hb
  omega
theorem mod_pos (u : Ru) : (0 : Int) < u.m := by
  have := u.hm
  omega
theorem one_mod (u : Ru) : (1 : Int) % u.m = 1 := by
  have := u.hm
  exact Int.emod_eq_of_lt (by omega) (by omega)
theorem dig_next {u : Ru} {l : List Int} {i : Nat} {a : Int} (h : l[i]? = some a) : (l.take (i + 1)).foldl (digF u) 1 = ((l.take i).foldl (digF u) 1 * u.b + a + 1) % u.m := by
  rw [foldl_next h]
  rfl
section
variable {P : Program} {w : World} {K : PySem.W.Frag} {mg : Str → Option Value} {base : Heap} {A : Ad} {f : Addr} {fd : FuncData}
abbrev s__law_encode : Stmt := tp 50
theorem sc__law_encode : FnScope ["_law_value", "_law_made", "_law_one"] ["_law_value"] (defScope s__law_encode) := ⟨rfl, rfl, rfl, by decide +kernel, rfl, by decide +kernel, by decide +kernel⟩
abbrev ps__law_encode : List Str := ["_law_value"]
abbrev sl__law_encode : List Str := ["_law_value", "_law_made", "_law_one"]
theorem ok__law_encode (F : FnP K "_law_encode" "_law_encode" s__law_encode f fd) (T : Txt K mg A) (g : mg "_law_encode" = some (.ref f)) (b : Binds K fd ps__law_encode []) (O__law_codes : OkF P w K mg base CX0 1 "_law_codes" ps__law_codes spCodes) : ∀ n, FnOk P w K mg base CX0 (n + 1) f fd ps__law_encode (spEnc n) := by
  intro n
  induction n with
  | zero => exact ⟨fun vs H Q E ⟨_, _, _, h, _⟩ => h.elim, fun A outer s H args us vs Q E _ _ _ _ ⟨_, _, _, h, _⟩ => h.elim⟩
  | succ n ih =>
    have O__law_encode : OkF P w K mg base CX0 (n + 1) "_law_encode" ps__law_encode (spEnc n) := ⟨f, fd, g, F.kp, b, ih⟩
    refine F.ok sc__law_encode (fun vs H Q E h => ?_) (fun cdv A outer s H vs Q E hr h => ?_)
    · obtain ⟨x, l, rfl, _⟩ := h
      rfl
    · obtain ⟨v, l, rfl, hE, q⟩ := h
      have hr1 : Room 1 _ := hr.mono (by omega)
      refine ⟨_, PSs.nox (pss_cons (ps_if (pt_val (pe_callB call_isi (by rfl) T.isinstance (by decide +kernel) (pa_cons (pv 0) (pa_cons (pe_bltn (v := .ty "str") (by rfl) T.str (by decide +kernel) rfl) pa_nil))))
          (pss_one (ps_ret (pe_op op_cat (pe_lst (pa_cons pe_int (pa_cons (pe_callB call_len (by rfl) T.len PySem.boot_len (pa_cons (pv 0) pa_nil)) pa_nil))) (pe_f O__law_codes hr1 pass0 (pa_cons (pv 0) pa_nil)))))
          (pss_nil))
        (pss_cons (ps_if (pt_val (pe_callB call_isi (by rfl) T.isinstance (by decide +kernel) (pa_cons (pv 0) (pa_cons (pe_bltn (v := .ty "tuple") (by rfl) T.tuple (by decide +kernel) rfl) pa_nil))))
          (pss_cons (ps_set (i := 1) sc__law_encode.nd rfl (Or.inl rfl) (pe_lst (pa_cons pe_int (pa_cons (pe_callB call_len (by rfl) T.len PySem.boot_len (pa_cons (pv 0) pa_nil)) pa_nil))))
          (pss_cons (ps_for PassesOwn.never rfl (pi_tup (pv 0)) (pg_name (i := 2) sc__law_encode.nd rfl (Or.inl rfl))
            (pss_one (ps_set (i := 1) sc__law_encode.nd rfl (Or.inl rfl) (pe_op op_cat (pv 1) (pe_f O__law_encode hr pass0 (pa_cons (pv 2) pa_nil))))))
          (pss_one (ps_ret (pv 1)))))
          (pss_nil))
        (pss_one (ps_ret (pe_lst (pa_cons pe_int (pa_cons (pv 0) pa_nil))))))), ?_⟩
      rcases hE with ⟨i, rfl, rfl⟩ | ⟨x, rfl, hx, rfl⟩ | ⟨a, us, ls, rfl, ha, hA, hz, rfl⟩
      · refine ⟨_, rfl, _, _, _, _, false, rfl, .ty _, .base (.int i), kit_ty (by decide +kernel), _, rfl, ?_⟩
        refine iteF ?_
        refine ⟨_, rfl, _, _, _, _, false, rfl, .ty _, .base (.int i), kit_ty (by decide +kernel), _, rfl, ?_⟩
        refine iteF ?_
        refine ⟨_, rfl, (by show 2 ≤ sizeLine; decide), fun p hp => q _ p (Ext.new hp) hp upd_same⟩
      · have hx2 : x.cps.size ≤ 1000 := hx
        refine ⟨_, rfl, _, _, _, _, true, rfl, .ty _, .base (.str x), kit_ty (by decide +kernel), _, rfl, ?_⟩
        refine iteT ?_
        refine ⟨_, rfl, _, _, rfl, ⟨smallS (Nat.le_trans hx (by decide)), rfl⟩, (by show 2 ≤ sizeLine; decide), fun p hp => ⟨_, rfl, x, rfl, hx, fun H2 D e hD h1 => ?_⟩⟩
        have hp1 := e.lst (upd_same (H := H) (a := p)) (by simp)
        refine ⟨_, _, _, _, rfl, rfl, hp1, h1, ?_, fun r hr => q _ r (((Ext.new hp).trans e).new2 hr) (upd_dom (e.dom r hr)).1 ?_⟩
        · rw [List.length_map, codes_len]
          show 2 + x.cps.size ≤ _
          exact smallS (by omega)
        · rw [upd_same]
          rfl
      · have hlen := hA.length
        refine ⟨_, rfl, _, _, _, _, false, rfl, .ty _, .base (.tup ha), kit_ty (by decide +kernel), _, rfl, ?_⟩
        refine iteF ?_
        refine ⟨_, rfl, _, _, _, _, true, rfl, .ty _, .base (.tup ha), kit_ty (by decide +kernel), _, rfl, ?_⟩
        refine iteT ?_
        refine ⟨_, rfl, _, _, rfl, .inr ⟨_, SqT.of ha, rfl⟩, (by show 2 ≤ sizeLine; decide), fun m hm => ?_⟩
        refine ⟨_, rfl, a, rfl, ⟨_, SqT.of (Ext.tup (Ext.new (S := []) hm) ha)⟩, for_tup (fun i σ H' => Ext [] H H' ∧ ∃ m, (∃ z2, σ = [some (.ref a), some (.ref m), z2]) ∧ H m = none ∧ H' m = some (.lst ((2 :: (ls.length : Int) :: (ls.take i).flatten).map V.int))) ?_ (fun i σ H' _ ⟨e, _⟩ => SqT.of (e.tup ha)) ?_ ?_⟩
        · refine ⟨Ext.new hm, m, ⟨none, rfl⟩, hm, ?_⟩
          rw [upd_same, hlen]
          rfl
        · rintro i y σ H' hi ⟨e, m, ⟨z2, rfl⟩, hm, h1⟩
          obtain ⟨l, hl, hE⟩ := hA.getV hi
          refine ⟨_, rfl, _, rfl, y, l, rfl, hE.ext e, fun H2 p e2 hp hp2 => ?_⟩
          have h2 := e2.lst h1 (by simp)
          have hfl : (ls.take (i + 1)).flatten.length ≤ 2000 := by
            have z : (encT ls).length = 2 + ls.flatten.length := by
              show (2 :: (ls.length : Int) :: ls.flatten).length = _
              rw [List.length_cons, List.length_cons]
              omega
            have z2 : ls.flatten = (ls.take (i + 1)).flatten ++ (ls.drop (i + 1)).flatten := by rw [← List.flatten_append, List.take_append_drop]
            rw [z2, List.length_append] at z
            omega
          rw [take_next hl, List.flatten_append, List.flatten_cons, List.flatten_nil, List.append_nil] at hfl
          refine ⟨m, p, _, _, rfl, rfl, h2, hp2, ?_, fun r hr => ⟨(e.trans e2).new2 hr, r, ⟨_, rfl⟩, (e.trans e2).dom r hr, ?_⟩⟩
          · rw [List.length_append] at hfl
            simp only [List.length_map, List.length_cons]
            exact smallS (by omega)
          · rw [upd_same, take_next hl, List.flatten_append, List.flatten_cons, List.flatten_nil, List.append_nil, ← List.map_append]
            rfl
        · rintro σ H' ⟨e, m, ⟨z2, rfl⟩, hm, h1⟩
          rw [hlen, List.take_length] at h1
          exact ⟨_, rfl, q H' m e hm h1⟩
abbrev s_digest : Stmt := tp 9
theorem sc_digest : FnScope ["rule", "value", "base", "modulus", "numbers", "found", "number"] ["rule", "value"] (defScope s_digest) := ⟨rfl, rfl, rfl, by decide +kernel, rfl, by decide +kernel, by decide +kernel⟩
abbrev ps_digest : List Str := ["rule", "value"]
abbrev sl_digest : List Str := ["rule", "value", "base", "modulus", "numbers", "found", "number"]
theorem ok_digest (F : FnP K "digest" "digest" s_digest f fd) (T : Txt K mg A) (O_encode : OkF P w K mg base CX0 4 "encode" ps_encode (spEnc 4)) : FnOk P w K mg base CX0 5 f fd ps_digest (spDig 4) := by
  refine F.ok sc_digest (fun vs H Q E h => ?_) (fun cdv A outer s H vs Q E hr h => ?_)
  · obtain ⟨r, v, u, l, rfl, _⟩ := h
    rfl
  · obtain ⟨r, v, u, l, rfl, ⟨a, rfl, ha⟩, hE, hl, q⟩ := h
    refine ⟨_, PSs.nox (pss_cons (ps_asg (pv 0) (pg_tup (by rfl) (pgs_cons (pg_name (i := 2) sc_digest.nd rfl (Or.inl rfl)) (pgs_cons (pg_name (i := 3) sc_digest.nd rfl (Or.inl rfl)) pgs_nil))))
        (pss_cons (ps_set (i := 4) sc_digest.nd rfl (Or.inl rfl) (pe_f O_encode (hr.mono (by decide)) pass0 (pa_cons (pv 1) pa_nil)))
        (pss_cons (ps_set (i := 5) sc_digest.nd rfl (Or.inl rfl) (pe_op op_mod pe_int (pv 3)))
        (pss_cons (ps_for PassesOwn.never rfl (pi_list (pv 4)) (pg_name (i := 6) sc_digest.nd rfl (Or.inl rfl))
          (pss_one (ps_set (i := 5) sc_digest.nd rfl (Or.inl rfl) (pe_op op_mod (pe_op op_add (pe_op op_add (pe_op op_mul (pv 5) (pv 2)) (pv 6)) pe_int) (pv 3)))))
        (pss_one (ps_ret (pe_op op_mod (pe_op op_add (pe_op op_mul (pv 5) (pv 2)) (pe_callB call_len_seq (by rfl) T.len PySem.boot_len (pa_cons (pv 4) pa_nil))) (pv 3)))))))), ?_⟩
    refine ⟨_, rfl, a, _, rfl, SqT.of ha, rfl, _, _, rfl, _, _, rfl, rfl, ?_⟩
    refine ⟨_, rfl, v, l, rfl, hE, fun H1 p e hp hp1 => ?_⟩
    refine ⟨_, rfl, _, _, rfl, rfl, mod_pos u, ?_⟩
    refine ⟨_, rfl, p, rfl, ⟨_, SqL.of hp1⟩, for_list (fun i σ H' => H' = H1 ∧ ∃ z, σ = [some (.ref a), some v, some (.int u.b), some (.int u.m), some (.ref p), some (.int ((l.take i).foldl (digF u) 1)), z]) ?_ (fun i σ H' _ ⟨e, _⟩ => by rw [e]; exact SqL.of hp1) ?_ ?_⟩
    · refine ⟨rfl, none, ?_⟩
      show ([some (V.ref a), some v, some (V.int u.b), some (V.int u.m), some (V.ref p), some (V.int (1 % u.m)), none] : L2.St) = _
      rw [one_mod]
      rfl
    · rintro i y σ H' hi ⟨rfl, z, rfl⟩
      rw [List.getElem?_map] at hi
      cases hc : l[i]? with
      | none => rw [hc] at hi; cases hi
      | some c =>
        rw [hc] at hi
        obtain rfl : V.int c = y := Option.some.inj hi
        refine ⟨_, rfl, _, rfl, _, _, rfl, rfl, .inr (ru_lt u), _, rfl, _, _, rfl, rfl, _, _, rfl, rfl, _, rfl, _, _, rfl, rfl, mod_pos u, rfl, some (.int c), ?_⟩
        rw [dig_next hc]
        rfl
    · rintro σ H' ⟨rfl, z, rfl⟩
      refine ⟨_, rfl, _, rfl, _, _, rfl, rfl, .inr (ru_lt u), _, rfl, p, _, rfl, .inl (SqL.of hp1), _, _, rfl, rfl, _, rfl, _, _, rfl, rfl, mod_pos u, ?_⟩
      have q2 := q _ e
      unfold dig at q2
      simp only [List.length_map, List.take_length]
      exact q2
abbrev s__law_digest : Stmt := tp 51
theorem sc__law_digest : FnScope ["_law_rule_here", "_law_value", "_law_found", "_law_numbers", "_law_number"] ["_law_rule_here", "_law_value"] (defScope s__law_digest) := ⟨rfl, rfl, rfl, by decide +kernel, rfl, by decide +kernel, by decide +kernel⟩
abbrev ps__law_digest : List Str := ["_law_rule_here", "_law_value"]
abbrev sl__law_digest : List Str := ["_law_rule_here", "_law_value", "_law_found", "_law_numbers", "_law_number"]
theorem ok__law_digest (F : FnP K "_law_digest" "_law_digest" s__law_digest f fd) (T : Txt K mg A) (O__law_encode : OkF P w K mg base CX0 5 "_law_encode" ps__law_encode (spEnc 4)) : FnOk P w K mg base CX0 6 f fd ps__law_digest (spDig 4) := by
  refine F.ok sc__law_digest (fun vs H Q E h => ?_) (fun cdv A outer s H vs Q E hr h => ?_)
  · obtain ⟨r, v, u, l, rfl, _⟩ := h
    rfl
  · obtain ⟨r, v, u, l, rfl, ⟨a, rfl, ha⟩, hE, hl, q⟩ := h
    refine ⟨_, PSs.nox (pss_cons (ps_set (i := 2) sc__law_digest.nd rfl (Or.inl rfl) pe_int)
        (pss_cons (ps_set (i := 3) sc__law_digest.nd rfl (Or.inl rfl) (pe_f O__law_encode (hr.mono (by decide)) pass0 (pa_cons (pv 1) pa_nil)))
        (pss_cons (ps_for PassesOwn.never rfl (pi_list (pv 3)) (pg_name (i := 4) sc__law_digest.nd rfl (Or.inl rfl))
          (pss_one (ps_set (i := 2) sc__law_digest.nd rfl (Or.inl rfl) (pe_op op_mod (pe_callTy call_int1 (by rfl) T.int (by decide +kernel) (pa_cons (pe_op op_add (pe_op op_add (pe_op op_mul (pv 2) (pe_ix ix_tup (pv 0) pe_int (fun _ _ => rfl))) (pv 4)) pe_int) pa_nil)) (pe_ix ix_tup (pv 0) pe_int (fun _ _ => rfl))))))
        (pss_one (ps_ret (pe_op op_mod (pe_callTy call_int1 (by rfl) T.int (by decide +kernel) (pa_cons (pe_op op_add (pe_op op_mul (pv 2) (pe_ix ix_tup (pv 0) pe_int (fun _ _ => rfl))) (pe_callB call_len_seq (by rfl) T.len PySem.boot_len (pa_cons (pv 3) pa_nil))) pa_nil)) (pe_ix ix_tup (pv 0) pe_int (fun _ _ => rfl)))))))), ?_⟩
    refine ⟨_, rfl, v, l, rfl, hE, fun H1 p e hp hp1 => ?_⟩
    have ha1 := SqT.of (K := K) (e.tup ha)
    refine ⟨_, rfl, p, rfl, ⟨_, SqL.of hp1⟩, for_list (fun i σ H' => H' = H1 ∧ ∃ z, σ = [some (.ref a), some v, some (.int ((l.take i).foldl (digF u) 1)), some (.ref p), z]) ⟨rfl, none, rfl⟩ (fun i σ H' _ ⟨e, _⟩ => by rw [e]; exact SqL.of hp1) ?_ ?_⟩
    · rintro i y σ H' hi ⟨rfl, z, rfl⟩
      rw [List.getElem?_map] at hi
      cases hc : l[i]? with
      | none => rw [hc] at hi; cases hi
      | some c =>
        rw [hc] at hi
        obtain rfl : V.int c = y := Option.some.inj hi
        refine ⟨_, rfl, _, rfl, a, _, _, V.int u.b, rfl, rfl, ha1, rfl, _, _, rfl, rfl, .inr (ru_lt u), _, rfl, _, _, rfl, rfl, _, _, rfl, rfl, .inl ⟨_, rfl, _, rfl, a, _, _, V.int u.m, rfl, rfl, ha1, rfl, _, _, rfl, rfl, mod_pos u, rfl, some (.int c), ?_⟩⟩
        rw [dig_next hc]
        rfl
    · rintro σ H' ⟨rfl, z, rfl⟩
      refine ⟨_, rfl, _, rfl, a, _, _, V.int u.b, rfl, rfl, ha1, rfl, _, _, rfl, rfl, .inr (ru_lt u), _, rfl, p, _, rfl, .inl (SqL.of hp1), _, _, rfl, rfl, .inl ⟨_, rfl, _, rfl, a, _, _, V.int u.m, rfl, rfl, ha1, rfl, _, _, rfl, rfl, mod_pos u, ?_⟩⟩
      have q2 := q _ e
      unfold dig at q2
      simp only [List.length_map, List.take_length]
      exact q2
abbrev s__law_rank : Stmt := tp 58
theorem sc__law_rank : FnScope ["_law_key_here", "_law_found", "_law_code"] ["_law_key_here"] (defScope s__law_rank) := ⟨rfl, rfl, rfl, by decide +kernel, rfl, by decide +kernel, by decide +kernel⟩
abbrev ps__law_rank : List Str := ["_law_key_here"]
abbrev sl__law_rank : List Str := ["_law_key_here", "_law_found", "_law_code"]
theorem ok__law_rank (F : FnP K "_law_rank" "_law_rank" s__law_rank f fd) (T : Txt K mg A) (O__law_codes : OkF P w K mg base CX0 1 "_law_codes" ps__law_codes spCodes) : FnOk P w K mg base CX0 2 f fd ps__law_rank spRank := by
  refine F.ok sc__law_rank (fun vs H Q E h => ?_) (fun cdv A outer s H vs Q E hr h => ?_)
  · obtain ⟨x, rfl, _⟩ := h
    rfl
  · obtain ⟨x, rfl, hx, q⟩ := h
    refine ⟨_, PSs.nox (pss_cons (ps_set (i := 1) sc__law_rank.nd rfl (Or.inl rfl) pe_int)
        (pss_cons (ps_for PassesOwn.never rfl (pi_list (pe_f O__law_codes (hr.mono (by decide)) pass0 (pa_cons (pv 0) pa_nil))) (pg_name (i := 2) sc__law_rank.nd rfl (Or.inl rfl))
          (pss_one (ps_set (i := 1) sc__law_rank.nd rfl (Or.inl rfl) (pe_op op_mod (pe_callTy call_int1 (by rfl) T.int (by decide +kernel) (pa_cons (pe_op op_add (pe_op op_mul (pv 1) pe_int) (pv 2)) pa_nil)) pe_int))))
        (pss_one (ps_ret (pv 1))))), ?_⟩
    refine ⟨_, rfl, x, rfl, hx, fun H1 p e hp hp1 => ⟨p, rfl, ⟨_, SqL.of hp1⟩, for_list (fun i σ H' => H' = H1 ∧ ∃ z, σ = [some (.str x), some (.int (((codes x).take i).foldl rankF 7)), z]) ⟨rfl, none, rfl⟩ (fun i σ H' _ ⟨e, _⟩ => by rw [e]; exact SqL.of hp1) ?_ ?_⟩⟩
    · rintro i y σ H' hi ⟨rfl, z, rfl⟩
      rw [List.getElem?_map] at hi
      cases hc : (codes x)[i]? with
      | none => rw [hc] at hi; cases hi
      | some c =>
        rw [hc] at hi
        obtain rfl : V.int c = y := Option.some.inj hi
        refine ⟨_, rfl, _, _, rfl, rfl, .inr (by decide), _, rfl, _, _, rfl, rfl, .inl ⟨_, rfl, _, _, rfl, rfl, (by show (0 : Int) < 1000003; decide), rfl, some (.int c), ?_⟩⟩
        rw [foldl_next hc]
        rfl
    · rintro σ H' ⟨rfl, z, rfl⟩
      refine ⟨_, rfl, ?_⟩
      have q2 := q _ e
      unfold rank at q2
      simp only [List.length_map, List.take_length]
      exact q2
abbrev s_outranks : Stmt := tp 12
theorem sc_outranks : FnScope ["one", "two"] ["one", "two"] (defScope s_outranks) := ⟨rfl, rfl, rfl, by decide +kernel, rfl, by decide +kernel, by decide +kernel⟩
abbrev ps_outranks : List Str := ["one", "two"]
abbrev sl_outranks : List Str := ["one", "two"]
theorem ok_outranks (F : FnP K "outranks" "outranks" s_outranks f fd) (T : Txt K mg A) (O_rank : OkF P w K mg base CX0 1 "rank" ps_rank spRank) : FnOk P w K mg base CX0 2 f fd ps_outranks spOut := by
  refine F.ok sc_outranks (fun vs H Q E h => ?_) (fun cdv A outer s H vs Q E hr h => ?_)
  · obtain ⟨x, y, rfl, _⟩ := h
    rfl
  · obtain ⟨x, y, rfl, hx, hy, q⟩ := h
    refine ⟨_, PSs.nox (pss_one (ps_ret (pe_cmpR (op_ltIS hr.units) (pe_tup (pa_cons (pe_f O_rank (hr.mono (by decide)) pass0 (pa_cons (pv 1) pa_nil)) (pa_cons (pv 0) pa_nil))) (pe_tup (pa_cons (pe_f O_rank (hr.mono (by decide)) pass0 (pa_cons (pv 0) pa_nil)) (pa_cons (pv 1) pa_nil))) (nomark _)))), ?_⟩
    refine ⟨_, rfl, y, rfl, hy, fun H1 e1 => ⟨_, rfl, (by show 2 ≤ sizeLine; decide), fun a ha => ?_⟩⟩
    refine ⟨_, rfl, x, rfl, hx, fun H2 e2 => ⟨_, rfl, (by show 2 ≤ sizeLine; decide), fun b hb => ?_⟩⟩
    have e3 := (e1.new2 (o := .tup [.int (rank y), .str x]) ha).trans e2
    refine ⟨a, b, _, _, _, _, rfl, rfl, ?_, upd_same, q _ (e3.new2 hb)⟩
    exact (Ext.new (S := []) hb).tup (e2.tup upd_same)
abbrev s_empty_link : Stmt := tp 13
theorem sc_empty_link : FnScope ["rule"] ["rule"] (defScope s_empty_link) := ⟨rfl, rfl, rfl, by decide +kernel, rfl, by decide +kernel, by decide +kernel⟩
abbrev ps_empty_link : List Str := ["rule"]
abbrev sl_empty_link : List Str := ["rule"]
theorem ok_empty_link (F : FnP K "empty_link" "empty_link" s_empty_link f fd) (T : Txt K mg A) (O_digest : OkF P w K mg base CX0 5 "digest" ps_digest (spDig 4)) : FnOk P w K mg base CX0 6 f fd ps_empty_link spLk := by
  refine F.ok sc_empty_link (fun vs H Q E h => ?_) (fun cdv A outer s H vs Q E hr h => ?_)
  · obtain ⟨r, u, rfl, _⟩ := h
    rfl
  · obtain ⟨r, u, rfl, hr0, q⟩ := h
    refine ⟨_, PSs.nox (pss_one (ps_ret (pe_tup (pa_cons (pe_f O_digest (hr.mono (by decide)) pass0 (pa_cons (pv 0) (pa_cons (pe_tup (pa_cons pe_str pa_nil)) pa_nil))) (pa_cons pe_int (pa_cons (pe_op op_repT (pe_tup (pa_cons pe_int pa_nil)) (pe_gi T.columns)) pa_nil)))))), ?_⟩
    refine ⟨_, rfl, (by show 1 ≤ sizeLine; decide), fun p hp => ?_⟩
    have e0 : Ext [] H (upd H p (.tup [.str "empty"])) := Ext.new hp
    refine ⟨r, _, u, encEm, rfl, hr0.ext e0, Enc.tup upd_same ⟨Enc.str (by decide +kernel), trivial⟩ (by decide +kernel), (by decide +kernel), fun H1 e1 => ?_⟩
    refine ⟨(by show 1 ≤ sizeLine; decide), fun p2 hp2 => ?_⟩
    have e2 : Ext [] H1 (upd H1 p2 (.tup [.int 0])) := Ext.new hp2
    refine ⟨p2, _, _, rfl, rfl, SqT.of upd_same, (fun z => nomatch z), (by decide), (by decide), (by decide), fun p3 hp3 => ⟨(by show 3 ≤ sizeLine; decide), fun p4 hp4 => ?_⟩⟩
    have e3 := (((e0.trans e1).trans e2).new2 (o := .tup [.int 0, .int 0, .int 0]) hp3).new2 (o := .tup [.int (dig u encEm), .int 0, .ref p3]) hp4
    refine q _ _ e3 ⟨p4, p3, rfl, upd_same, ?_⟩
    exact (Ext.new (S := []) hp4).tup upd_same
def sums (l : Lk) : List Int := [l.s0, l.s1, l.s2]
def cols (e : En) : List Int := (List.range 3).map fun k => cell e.row k + (sums e.l).getD k 0 + (sums e.r).getD k 0
theorem sums_at {l : Lk} {k : Nat} (h : k < 3) : atI [V.int l.s0, V.int l.s1, V.int l.s2] (k : Int) = some (V.int ((sums l).getD k 0)) := by
  refine atI_nat ?_
  show ((sums l).map V.int)[k]? = _
  have hk : k < (sums l).length := h
  rw [List.getElem?_map, List.getD_eq_getElem?_getD, List.getElem?_eq_getElem hk]
  rfl
theorem cols_at {e : En} {k : Nat} (h : k < 3) : (cols e)[k]? = some (cell e.row k + (sums e.l).getD k 0 + (sums e.r).getD k 0) := by
  unfold cols
  rw [List.getElem?_map, List.getElem?_range h]
  rfl
abbrev s_entry_link : Stmt := tp 14
theorem sc_entry_link : FnScope ["rule", "entry", "_", "row", "left", "right", "sums", "k"] ["rule", "entry"] (defScope s_entry_link) := ⟨rfl, rfl, rfl, by decide +kernel, rfl, by decide +kernel, by decide +kernel⟩
abbrev ps_entry_link : List Str := ["rule", "entry"]
abbrev sl_entry_link : List Str := ["rule", "entry", "_", "row", "left", "right", "sums", "k"]
theorem ok_entry_link (F : FnP K "entry_link" "entry_link" s_entry_link f fd) (T : Txt K mg A) (O_digest : OkF P w K mg base CX0 5 "digest" ps_digest (spDig 4)) (O_cell : OkF P w K mg base CX0 1 "cell" ps_cell spCell) : FnOk P w K mg base CX0 6 f fd ps_entry_link spEnLk := by
  refine F.ok sc_entry_link (fun vs H Q E h => ?_) (fun cdv A outer s H vs Q E hr h => ?_)
  · obtain ⟨r, v, u, e, rfl, _⟩ := h
    rfl
  · obtain ⟨r, v, u, e, rfl, hr0, ⟨a, rv, lv, mv, rfl, ha, hrow, hl, hm⟩, hok, q⟩ := h
    refine ⟨_, PSs.nox (pss_cons (ps_asg (pv 1) (pg_tup (by rfl) (pgs_cons (pg_name (i := 2) sc_entry_link.nd rfl (Or.inl rfl)) (pgs_cons (pg_name (i := 3) sc_entry_link.nd rfl (Or.inr rfl)) (pgs_cons (pg_name (i := 4) sc_entry_link.nd rfl (Or.inr rfl)) (pgs_cons (pg_name (i := 5) sc_entry_link.nd rfl (Or.inr rfl)) pgs_nil))))))
        (pss_cons (ps_set (i := 6) sc_entry_link.nd rfl (Or.inl rfl) (pe_callTy call_tuple_of (by rfl) T.tuple (by decide +kernel) (pa_cons (pe_lc (own := [("k", 7)]) (g := gName 7) rfl sc_entry_link.nd (pi_range1 (by rfl) T.range (pa_cons (pe_gi T.columns) pa_nil)) (blkOk_by (own := [("k", 7)]) (N := ["rule", "entry", "_", "row", "left", "right", "sums", "k"]) (sc := defScope s_entry_link) (by decide +kernel)) (fun _ _ _ _ _ => pg_name (i := 7) sc_entry_link.nd rfl (Or.inl rfl)) (fun _ _ _ _ _ => pts_nil) (fun _ _ _ _ _ => (pe_op op_add (pe_op op_add (pe_f O_cell (hr.mono (by decide)) pass0 (pa_cons (pv 3) (pa_cons (pv 7) pa_nil))) (pe_ix (ixT K) (pe_ix (ixT K) (pv 4) pe_int (fun _ _ => rfl)) (pv 7) (fun _ _ => rfl))) (pe_ix (ixT K) (pe_ix (ixT K) (pv 5) pe_int (fun _ _ => rfl)) (pv 7) (fun _ _ => rfl))))) pa_nil)))
        (pss_one (ps_ret (pe_tup (pa_cons (pe_f O_digest (hr.mono (by decide)) pass0 (pa_cons (pv 0) (pa_cons (pe_op op_catT (pe_tup (pa_cons pe_str pa_nil)) (pv 1)) pa_nil))) (pa_cons (pe_op op_add (pe_op op_add pe_int (pe_ix ix_tup (pv 4) pe_int (fun _ _ => rfl))) (pe_ix ix_tup (pv 5) pe_int (fun _ _ => rfl))) (pa_cons (pv 6) pa_nil)))))))), ?_⟩
    refine ⟨_, rfl, a, _, rfl, SqT.of ha, rfl, _, _, rfl, _, _, rfl, _, _, rfl, _, _, rfl, rfl, ?_⟩
    refine ⟨_, rfl, (by decide), (by decide), fun D hD => ?_⟩
    obtain ⟨l1, l2, rfl, hl1, hl2⟩ := id hl
    obtain ⟨m1, m2, rfl, hm1, hm2⟩ := id hm
    refine lc_range (lo := 0) (n := 3) (fun i H' => Ext [] H H' ∧ H' D = some (.lst (((cols e).take i).map V.int))) ⟨Ext.new hD, upd_same⟩ ?_ ?_
    · rintro i H' hi ⟨e1, h1⟩
      refine ⟨rfl, ?_⟩
      refine ⟨_, rfl, _, rfl, rv, e.row, i, (by show [rv, V.int (0 + (i : Int))] = [rv, V.int (i : Int)]; rw [Int.zero_add]), hrow.ext e1, ?_⟩
      refine ⟨_, rfl, l1, _, _, V.ref l2, rfl, rfl, SqT.of (e1.tup hl1), rfl, _, rfl, l2, _, _, _, rfl, rfl, SqT.of (e1.tup hl2), (by rw [Int.zero_add]; exact sums_at hi), _, _, rfl, rfl, ?_⟩
      refine ⟨_, rfl, m1, _, _, V.ref m2, rfl, rfl, SqT.of (e1.tup hm1), rfl, _, rfl, m2, _, _, _, rfl, rfl, SqT.of (e1.tup hm2), (by rw [Int.zero_add]; exact sums_at hi), _, _, rfl, rfl, ?_⟩
      refine ⟨_, h1, ?_, e1.then (S' := [D]) (Ext.wrL h1 List.mem_cons_self) (one_new hD), ?_⟩
      · rw [List.length_map, List.length_take]
        exact smallT (by omega)
      · rw [upd_same, take_next (cols_at hi), List.map_append]
        rfl
    · rintro H1 ⟨e1, h1⟩
      refine ⟨D, _, rfl, .inl ⟨SqL.of h1, fun p hp => ?_⟩⟩
      have e2 : Ext [] H (upd H1 p (.tup (((cols e).take 3).map V.int))) := e1.new2 hp
      refine ⟨_, rfl, (by show 1 ≤ sizeLine; decide), fun n hn => ⟨_, rfl, n, a, _, _, rfl, rfl, SqT.of upd_same, SqT.of ((Ext.new (S := []) hn).tup (e2.tup ha)), (fun z => nomatch z), (by show 5 ≤ sizeLine; decide), (fun z => nomatch z), fun _ d hd => ?_⟩⟩
      have e3 := (e2.new2 (o := .tup [.str "node"]) hn).new2 (o := .tup [.str "node", .str e.key, rv, .ref l1, .ref m1]) hd
      obtain ⟨hE, hz⟩ := En.enc (H := upd (upd (upd H1 p (.tup (((cols e).take 3).map V.int))) n (.tup [.str "node"])) d (.tup [.str "node", .str e.key, rv, .ref l1, .ref m1])) (a := d) (e := e) upd_same (hrow.ext e3) (hl.ext e3) (hm.ext e3) hok.key.2.1 hok.row.2.1
      refine ⟨r, _, u, encEn e, rfl, hr0.ext e3, hE, Nat.le_trans hz (by decide), fun H2 e4 => ?_⟩
      have e5 := e3.trans e4
      refine ⟨_, rfl, l1, _, _, _, rfl, rfl, SqT.of (e5.tup hl1), rfl, _, _, rfl, rfl, _, rfl, m1, _, _, _, rfl, rfl, SqT.of (e5.tup hm1), rfl, _, _, rfl, rfl, _, rfl, (by show 3 ≤ sizeLine; decide), fun z hz => ?_⟩
      refine q _ _ (e5.new2 hz) ⟨z, p, rfl, upd_same, ?_⟩
      exact (Ext.new (S := []) hz).tup (e4.tup ((Ext.new (S := []) hd).tup ((Ext.new (S := []) hn).tup upd_same)))
abbrev s__law_link : Stmt := tp 61
theorem sc__law_link : FnScope ["_law_rule_here", "_law_entry", "_law_sums", "_law_k"] ["_law_rule_here", "_law_entry"] (defScope s__law_link) := ⟨rfl, rfl, rfl, by decide +kernel, rfl, by decide +kernel, by decide +kernel⟩
abbrev ps__law_link : List Str := ["_law_rule_here", "_law_entry"]
abbrev sl__law_link : List Str := ["_law_rule_here", "_law_entry", "_law_sums", "_law_k"]
theorem ok__law_link (F : FnP K "_law_link" "_law_link" s__law_link f fd) (T : Txt K mg A) (O__law_digest : OkF P w K mg base CX0 6 "_law_digest" ps__law_digest (spDig 4)) (O__law_cell : OkF P w K mg base CX0 1 "_law_cell" ps__law_cell spCell) : FnOk P w K mg base CX0 7 f fd ps__law_link spEnLk := by
  refine F.ok sc__law_link (fun vs H Q E h => ?_) (fun cdv A outer s H vs Q E hr h => ?_)
  · obtain ⟨r, v, u, e, rfl, _⟩ := h
    rfl
  · obtain ⟨r, v, u, e, rfl, hr0, ⟨a, rv, lv, mv, rfl, ha, hrow, hl, hm⟩, hok, q⟩ := h
    refine ⟨_, PSs.nox (pss_cons (ps_set (i := 2) sc__law_link.nd rfl (Or.inl rfl) (pe_callTy call_tuple_of (by rfl) T.tuple (by decide +kernel) (pa_cons (pe_lc (own := [("_law_k", 3)]) (g := gName 3) rfl sc__law_link.nd (pi_range1 (by rfl) T.range (pa_cons pe_int pa_nil)) (blkOk_by (own := [("_law_k", 3)]) (N := ["_law_rule_here", "_law_entry", "_law_sums", "_law_k"]) (sc := defScope s__law_link) (by decide +kernel)) (fun _ _ _ _ _ => pg_name (i := 3) sc__law_link.nd rfl (Or.inl rfl)) (fun _ _ _ _ _ => pts_nil) (fun _ _ _ _ _ => (pe_op op_add (pe_op op_add (pe_f O__law_cell (hr.mono (by decide)) pass0 (pa_cons (pe_ix (ixT K) (pv 1) pe_int (fun _ _ => rfl)) (pa_cons (pv 3) pa_nil))) (pe_ix (ixT K) (pe_ix (ixT K) (pe_ix (ixT K) (pv 1) pe_int (fun _ _ => rfl)) pe_int (fun _ _ => rfl)) (pv 3) (fun _ _ => rfl))) (pe_ix (ixT K) (pe_ix (ixT K) (pe_ix (ixT K) (pv 1) pe_int (fun _ _ => rfl)) pe_int (fun _ _ => rfl)) (pv 3) (fun _ _ => rfl))))) pa_nil)))
        (pss_one (ps_ret (pe_tup (pa_cons (pe_f O__law_digest (hr.mono (by decide)) pass0 (pa_cons (pv 0) (pa_cons (pe_op op_catT (pe_tup (pa_cons pe_str pa_nil)) (pv 1)) pa_nil))) (pa_cons (pe_op op_add (pe_op op_add pe_int (pe_ix ix_tup (pe_ix ix_tup (pv 1) pe_int (fun _ _ => rfl)) pe_int (fun _ _ => rfl))) (pe_ix ix_tup (pe_ix ix_tup (pv 1) pe_int (fun _ _ => rfl)) pe_int (fun _ _ => rfl))) (pa_cons (pv 2) pa_nil))))))), ?_⟩
    refine ⟨_, rfl, (by decide), (by decide), fun D hD => ?_⟩
    obtain ⟨l1, l2, rfl, hl1, hl2⟩ := id hl
    obtain ⟨m1, m2, rfl, hm1, hm2⟩ := id hm
    refine lc_range (lo := 0) (n := 3) (fun i H' => Ext [] H H' ∧ H' D = some (.lst (((cols e).take i).map V.int))) ⟨Ext.new hD, upd_same⟩ ?_ ?_
    · rintro i H' hi ⟨e1, h1⟩
      refine ⟨rfl, ?_⟩
      refine ⟨_, rfl, a, _, _, rv, rfl, rfl, SqT.of (e1.tup ha), rfl, _, rfl, rv, e.row, i, (by show [rv, V.int (0 + (i : Int))] = [rv, V.int (i : Int)]; rw [Int.zero_add]), hrow.ext e1, ?_⟩
      refine ⟨_, rfl, a, _, _, V.ref l1, rfl, rfl, SqT.of (e1.tup ha), rfl, l1, _, _, V.ref l2, rfl, rfl, SqT.of (e1.tup hl1), rfl, _, rfl, l2, _, _, _, rfl, rfl, SqT.of (e1.tup hl2), (by rw [Int.zero_add]; exact sums_at hi), _, _, rfl, rfl, ?_⟩
      refine ⟨_, rfl, a, _, _, V.ref m1, rfl, rfl, SqT.of (e1.tup ha), rfl, m1, _, _, V.ref m2, rfl, rfl, SqT.of (e1.tup hm1), rfl, _, rfl, m2, _, _, _, rfl, rfl, SqT.of (e1.tup hm2), (by rw [Int.zero_add]; exact sums_at hi), _, _, rfl, rfl, ?_⟩
      refine ⟨_, h1, ?_, e1.then (S' := [D]) (Ext.wrL h1 List.mem_cons_self) (one_new hD), ?_⟩
      · rw [List.length_map, List.length_take]
        exact smallT (by omega)
      · rw [upd_same, take_next (cols_at hi), List.map_append]
        rfl
    · rintro H1 ⟨e1, h1⟩
      refine ⟨D, _, rfl, .inl ⟨SqL.of h1, fun p hp => ?_⟩⟩
      have e2 : Ext [] H (upd H1 p (.tup (((cols e).take 3).map V.int))) := e1.new2 hp
      refine ⟨_, rfl, (by show 1 ≤ sizeLine; decide), fun n hn => ⟨_, rfl, n, a, _, _, rfl, rfl, SqT.of upd_same, SqT.of ((Ext.new (S := []) hn).tup (e2.tup ha)), (fun z => nomatch z), (by show 5 ≤ sizeLine; decide), (fun z => nomatch z), fun _ d hd => ?_⟩⟩
      have e3 := (e2.new2 (o := .tup [.str "node"]) hn).new2 (o := .tup [.str "node", .str e.key, rv, .ref l1, .ref m1]) hd
      obtain ⟨hE, hz⟩ := En.enc (H := upd (upd (upd H1 p (.tup (((cols e).take 3).map V.int))) n (.tup [.str "node"])) d (.tup [.str "node", .str e.key, rv, .ref l1, .ref m1])) (a := d) (e := e) upd_same (hrow.ext e3) (hl.ext e3) (hm.ext e3) hok.key.2.1 hok.row.2.1
      refine ⟨r, _, u, encEn e, rfl, hr0.ext e3, hE, Nat.le_trans hz (by decide), fun H2 e4 => ?_⟩
      have e5 := e3.trans e4
      refine ⟨_, rfl, a, _, _, _, rfl, rfl, SqT.of (e5.tup ha), rfl, l1, _, _, _, rfl, rfl, SqT.of (e5.tup hl1), rfl, _, _, rfl, rfl, _, rfl, a, _, _, _, rfl, rfl, SqT.of (e5.tup ha), rfl, m1, _, _, _, rfl, rfl, SqT.of (e5.tup hm1), rfl, _, _, rfl, rfl, _, rfl, (by show 3 ≤ sizeLine; decide), fun z hz => ?_⟩
      refine q _ _ (e5.new2 hz) ⟨z, p, rfl, upd_same, ?_⟩
      exact (Ext.new (S := []) hz).tup (e4.tup ((Ext.new (S := []) hd).tup ((Ext.new (S := []) hn).tup upd_same)))
end
end RR
end
section
set_option Elab.async false
set_option linter.all false
set_option maxRecDepth 100000
set_option maxHeartbeats 4000000
/-! The classes' __init__. -/
namespace RR
open PySem PySem.Spec PyProof.Rows L2
open PySem.W (envX fnX)
/-- all but x stands as before; at x stands o -/
def Off (H H' : Hp) (x : Addr) (o : HO) : Prop := (∀ b, b ≠ x → H' b = H b) ∧ H' x = some o
theorem Off.upd {H H1 : Hp} {x : Addr} {u : HO} (h : ∀ b, b ≠ x → H1 b = H b) : Off H (upd H1 x u) x u := ⟨fun b hb => by rw [upd_ne hb]; exact h b hb, upd_same⟩
theorem off0 {H : Hp} {x : Addr} : ∀ b, b ≠ x → H b = H b := fun _ _ => rfl
theorem off1 {H H1 : Hp} {x : Addr} {u : HO} (h : ∀ b, b ≠ x → H1 b = H b) : ∀ b, b ≠ x → upd H1 x u b = H b := fun b hb => by rw [upd_ne hb]; exact h b hb
/-- an object made, its __init__ run -/
theorem Ext.made {S : List Addr} {H H1 : Hp} {x dx : Addr} {o u : HO} (hx : H x = none) (hdx : H dx = none) (ne : dx ≠ x) (h : Off (upd (upd H dx (.own x)) x u) H1 x o) : Ext S H H1 := by
  refine ⟨fun b v hb _ => ?_, fun P ⟨ps, e, t⟩ => ⟨ps, ?_, t⟩, fun b hb => ?_⟩
  · rw [h.1 b (ne_of_none hb hx), upd_ne (ne_of_none hb hx), upd_ne (ne_of_none hb hdx)]
    exact hb
  · rw [h.1 P (ne_of_none e hx), upd_ne (ne_of_none e hx), upd_ne (ne_of_none e hdx)]
    exact e
  · by_cases q : b = x
    · rw [q]; exact hx
    · rw [h.1 b q] at hb
      exact (upd_dom (upd_dom hb).1).1
theorem Ext.made2 {S : List Addr} {H H1 : Hp} {x dx y : Addr} {o u z : HO} (hx : H x = none) (hdx : H dx = none) (ne : dx ≠ x) (hy : upd (upd H dx (.own x)) x u y = none)
    (h : ∀ b, b ≠ x → b ≠ y → H1 b = upd (upd H dx (.own x)) x u b) (h1 : H1 y = some z) (h2 : H1 x = some o) : Ext S H H1 := by
  have hy0 : H y = none := (upd_dom (upd_dom hy).1).1
  refine ⟨fun b v hb _ => ?_, fun P ⟨ps, e, t⟩ => ⟨ps, ?_, t⟩, fun b hb => ?_⟩
  · rw [h b (ne_of_none hb hx) (ne_of_none hb hy0), upd_ne (ne_of_none hb hx), upd_ne (ne_of_none hb hdx)]
    exact hb
  · rw [h P (ne_of_none e hx) (ne_of_none e hy0), upd_ne (ne_of_none e hx), upd_ne (ne_of_none e hdx)]
    exact e
  · by_cases q : b = x
    · rw [q]; exact hx
    · by_cases q2 : b = y
      · rw [q2]; exact hy0
      · rw [h b q q2] at hb
        exact (upd_dom (upd_dom hb).1).1
theorem few {f : Str} {v : V} {fs : List (Str × V)} {n : Nat} (h : fs.length ≤ n) : (putF f v fs).length ≤ n + 1 := by
  have := length_putF f v fs
  omega
theorem few0 : ([] : List (Str × V)).length ≤ 0 := Nat.le_refl _
theorem fewK {fs : List (Str × V)} {n : Nat} (h : fs.length ≤ n) (hn : n < 1000) : fs.length < 1000 := Nat.lt_of_le_of_lt h hn
def spTreeI (C : Addr) : Sp := fun vs H Q _ => ∃ x dx l e a b, vs = [.ref x, l, e, a, b] ∧ H x = some (.ins C dx []) ∧ ∀ H', Off H H' x (.ins C dx (treeF l e a b)) → Q .non H'
def spPartI (C : Addr) : Sp := fun vs H Q _ => ∃ x dx l t n, vs = [.ref x, l, t, n] ∧ H x = some (.ins C dx []) ∧ ∀ H', Off H H' x (.ins C dx (partF l t n)) → Q .non H'
def spNodeI (C : Addr) : Sp := fun vs H Q _ => ∃ x dx k r a b, vs = [.ref x, k, r, a, b] ∧ H x = some (.ins C dx []) ∧ ∀ H', Off H H' x (.ins C dx (nodeF k r a b)) → Q .non H'
def spSrcI (K : PySem.W.Frag) : Sp := fun vs H Q _ => ∃ x C dx r, vs = [.ref x, r] ∧ H x = some (.ins C dx []) ∧ Cls K C ∧ NoAttr K C "rule" ∧ ∀ H', Off H H' x (.ins C dx (putF "rule" r [])) → Q .non H'
def spKnownI (C : Addr) : Sp := fun vs H Q _ => ∃ x dx r, vs = [.ref x, r] ∧ H x = some (.ins C dx []) ∧ ∀ (H' : Hp) o, H o = none → (∀ b, b ≠ x → b ≠ o → H' b = H b) → H' o = some (.lst []) → H' x = some (.ins C dx (knowF r (.ref o))) → Q .non H'
def spGivenI (C : Addr) : Sp := fun vs H Q _ => ∃ x dx r c, vs = [.ref x, r, c] ∧ H x = some (.ins C dx []) ∧ ∀ H', Off H H' x (.ins C dx (givF r c (.int 0))) → Q .non H'
def spCopyI (C : Addr) : Sp := fun vs H Q _ => ∃ x dx r h n, vs = [.ref x, r, h, n] ∧ H x = some (.ins C dx []) ∧ ∀ (H' : Hp) o, H o = none → (∀ b, b ≠ x → b ≠ o → H' b = H b) → H' o = some (.lst []) → H' x = some (.ins C dx (copyF r h n (.ref o))) → Q .non H'
def refX (w : Wd) (n : Nat) : List (Str × V) := [("number", .int (n : Int)), ("word", .str (word w))]
def spRefI (C : Addr) : Sp := fun vs H Q _ => ∃ a w n, vs = [.ref a, .str (word w), .int ((n : Nat) : Int)] ∧ n < 100 ∧ H a = some (exo a C none) ∧
  ∀ (H' : Hp) d, H d = none → d ≠ a → (∀ b, b ≠ a → b ≠ d → H' b = H b) → H' a = some (exo a C (some d)) → H' d = some (exd d (refX w n)) → Q .non H'
theorem FunS.binds {P : Program} {K : PySem.W.Frag} {x qual : Str} {params : Arguments} {body : List Stmt} {scope : Scope} {D f : Addr} {fd : FuncData} {ps : List Str} (F : FunS P K x qual params body scope D f fd)
    (h : ∀ (cc cda : Addr) (kV doc pm ct : Value) (an : Option Addr) (us : List Value), us.length = ps.length → bindArgs (fnX x qual params body scope [("__class__", cc)] .none kV doc pm an (.ref cda) ct) ⟨us, []⟩ = pure (ps.zip us)) : Binds K fd ps [] := by
  obtain ⟨oc, kV, doc, pm, ct, od, an, osl, cda, cc, rfl, _⟩ := F.ex
  exact .all (h cc cda kV doc pm ct an)
section
variable {P : Program} {w : World} {K : PySem.W.Frag} {mg : Str → Option Value} {base : Heap} {A : Ad} {f : Addr} {fd : FuncData}
abbrev s_Tree___init__ : Stmt := inClass (tp 15) 0
theorem sc_Tree___init__ : FnScope ["self", "link", "entry", "left", "right"] ["self", "link", "entry", "left", "right"] (defScope s_Tree___init__) := ⟨rfl, rfl, rfl, by decide +kernel, rfl, by decide +kernel, by decide +kernel⟩
abbrev ps_Tree___init__ : List Str := ["self", "link", "entry", "left", "right"]
abbrev sl_Tree___init__ : List Str := ["self", "link", "entry", "left", "right"]
theorem ok_Tree (F : FnP K "__init__" "Tree.__init__" s_Tree___init__ f fd) (T : Txt K mg A) : FnOk P w K mg base CX0 1 f fd ps_Tree___init__ (spTreeI A.tree) := by
  refine F.ok sc_Tree___init__ (fun vs H Q E h => ?_) (fun cdv A' outer s H vs Q E hr h => ?_)
  · obtain ⟨x, dx, l, e, a, b, rfl, _⟩ := h
    rfl
  · obtain ⟨x, dx, l, e, a, b, rfl, hx, q⟩ := h
    refine ⟨_, PSs.nox (pss_cons (ps_fld (pv 0) (pv 1) rfl)
        (pss_cons (ps_fld (pv 0) (pv 2) rfl)
        (pss_cons (ps_fld (pv 0) (pv 3) rfl)
        (pss_one (ps_fld (pv 0) (pv 4) rfl))))), ?_⟩
    refine ⟨_, rfl, _, rfl, x, A.tree, dx, [], rfl, hx, T.tree, T.tL, fewK few0 (by decide), ?_⟩
    refine ⟨_, rfl, _, rfl, x, A.tree, dx, _, rfl, upd_same, T.tree, T.tE, fewK (few few0) (by decide), ?_⟩
    refine ⟨_, rfl, _, rfl, x, A.tree, dx, _, rfl, upd_same, T.tree, T.tA, fewK (few (few few0)) (by decide), ?_⟩
    refine ⟨_, rfl, _, rfl, x, A.tree, dx, _, rfl, upd_same, T.tree, T.tB, fewK (few (few (few few0))) (by decide), ?_⟩
    exact q _ (Off.upd (off1 (off1 (off1 off0))))
abbrev s_Part___init__ : Stmt := inClass (tp 24) 0
theorem sc_Part___init__ : FnScope ["self", "link", "tree", "node"] ["self", "link", "tree", "node"] (defScope s_Part___init__) := ⟨rfl, rfl, rfl, by decide +kernel, rfl, by decide +kernel, by decide +kernel⟩
abbrev ps_Part___init__ : List Str := ["self", "link", "tree", "node"]
abbrev sl_Part___init__ : List Str := ["self", "link", "tree", "node"]
theorem ok_Part (F : FnP K "__init__" "Part.__init__" s_Part___init__ f fd) (T : Txt K mg A) : FnOk P w K mg base CX0 1 f fd ps_Part___init__ (spPartI A.part) := by
  refine F.ok sc_Part___init__ (fun vs H Q E h => ?_) (fun cdv A' outer s H vs Q E hr h => ?_)
  · obtain ⟨x, dx, l, e, a, rfl, _⟩ := h
    rfl
  · obtain ⟨x, dx, l, e, a, rfl, hx, q⟩ := h
    refine ⟨_, PSs.nox (pss_cons (ps_fld (pv 0) (pv 1) rfl)
        (pss_cons (ps_fld (pv 0) (pv 2) rfl)
        (pss_one (ps_fld (pv 0) (pv 3) rfl)))), ?_⟩
    refine ⟨_, rfl, _, rfl, x, A.part, dx, [], rfl, hx, T.part, T.pL, fewK few0 (by decide), ?_⟩
    refine ⟨_, rfl, _, rfl, x, A.part, dx, _, rfl, upd_same, T.part, T.pT, fewK (few few0) (by decide), ?_⟩
    refine ⟨_, rfl, _, rfl, x, A.part, dx, _, rfl, upd_same, T.part, T.pN, fewK (few (few few0)) (by decide), ?_⟩
    exact q _ (Off.upd (off1 (off1 off0)))
abbrev s_Node___init__ : Stmt := inClass (tp 25) 0
theorem sc_Node___init__ : FnScope ["self", "key", "row", "left", "right"] ["self", "key", "row", "left", "right"] (defScope s_Node___init__) := ⟨rfl, rfl, rfl, by decide +kernel, rfl, by decide +kernel, by decide +kernel⟩
abbrev ps_Node___init__ : List Str := ["self", "key", "row", "left", "right"]
abbrev sl_Node___init__ : List Str := ["self", "key", "row", "left", "right"]
theorem ok_Node (F : FnP K "__init__" "Node.__init__" s_Node___init__ f fd) (T : Txt K mg A) : FnOk P w K mg base CX0 1 f fd ps_Node___init__ (spNodeI A.node) := by
  refine F.ok sc_Node___init__ (fun vs H Q E h => ?_) (fun cdv A' outer s H vs Q E hr h => ?_)
  · obtain ⟨x, dx, l, e, a, b, rfl, _⟩ := h
    rfl
  · obtain ⟨x, dx, l, e, a, b, rfl, hx, q⟩ := h
    refine ⟨_, PSs.nox (pss_cons (ps_fld (pv 0) (pv 1) rfl)
        (pss_cons (ps_fld (pv 0) (pv 2) rfl)
        (pss_cons (ps_fld (pv 0) (pv 3) rfl)
        (pss_one (ps_fld (pv 0) (pv 4) rfl))))), ?_⟩
    refine ⟨_, rfl, _, rfl, x, A.node, dx, [], rfl, hx, T.node, T.nK, fewK few0 (by decide), ?_⟩
    refine ⟨_, rfl, _, rfl, x, A.node, dx, _, rfl, upd_same, T.node, T.nR, fewK (few few0) (by decide), ?_⟩
    refine ⟨_, rfl, _, rfl, x, A.node, dx, _, rfl, upd_same, T.node, T.nA, fewK (few (few few0)) (by decide), ?_⟩
    refine ⟨_, rfl, _, rfl, x, A.node, dx, _, rfl, upd_same, T.node, T.nB, fewK (few (few (few few0))) (by decide), ?_⟩
    exact q _ (Off.upd (off1 (off1 (off1 off0))))
abbrev s_Source___init__ : Stmt := inClass (tp 29) 0
theorem sc_Source___init__ : FnScope ["self", "rule"] ["self", "rule"] (defScope s_Source___init__) := ⟨rfl, rfl, rfl, by decide +kernel, rfl, by decide +kernel, by decide +kernel⟩
abbrev ps_Source___init__ : List Str := ["self", "rule"]
abbrev sl_Source___init__ : List Str := ["self", "rule"]
theorem ok_Source (F : FnP K "__init__" "Source.__init__" s_Source___init__ f fd) (T : Txt K mg A) : FnOk P w K mg base CX0 1 f fd ps_Source___init__ (spSrcI K) := by
  refine F.ok sc_Source___init__ (fun vs H Q E h => ?_) (fun cdv A' outer s H vs Q E hr h => ?_)
  · obtain ⟨x, C, dx, r, rfl, _⟩ := h
    rfl
  · obtain ⟨x, C, dx, r, rfl, hx, c, n, q⟩ := h
    refine ⟨_, PSs.nox (pss_one (ps_fld (pv 0) (pv 1) rfl)), ?_⟩
    refine ⟨_, rfl, _, rfl, x, C, dx, [], rfl, hx, c, n, fewK few0 (by decide), ?_⟩
    exact q _ (Off.upd off0)
abbrev s_Copy___init__ : Stmt := inClass (tp 45) 0
theorem sc_Copy___init__ : FnScope ["self", "rule", "head", "size"] ["self", "rule", "head", "size"] (defScope s_Copy___init__) := ⟨rfl, rfl, rfl, by decide +kernel, rfl, by decide +kernel, by decide +kernel⟩
abbrev ps_Copy___init__ : List Str := ["self", "rule", "head", "size"]
abbrev sl_Copy___init__ : List Str := ["self", "rule", "head", "size"]
theorem ok_Copy (F : FnP K "__init__" "Copy.__init__" s_Copy___init__ f fd) (T : Txt K mg A) : FnOk P w K mg base CX0 1 f fd ps_Copy___init__ (spCopyI A.copy) := by
  refine F.ok sc_Copy___init__ (fun vs H Q E h => ?_) (fun cdv A' outer s H vs Q E hr h => ?_)
  · obtain ⟨x, dx, l, e, a, rfl, _⟩ := h
    rfl
  · obtain ⟨x, dx, l, e, a, rfl, hx, q⟩ := h
    refine ⟨_, PSs.nox (pss_cons (ps_fld (pv 0) (pv 1) rfl)
        (pss_cons (ps_fld (pv 0) (pv 2) rfl)
        (pss_cons (ps_fld (pv 0) (pv 3) rfl)
        (pss_one (ps_fld (pv 0) (pe_lst pa_nil) rfl))))), ?_⟩
    refine ⟨_, rfl, _, rfl, x, A.copy, dx, [], rfl, hx, T.copy, T.cR, fewK few0 (by decide), ?_⟩
    refine ⟨_, rfl, _, rfl, x, A.copy, dx, _, rfl, upd_same, T.copy, T.cH, fewK (few few0) (by decide), ?_⟩
    refine ⟨_, rfl, _, rfl, x, A.copy, dx, _, rfl, upd_same, T.copy, T.cS, fewK (few (few few0)) (by decide), ?_⟩
    refine ⟨Nat.zero_le _, fun o ho => ?_⟩
    have hox : o ≠ x := none_ne ho upd_same
    refine ⟨_, rfl, x, A.copy, dx, _, rfl, by rw [upd_ne hox.symm, upd_same], T.copy, T.cO, fewK (few (few (few few0))) (by decide), ?_⟩
    refine q _ o (upd_dom (upd_dom (upd_dom ho).1).1).1 (fun b h1 h2 => ?_) ?_ upd_same
    · rw [upd_ne h1, upd_ne h2, upd_ne h1, upd_ne h1, upd_ne h1]
    · rw [upd_ne hox, upd_same]
abbrev s_Known___init__ : Stmt := inClass (tp 30) 0
abbrev sl_Known___init__ : List Str := ["self", "rule"]
abbrev ps_Known___init__ : List Str := ["self", "rule"]
theorem ss_Known : ScS sl_Known___init__ ps_Known___init__ (defScope s_Known___init__) := ⟨rfl, rfl, rfl, by decide +kernel, rfl, by decide +kernel, by decide +kernel, by decide +kernel, rfl, rfl, by decide +kernel⟩
theorem ok_Known {g : Addr} {fdg : FuncData} (F : FunS P K "__init__" "Known.__init__" (defArgs s_Known___init__) (defBody s_Known___init__) (defScope s_Known___init__) A.known f fd) (T : Txt K mg A) (TS : SupA K mg P A.known A.known)
    (G : FnOk P w K mg base CX0 1 g fdg ps_Source___init__ (spSrcI K)) (bg : Binds K fdg ps_Source___init__ []) (fi : PySem.W.fnIn K g = true) (hm : PySem.W.ks_superIn K A.known A.known "__init__" = some (some (.ref g))) (ht : PySem.W.typeIn K (.ref g) = some (.type "function")) :
    FnOk P w K mg base CX0 2 f fd ps_Known___init__ (spKnownI A.known) := by
  refine fn_sup (N := sl_Known___init__) (ps := ps_Known___init__) (k := 1) F ss_Known TS rfl rfl (by decide +kernel) G bg fi hm ht (by decide) (fun vs H Q E h => ?_) (fun cda cc A' outer s H vs Q E hr h => ?_)
  · obtain ⟨x, dx, r, rfl, _⟩ := h
    rfl
  · obtain ⟨x, dx, r, rfl, hx, q⟩ := h
    refine ⟨x, dx, [], _, _, rfl, hx, pa_cons (pv 1) pa_nil, pss_one (ps_fld (pv 0) (pe_lst pa_nil) rfl), ?_⟩
    refine ⟨_, rfl, x, A.known, dx, r, rfl, hx, T.known, T.kR, fun H1 h1 => ?_⟩
    refine ⟨Nat.zero_le _, fun ea hea => ?_⟩
    have hne : ea ≠ x := none_ne hea h1.2
    refine ⟨_, rfl, x, A.known, dx, _, rfl, by rw [upd_ne hne.symm, h1.2], T.known, T.kE, fewK (few few0) (by decide), ?_⟩
    refine q _ ea (by rw [← h1.1 ea hne]; exact hea) (fun b b1 b2 => by rw [upd_ne b1, upd_ne b2, h1.1 b b1]) (by rw [upd_ne hne, upd_same]) upd_same
abbrev s_Given___init__ : Stmt := inClass (tp 31) 0
abbrev sl_Given___init__ : List Str := ["self", "rule", "certificate"]
abbrev ps_Given___init__ : List Str := ["self", "rule", "certificate"]
theorem ss_Given : ScS sl_Given___init__ ps_Given___init__ (defScope s_Given___init__) := ⟨rfl, rfl, rfl, by decide +kernel, rfl, by decide +kernel, by decide +kernel, by decide +kernel, rfl, rfl, by decide +kernel⟩
theorem ok_Given {g : Addr} {fdg : FuncData} (F : FunS P K "__init__" "Given.__init__" (defArgs s_Given___init__) (defBody s_Given___init__) (defScope s_Given___init__) A.given f fd) (T : Txt K mg A) (TS : SupA K mg P A.given A.given)
    (G : FnOk P w K mg base CX0 1 g fdg ps_Source___init__ (spSrcI K)) (bg : Binds K fdg ps_Source___init__ []) (fi : PySem.W.fnIn K g = true) (hm : PySem.W.ks_superIn K A.given A.given "__init__" = some (some (.ref g))) (ht : PySem.W.typeIn K (.ref g) = some (.type "function")) :
    FnOk P w K mg base CX0 2 f fd ps_Given___init__ (spGivenI A.given) := by
  refine fn_sup (N := sl_Given___init__) (ps := ps_Given___init__) (k := 1) F ss_Given TS rfl rfl (by decide +kernel) G bg fi hm ht (by decide) (fun vs H Q E h => ?_) (fun cda cc A' outer s H vs Q E hr h => ?_)
  · obtain ⟨x, dx, r, c, rfl, _⟩ := h
    rfl
  · obtain ⟨x, dx, r, c, rfl, hx, q⟩ := h
    refine ⟨x, dx, [], _, _, rfl, hx, pa_cons (pv 1) pa_nil, pss_cons (ps_fld (pv 0) (pv 2) rfl) (pss_one (ps_fld (pv 0) pe_int rfl)), ?_⟩
    refine ⟨_, rfl, x, A.given, dx, r, rfl, hx, T.given, T.gR, fun H1 h1 => ?_⟩
    refine ⟨_, rfl, _, rfl, x, A.given, dx, _, rfl, h1.2, T.given, T.gC, fewK (few few0) (by decide), ?_⟩
    refine ⟨_, rfl, x, A.given, dx, _, rfl, upd_same, T.given, T.gP, fewK (few (few few0)) (by decide), ?_⟩
    exact q _ (Off.upd (off1 h1.1))
abbrev s_Refused___init__ : Stmt := inClass (tp 22) 0
abbrev sl_Refused___init__ : List Str := ["self", "word", "number"]
abbrev ps_Refused___init__ : List Str := ["self", "word", "number"]
theorem ss_Refused : ScS sl_Refused___init__ ps_Refused___init__ (defScope s_Refused___init__) := ⟨rfl, rfl, rfl, by decide +kernel, rfl, by decide +kernel, by decide +kernel, by decide +kernel, rfl, rfl, by decide +kernel⟩
theorem num_len : ∀ n : Nat, n < 100 → (Str.ofString (toString ((n : Nat) : Int))).length ≤ 20 := by
  have q : ((List.range 100).all fun n => decide ((Str.ofString (toString ((n : Nat) : Int))).length ≤ 20)) = true := by decide +kernel
  intro n hn
  exact of_decide_eq_true (List.all_eq_true.mp q n (List.mem_range.mpr hn))
theorem word_len (w : Wd) : (word w).length ≤ 20 := by cases w <;> decide +kernel
theorem app_len (a b : Str) : (a ++ b).length = a.length + b.length := by
  show (a.cps ++ b.cps).size = _
  rw [Array.size_append]
  rfl
theorem log_small (n : Nat) (h : n < 100) : ((n : Nat) : Int).natAbs.log2 < 1920 := by
  rw [Int.natAbs_natCast]
  have := Nat.log2_le_self n
  omega
theorem ok_Refused (F : FunS P K "__init__" "Refused.__init__" (defArgs s_Refused___init__) (defBody s_Refused___init__) (defScope s_Refused___init__) A.refd f fd) (T : Txt K mg A) (TS : SupA K mg P A.refd A.refd) (TC : OexC K A.refd)
    (hm : PySem.W.ks_superIn K A.refd A.refd "__init__" = some (some (.builtin "ValueError.__init__"))) (hB : PySem.W.subIn K (.ref A.refd) (.type "ValueError") = some true) (nW : NoAttr K A.refd "word") (nN : NoAttr K A.refd "number") :
    FnOk P w K mg base CX0 1 f fd ps_Refused___init__ (spRefI A.refd) := by
  refine fn_supE (N := sl_Refused___init__) (ps := ps_Refused___init__) (k := 0) F ss_Refused TS TC rfl rfl (by decide +kernel) hm hB (fun vs H Q E h => ?_) (fun cda cc A' outer s H vs Q E hr h => ?_)
  · obtain ⟨a, w, n, rfl, _⟩ := h
    rfl
  · obtain ⟨a, wd, n, rfl, hn, ha, q⟩ := h
    refine ⟨a, _, _, rfl, ha, pa_cons (pe_joined (.cons (pe_fmt (pv 1)) (.cons pe_str (.cons (pe_fmt (pv 2)) .nil)))) pa_nil, pss_cons (ps_ost (pv 0) (pv 1)) (pss_one (ps_ost (pv 0) (pv 2))), ?_⟩
    have l1 := word_len wd
    have l2 := num_len n hn
    have l3 : (" at entry " : Str).length = 10 := by decide +kernel
    refine ⟨_, rfl, .inl ⟨_, rfl, smallS (Nat.le_trans l1 (by decide)), _, rfl, ?_, _, rfl, ?_, _, rfl, .inr ⟨_, rfl, log_small n hn, _, rfl, ?_, (by show 1 ≤ 1000; decide), ha, ?_⟩⟩⟩
    · rw [app_len]
      exact smallS (by show 0 + _ ≤ _; omega)
    · rw [app_len, app_len]
      exact smallS (by show 0 + _ + (" at entry " : Str).length ≤ _; omega)
    · rw [app_len, app_len, app_len]
      exact smallS (by show 0 + _ + (" at entry " : Str).length + (Str.ofString (toString ((n : Nat) : Int))).length ≤ _; omega)
    · refine ⟨_, rfl, _, rfl, a, A.refd, rfl, TC, nW, .inl ⟨ha, fun d hd hda => ?_⟩⟩
      refine ⟨_, rfl, _, rfl, a, A.refd, rfl, TC, nN, .inr ⟨d, _, upd_same, by rw [upd_ne hda, upd_same], (by show 1 ≤ 900; decide), ?_⟩⟩
      exact q _ d hd hda (fun b b1 b2 => by rw [upd_ne b2, upd_ne b1, upd_ne b2]) (by rw [upd_ne hda.symm, upd_same]) upd_same
end
end RR
end
section
set_option Elab.async false
set_option linter.all false
set_option maxRecDepth 100000
set_option maxHeartbeats 4000000
/-! Trees. -/
namespace RR
open PySem PySem.Spec PyProof.Rows L2
/-! ### cuts -/
theorem cut_take (xs : List V) (k : Nat) : cutV xs none (some (k : Int)) = xs.take k := by
  unfold cutV
  rw [HT.sIx_none, HT.sIx_nat, List.drop_zero, Nat.sub_zero]
  rw [← List.take_take, List.take_length]
theorem cut_drop (xs : List V) (k : Nat) : cutV xs (some (k : Int)) none = xs.drop k := by
  unfold cutV
  rw [HT.sIx_none, HT.sIx_nat]
  by_cases h : k ≤ xs.length
  · rw [Nat.min_eq_left h, List.take_of_length_le (by rw [List.length_drop]; omega)]
  · rw [Nat.min_eq_right (by omega), List.drop_length, List.drop_eq_nil_of_le (by omega)]
    simp
theorem cut_one (xs : List V) (k : Nat) : cutV xs (some (k : Int)) (some ((k : Int) + 1)) = (xs.drop k).take 1 := by
  have e : ((k : Int) + 1) = ((k + 1 : Nat) : Int) := by omega
  rw [e]
  unfold cutV
  rw [HT.sIx_nat, HT.sIx_nat]
  by_cases h : k < xs.length
  · rw [Nat.min_eq_left (by omega), Nat.min_eq_left (by omega)]
    congr 1
    omega
  · rw [Nat.min_eq_right (by omega), Nat.min_eq_right (by omega), List.drop_length, List.drop_eq_nil_of_le (by omega)]
    simp
theorem at0 (v : V) (r : List V) : atI (v :: r) 0 = some v := atI_nat (j := 0) rfl
theorem nat1 (k : Nat) : ((k : Int) + 1) = ((k + 1 : Nat) : Int) := by omega
/-! ### the scan -/
def bt (t : Tab) (i : Nat) : Nat := (((List.range t.length).drop 1).take i).foldl (topF t) 0
theorem bt_next {t : Tab} {i : Nat} (h : i + 1 < t.length) : bt t (i + 1) = topF t (bt t i) (i + 1) := by
  unfold bt
  refine foldl_next ?_
  rw [List.getElem?_drop, List.getElem?_range (show 1 + i < t.length by omega)]
  congr 1
  omega
theorem bt_le {t : Tab} : ∀ {i : Nat}, i < t.length → bt t i ≤ i
  | 0, _ => Nat.le_refl _
  | i + 1, h => by
    rw [bt_next h]
    have := bt_le (t := t) (i := i) (by omega)
    unfold topF
    split <;> omega
theorem bt_end {t : Tab} : bt t (t.length - 1) = top t := by
  rw [← top_one]
  unfold bt
  rw [List.take_of_length_le]
  rw [List.length_drop, List.length_range]
  exact Nat.le_refl _
def st (t : Tab) (i : Nat) : Nat := ((List.range t.length).take i).foldl (topF t) 0
theorem st_next {t : Tab} {i : Nat} (h : i < t.length) : st t (i + 1) = topF t (st t i) i := foldl_next (List.getElem?_range h)
theorem st_lt {t : Tab} : ∀ {i : Nat}, i ≤ t.length → 0 < t.length → st t i < t.length
  | 0, _, h0 => h0
  | i + 1, h, h0 => by
    rw [st_next (by omega)]
    exact topF_lt (st_lt (i := i) (by omega) h0) (by omega)
theorem st_end (t : Tab) : st t t.length = top t := by
  unfold st
  rw [List.take_of_length_le (by rw [List.length_range]; exact Nat.le_refl _)]
  rfl
theorem key_len {t : Tab} (h : TabOk t) {i : Nat} {p : Pr} (hp : t[i]? = some p) : p.1.length ≤ 1000 := Nat.le_trans (h p (List.mem_of_getElem? hp)).1.2.1 (by decide)
theorem topF_get {t : Tab} {b k : Nat} {p q : Pr} (hp : t[b]? = some p) (hq : t[k]? = some q) : topF t b k = if rank p.1 < rank q.1 then k else b := by
  unfold topF
  rw [List.getD_eq_getElem?_getD, List.getD_eq_getElem?_getD, hp, hq]
  rfl
theorem Lax.at {t : Tab} (h : Lax t) {i j : Nat} {p q : Pr} (hp : t[i]? = some p) (hq : t[j]? = some q) (hij : i < j) : ¬ kb q.1 p.1 := by
  obtain ⟨h1, rfl⟩ := List.getElem?_eq_some_iff.mp hp
  obtain ⟨h2, rfl⟩ := List.getElem?_eq_some_iff.mp hq
  exact List.pairwise_iff_getElem.mp h i j h1 h2 hij
theorem Lax.take {t : Tab} (h : Lax t) (n : Nat) : Lax (t.take n) := List.Pairwise.sublist (List.take_sublist n t) h
theorem Lax.drop {t : Tab} (h : Lax t) (n : Nat) : Lax (t.drop n) := List.Pairwise.sublist (List.drop_sublist n t) h
theorem TabOk.take {t : Tab} (h : TabOk t) (n : Nat) : TabOk (t.take n) := fun p hp => h p (List.mem_of_mem_take hp)
theorem TabOk.drop {t : Tab} (h : TabOk t) (n : Nat) : TabOk (t.drop n) := fun p hp => h p (List.mem_of_mem_drop hp)
/-! ### promises -/
def spTr0 (C : Addr) : Sp := fun vs H Q _ => ∃ r u, vs = [r] ∧ RuAt H r u ∧ ∀ H' v, Ext [] H H' → TrAt C H' u v .leaf → Q v H'
def spNodeOf (C : Addr) : Sp := fun vs H Q _ => ∃ r u k rv row av a bv b, vs = [r, .str k, rv, av, bv] ∧ RuAt H r u ∧ RowAt H rv row ∧ TrAt C H u av a ∧ TrAt C H u bv b ∧ EnOk (Tr.en u k row a b) ∧ ∀ H' v, Ext [] H H' → TrAt C H' u v (.node k row a b) → Q v H'
def spTree (C : Addr) (n : Nat) : Sp := fun vs H Q _ => ∃ r u t tab, vs = [r, .ref t] ∧ RuAt H r u ∧ LsAt PrAt H t tab ∧ Lax tab ∧ TabOk tab ∧ tab.length < n ∧ tab.length ≤ 100 ∧ ∀ H' v, Ext [] H H' → TrAt C H' u v (tr tab) → Q v H'
def spHead : Sp := fun vs H Q _ => ∃ r u t tab, vs = [r, .ref t] ∧ RuAt H r u ∧ LsAt PrAt H t tab ∧ Lax tab ∧ TabOk tab ∧ tab.length < 40 ∧ ∀ H' v, Ext [] H H' → LkAt H' v ((tr tab).lk u) → Q v H'
def spTop : Sp := fun vs H Q _ => ∃ t tab, vs = [.ref t] ∧ LsAt PrAt H t tab ∧ TabOk tab ∧ tab.length ≤ 100 ∧ ∀ H', Ext [] H H' → Q (.int (RR.top tab : Nat)) H'
def spLTree (n : Nat) : Sp := fun vs H Q _ => ∃ r u t tab, vs = [r, .ref t] ∧ RuAt H r u ∧ LsAt PrAt H t tab ∧ TabOk tab ∧ tab.length < n ∧ tab.length ≤ 100 ∧ ∀ H' p lv rest, Ext [] H H' → H' p = some (.lst (lv :: rest)) → LkAt H' lv ((tr tab).lk u) → Q (.ref p) H'
theorem fn_false {P : Program} {w : World} {K : PySem.W.Frag} {mg : Str → Option Value} {base : Heap} {CX : CXT} {k : Nat} {f : Addr} {fd : FuncData} {ps : List Str} {sp : Sp} (h : ∀ vs H Q E, ¬ sp vs H Q E) : FnOk P w K mg base CX k f fd ps sp :=
  ⟨fun vs H Q E q => (h _ _ _ _ q).elim, fun A outer s H args us vs Q E _ _ _ _ q => (h _ _ _ _ q).elim⟩
section
variable {P : Program} {w : World} {K : PySem.W.Frag} {mg : Str → Option Value} {base : Heap} {A : Ad} {f : Addr} {fd : FuncData}
abbrev s_empty_tree : Stmt := tp 16
theorem sc_empty_tree : FnScope ["rule"] ["rule"] (defScope s_empty_tree) := ⟨rfl, rfl, rfl, by decide +kernel, rfl, by decide +kernel, by decide +kernel⟩
abbrev ps_empty_tree : List Str := ["rule"]
abbrev sl_empty_tree : List Str := ["rule"]
theorem ok_empty_tree (F : FnP K "empty_tree" "empty_tree" s_empty_tree f fd) (T : Txt K mg A) (O_empty_link : OkF P w K mg base CX0 6 "empty_link" ps_empty_link spLk) (I_Tree : OkI P w K mg base CX0 1 "Tree" A.tree ps_Tree___init__ (spTreeI A.tree)) :
    FnOk P w K mg base CX0 7 f fd ps_empty_tree (spTr0 A.tree) := by
  refine F.ok sc_empty_tree (fun vs H Q E h => ?_) (fun cdv A' outer s H vs Q E hr h => ?_)
  · obtain ⟨r, u, rfl, _⟩ := h
    rfl
  · obtain ⟨r, u, rfl, hr0, q⟩ := h
    refine ⟨_, PSs.nox (pss_one (ps_ret (pe_c I_Tree (hr.mono (by decide)) pass0 (pa_cons (pe_f O_empty_link (hr.mono (by decide)) pass0 (pa_cons (pv 0) pa_nil)) (pa_cons pe_non (pa_cons pe_non (pa_cons pe_non pa_nil))))))), ?_⟩
    refine ⟨_, rfl, r, u, rfl, hr0, fun H1 lv e1 hl => ?_⟩
    intro x dx hx hdx ne
    refine ⟨x, dx, _, _, _, _, rfl, upd_same, fun H2 h2 => ⟨rfl, ?_⟩⟩
    have e2 : Ext [] H1 H2 := Ext.made hx hdx ne h2
    exact q _ _ (e1.trans e2) ⟨x, dx, lv, rfl, h2.2, hl.ext e2⟩
abbrev s_node_of : Stmt := tp 17
theorem sc_node_of : FnScope ["rule", "key", "row", "left", "right", "entry"] ["rule", "key", "row", "left", "right"] (defScope s_node_of) := ⟨rfl, rfl, rfl, by decide +kernel, rfl, by decide +kernel, by decide +kernel⟩
abbrev ps_node_of : List Str := ["rule", "key", "row", "left", "right"]
abbrev sl_node_of : List Str := ["rule", "key", "row", "left", "right", "entry"]
theorem ok_node_of (F : FnP K "node_of" "node_of" s_node_of f fd) (T : Txt K mg A) (O_entry_link : OkF P w K mg base CX0 6 "entry_link" ps_entry_link spEnLk) (I_Tree : OkI P w K mg base CX0 1 "Tree" A.tree ps_Tree___init__ (spTreeI A.tree)) :
    FnOk P w K mg base CX0 7 f fd ps_node_of (spNodeOf A.tree) := by
  refine F.ok sc_node_of (fun vs H Q E h => ?_) (fun cdv A' outer s H vs Q E hr h => ?_)
  · obtain ⟨r, u, k, rv, row, av, a, bv, b, rfl, _⟩ := h
    rfl
  · obtain ⟨r, u, k, rv, row, av, a, bv, b, rfl, hr0, hrow, ha, hb, hok, q⟩ := h
    refine ⟨_, PSs.nox (pss_cons (ps_set (i := 5) sc_node_of.nd rfl (Or.inl rfl) (pe_tup (pa_cons (pv 1) (pa_cons (pv 2) (pa_cons (pe_fld (pv 3) rfl) (pa_cons (pe_fld (pv 4) rfl) pa_nil))))))
        (pss_one (ps_ret (pe_c I_Tree (hr.mono (by decide)) pass0 (pa_cons (pe_f O_entry_link (hr.mono (by decide)) pass0 (pa_cons (pv 0) (pa_cons (pv 5) pa_nil))) (pa_cons (pv 5) (pa_cons (pv 3) (pa_cons (pv 4) pa_nil)))))))), ?_⟩
    obtain ⟨pa, da, la, ea, aa, ba, rfl, hpa, hla⟩ := ha.ref
    obtain ⟨pb, db, lb, eb, ab, bb, rfl, hpb, hlb⟩ := hb.ref
    refine ⟨_, rfl, _, rfl, _, rfl, pa, A.tree, da, _, la, rfl, hpa, T.tree, T.tL, treeF_link, _, rfl, pb, A.tree, db, _, lb, rfl, hpb, T.tree, T.tL, treeF_link, (by show 4 ≤ sizeLine; decide), fun n hn => ?_⟩
    have e1 : Ext [] H (upd H n (.tup [.str k, rv, la, lb])) := Ext.new hn
    have hen : EnAt (upd H n (.tup [.str k, rv, la, lb])) (.ref n) (Tr.en u k row a b) := ⟨n, rv, la, lb, rfl, upd_same, hrow.ext e1, hla.ext e1, hlb.ext e1⟩
    refine ⟨_, rfl, _, rfl, r, _, u, _, rfl, hr0.ext e1, hen, hok, fun H2 lv e2 hl => ?_⟩
    refine ⟨_, rfl, _, rfl, _, rfl, ?_⟩
    intro x dx hx hdx ne
    refine ⟨x, dx, _, _, _, _, rfl, upd_same, fun H3 h3 => ⟨rfl, ?_⟩⟩
    have e3 : Ext [] H2 H3 := Ext.made hx hdx ne h3
    have e4 := (e1.trans e2).trans e3
    exact q _ _ e4 ⟨x, dx, lv, .ref n, .ref pa, .ref pb, rfl, h3.2, hl.ext e3, (hen.ext e2).ext e3, ha.ext e4, hb.ext e4⟩
abbrev s_tree_of : Stmt := tp 18
theorem sc_tree_of : FnScope ["rule", "table", "top", "number", "left", "right"] ["rule", "table"] (defScope s_tree_of) := ⟨rfl, rfl, rfl, by decide +kernel, rfl, by decide +kernel, by decide +kernel⟩
abbrev ps_tree_of : List Str := ["rule", "table"]
abbrev sl_tree_of : List Str := ["rule", "table", "top", "number", "left", "right"]
theorem ok_tree_of (F : FnP K "tree_of" "tree_of" s_tree_of f fd) (T : Txt K mg A) (g : mg "tree_of" = some (.ref f)) (b : Binds K fd ps_tree_of []) (O_empty_tree : OkF P w K mg base CX0 7 "empty_tree" ps_empty_tree (spTr0 A.tree))
    (O_node_of : OkF P w K mg base CX0 7 "node_of" ps_node_of (spNodeOf A.tree)) (O_outranks : OkF P w K mg base CX0 2 "outranks" ps_outranks spOut) : ∀ n, FnOk P w K mg base CX0 (7 + n) f fd ps_tree_of (spTree A.tree n) := by
  intro n
  induction n with
  | zero => exact fn_false fun vs H Q E ⟨_, _, _, _, _, _, _, _, _, h, _⟩ => Nat.not_lt_zero _ h
  | succ n ih =>
    have O_tree_of : OkF P w K mg base CX0 (7 + n) "tree_of" ps_tree_of (spTree A.tree n) := ⟨f, fd, g, F.kp, b, ih⟩
    refine F.ok sc_tree_of (fun vs H Q E h => ?_) (fun cdv A' outer s H vs Q E hr h => ?_)
    · obtain ⟨r, u, t, tab, rfl, _⟩ := h
      rfl
    · obtain ⟨r, u, t, tab, rfl, hr0, ⟨us, ht, hA⟩, hlax, hok, hn, h100, q⟩ := h
      have hr7 : Room 7 _ := hr.mono (Nat.le_add_right 7 n)
      have hr2 : Room 2 _ := hr.mono (Nat.le_trans (by decide) (Nat.le_add_right 7 n))
      have hlen := hA.length
      refine ⟨_, PSs.nox (pss_cons (ps_if (pt_not (pt_truth (pv 1) (by intro _; rfl)))
          (pss_one (ps_ret (pe_f O_empty_tree hr7 pass0 (pa_cons (pv 0) pa_nil))))
          (pss_nil))
        (pss_cons (ps_set (i := 2) sc_tree_of.nd rfl (Or.inl rfl) pe_int)
        (pss_cons (ps_for PassesOwn.never rfl (pi_range2 (by rfl) T.range (pa_cons pe_int (pa_cons (pe_callB call_len_seq (by rfl) T.len PySem.boot_len (pa_cons (pv 1) pa_nil)) pa_nil))) (pg_name (i := 3) sc_tree_of.nd rfl (Or.inl rfl))
          (pss_one (ps_if (pt_val (pe_f O_outranks hr2 pass0 (pa_cons (pe_ix ix_tup (pe_ix ix_list (pv 1) (pv 3) (fun _ _ => rfl)) pe_int (fun _ _ => rfl)) (pa_cons (pe_ix ix_tup (pe_ix ix_list (pv 1) (pv 2) (fun _ _ => rfl)) pe_int (fun _ _ => rfl)) pa_nil))))
            (pss_one (ps_set (i := 2) sc_tree_of.nd rfl (Or.inl rfl) (pv 3)))
            (pss_nil))))
        (pss_cons (ps_set (i := 4) sc_tree_of.nd rfl (Or.inl rfl) (pe_f O_tree_of hr pass0 (pa_cons (pv 0) (pa_cons (pe_slice sl_list (pv 1) po_none (po_some (pv 2))) pa_nil))))
        (pss_cons (ps_set (i := 5) sc_tree_of.nd rfl (Or.inl rfl) (pe_f O_tree_of hr pass0 (pa_cons (pv 0) (pa_cons (pe_slice sl_list (pv 1) (po_some (pe_op op_add (pv 2) pe_int)) po_none) pa_nil))))
        (pss_one (ps_ret (pe_f O_node_of hr7 pass0 (pa_cons (pv 0) (pa_cons (pe_ix ix_tup (pe_ix ix_list (pv 1) (pv 2) (fun _ _ => rfl)) pe_int (fun _ _ => rfl)) (pa_cons (pe_ix ix_tup (pe_ix ix_list (pv 1) (pv 2) (fun _ _ => rfl)) pe_int (fun _ _ => rfl)) (pa_cons (pv 4) (pa_cons (pv 5) pa_nil))))))))))))), ?_⟩
      refine ⟨_, rfl, !us.isEmpty, .inl ⟨us, SqL.of ht, rfl⟩, iteB (fun c => ?_) fun c => ?_⟩
      · have e0 : tab = [] := by
          cases tab with
          | nil => rfl
          | cons p tab =>
            cases us with
            | nil => cases hlen
            | cons _ _ => cases c
        subst e0
        exact ⟨_, rfl, r, u, rfl, hr0, q⟩
      · have hpos : 0 < tab.length := by
          cases us with
          | nil => cases c
          | cons _ _ => rw [← hlen, List.length_cons]; omega
        have hne : tab ≠ [] := List.length_pos_iff.mp hpos
        refine ⟨_, rfl, t, _, rfl, .inl (SqL.of ht), 1, (us.length : Int), rfl, ⟨by decide, by decide, by omega, by omega⟩, ?_⟩
        have hm : ((us.length : Int) - 1).toNat = tab.length - 1 := by omega
        rw [hm]
        refine for_range (lo := 1) (n := tab.length - 1) (fun i σ H' => Ext [] H H' ∧ ∃ z1 z2 z3, σ = [some r, some (.ref t), some (.int (bt tab i : Nat)), z1, z2, z3]) ⟨Ext.refl _ _, none, none, none, rfl⟩ ?_ ?_
        · rintro i σ H1 hi ⟨e1, z1, z2, z3, rfl⟩
          have hbi := bt_le (t := tab) (i := i) (by omega)
          have e11 : (1 : Int) + (i : Int) = ((i + 1 : Nat) : Int) := by omega
          obtain ⟨p, hp⟩ : ∃ p, tab[i + 1]? = some p := ⟨_, List.getElem?_eq_getElem (by omega)⟩
          obtain ⟨o, ho⟩ : ∃ o, tab[bt tab i]? = some o := ⟨_, List.getElem?_eq_getElem (by omega)⟩
          obtain ⟨pv, hpv, ⟨pa, prv, rfl, hpa, _⟩⟩ := hA.get hp
          obtain ⟨ov, hov, ⟨oa, orv, rfl, hoa, _⟩⟩ := hA.get ho
          have ht1 := e1.lst ht (by simp)
          refine ⟨_, rfl, _, rfl, t, us, _, _, rfl, rfl, SqL.of ht1, (by rw [e11]; exact atI_nat hpv), pa, _, _, _, rfl, rfl, SqT.of (e1.tup hpa), rfl, _, rfl, _, rfl, t, us, _, _, rfl, rfl, SqL.of ht1, atI_nat hov, oa, _, _, _, rfl, rfl, SqT.of (e1.tup hoa), rfl, p.1, o.1, rfl, key_len hok hp, key_len hok ho, fun H2 e2 => ?_⟩
          refine ⟨_, rfl, ?_⟩
          have htest : (rank o.1 < rank p.1 ∨ rank o.1 = rank p.1 ∧ kb p.1 o.1) ↔ rank o.1 < rank p.1 := ⟨fun h => h.elim id fun h => absurd h.2 (hlax.at ho hp (by omega)), .inl⟩
          refine iteD (fun c => ?_) fun c => ?_
          · refine ⟨_, rfl, e1.trans e2, some (.int (1 + (i : Int))), z2, z3, ?_⟩
            rw [bt_next (by omega), topF_get ho hp, if_pos (htest.mp c), ← e11]
            rfl
          · refine ⟨e1.trans e2, some (.int (1 + (i : Int))), z2, z3, ?_⟩
            rw [bt_next (by omega), topF_get ho hp, if_neg (fun z => c (htest.mpr z))]
            rfl
        · rintro σ H1 ⟨e1, z1, z2, z3, rfl⟩
          rw [bt_end]
          have htop := top_lt hne
          obtain ⟨p, hp⟩ : ∃ p, tab[RR.top tab]? = some p := ⟨_, List.getElem?_eq_getElem htop⟩
          obtain ⟨pv, hpv, ⟨pa, prv, rfl, hpa, hprow⟩⟩ := hA.get hp
          have hokp := hok p (List.mem_of_getElem? hp)
          have ht1 := e1.lst ht (by simp)
          refine ⟨_, rfl, _, rfl, _, rfl, _, rfl, t, us, rfl, SqL.of ht1, fun c hc => ?_⟩
          rw [cut_take]
          have e2 : Ext [] H (upd H1 c (.lst (us.take (RR.top tab)))) := e1.new2 hc
          refine ⟨r, u, c, tab.take (RR.top tab), rfl, hr0.ext e2, ⟨_, upd_same, (hA.take _).imp fun _ _ => PrAt.ext e2⟩, hlax.take _, hok.take _, by rw [List.length_take]; omega, by rw [List.length_take]; omega, fun H2 av e3 ha => ?_⟩
          have e4 := e2.trans e3
          refine ⟨_, rfl, _, rfl, _, rfl, _, _, rfl, rfl, _, rfl, t, us, rfl, SqL.of (e4.lst ht (by simp)), fun d hd => ?_⟩
          rw [nat1, cut_drop]
          have e5 : Ext [] H (upd H2 d (.lst (us.drop (RR.top tab + 1)))) := e4.new2 hd
          refine ⟨r, u, d, tab.drop (RR.top tab + 1), rfl, hr0.ext e5, ⟨_, upd_same, (hA.drop _).imp fun _ _ => PrAt.ext e5⟩, hlax.drop _, hok.drop _, by rw [List.length_drop]; omega, by rw [List.length_drop]; omega, fun H3 bv e6 hb => ?_⟩
          have e7 := e5.trans e6
          have ht3 := SqL.of (K := K) (e7.lst ht (by simp))
          have hp3 := SqT.of (K := K) (e7.tup hpa)
          have ha3 := ha.ext ((Ext.new (S := []) hd).trans e6)
          refine ⟨_, rfl, _, rfl, _, rfl, t, us, _, _, rfl, rfl, ht3, atI_nat hpv, pa, _, _, _, rfl, rfl, hp3, rfl, _, rfl, _, rfl, t, us, _, _, rfl, rfl, ht3, atI_nat hpv, pa, _, _, _, rfl, rfl, hp3, rfl, _, rfl, _, rfl, ?_⟩
          have e8 := tr_rows (tab.take (RR.top tab))
          have e9 := tr_rows (tab.drop (RR.top tab + 1))
          have hok2 : TabOk (Tr.node p.1 p.2 (tr (tab.take (RR.top tab))) (tr (tab.drop (RR.top tab + 1)))).rows := by
            rw [← tr_cons hp, tr_rows]
            exact hok
          refine ⟨r, u, p.1, prv, p.2, av, _, bv, _, rfl, hr0.ext e7, hprow.ext e7, ha3, hb, (Tr.en_ok u _ hok2).2 _ _ _ _ rfl, fun H4 v e10 hv => ?_⟩
          rw [← tr_cons hp] at hv
          exact q _ _ (e7.trans e10) hv
abbrev s_head_of : Stmt := tp 19
theorem sc_head_of : FnScope ["rule", "table"] ["rule", "table"] (defScope s_head_of) := ⟨rfl, rfl, rfl, by decide +kernel, rfl, by decide +kernel, by decide +kernel⟩
abbrev ps_head_of : List Str := ["rule", "table"]
abbrev sl_head_of : List Str := ["rule", "table"]
theorem ok_head_of (F : FnP K "head_of" "head_of" s_head_of f fd) (T : Txt K mg A) (O_tree_of : OkF P w K mg base CX0 47 "tree_of" ps_tree_of (spTree A.tree 40)) : FnOk P w K mg base CX0 48 f fd ps_head_of spHead := by
  refine F.ok sc_head_of (fun vs H Q E h => ?_) (fun cdv A' outer s H vs Q E hr h => ?_)
  · obtain ⟨r, u, t, tab, rfl, _⟩ := h
    rfl
  · obtain ⟨r, u, t, tab, rfl, hr0, ht, hlax, hok, hn, q⟩ := h
    refine ⟨_, PSs.nox (pss_one (ps_ret (pe_fld (pe_f O_tree_of (hr.mono (by decide)) pass0 (pa_cons (pv 0) (pa_cons (pv 1) pa_nil))) rfl))), ?_⟩
    refine ⟨_, rfl, _, rfl, r, u, t, tab, rfl, hr0, ht, hlax, hok, hn, by omega, fun H1 v e1 hv => ?_⟩
    obtain ⟨p, dx, lv, ev, av, bv, rfl, hp, hl⟩ := hv.ref
    exact ⟨p, A.tree, dx, _, lv, rfl, hp, T.tree, T.tL, treeF_link, q _ _ e1 hl⟩
abbrev s__law_top : Stmt := tp 59
theorem sc__law_top : FnScope ["_law_table_here", "_law_best", "_law_k"] ["_law_table_here"] (defScope s__law_top) := ⟨rfl, rfl, rfl, by decide +kernel, rfl, by decide +kernel, by decide +kernel⟩
abbrev ps__law_top : List Str := ["_law_table_here"]
abbrev sl__law_top : List Str := ["_law_table_here", "_law_best", "_law_k"]
theorem ok__law_top (F : FnP K "_law_top" "_law_top" s__law_top f fd) (T : Txt K mg A) (O__law_rank : OkF P w K mg base CX0 2 "_law_rank" ps__law_rank spRank) : FnOk P w K mg base CX0 3 f fd ps__law_top spTop := by
  refine F.ok sc__law_top (fun vs H Q E h => ?_) (fun cdv A' outer s H vs Q E hr h => ?_)
  · obtain ⟨t, tab, rfl, _⟩ := h
    rfl
  · obtain ⟨t, tab, rfl, ⟨us, ht, hA⟩, hok, h100, q⟩ := h
    have hlen := hA.length
    refine ⟨_, PSs.nox (pss_cons (ps_set (i := 1) sc__law_top.nd rfl (Or.inl rfl) pe_int)
        (pss_cons (ps_for PassesOwn.never rfl (pi_range1 (by rfl) T.range (pa_cons (pe_callB call_len_seq (by rfl) T.len PySem.boot_len (pa_cons (pv 0) pa_nil)) pa_nil)) (pg_name (i := 2) sc__law_top.nd rfl (Or.inl rfl))
          (pss_one (ps_if (pt_cmpR op_gt (pe_f O__law_rank (hr.mono (by decide)) pass0 (pa_cons (pe_ix ix_tup (pe_ix ix_list (pv 0) (pv 2) (fun _ _ => rfl)) pe_int (fun _ _ => rfl)) pa_nil)) (pe_f O__law_rank (hr.mono (by decide)) pass0 (pa_cons (pe_ix ix_tup (pe_ix ix_list (pv 0) (pv 1) (fun _ _ => rfl)) pe_int (fun _ _ => rfl)) pa_nil)) (nomark _))
            (pss_one (ps_set (i := 1) sc__law_top.nd rfl (Or.inl rfl) (pv 2)))
            (pss_nil))))
        (pss_one (ps_ret (pv 1))))), ?_⟩
    refine ⟨_, rfl, t, _, rfl, .inl (SqL.of ht), _, rfl, by omega, by omega, ?_⟩
    rw [Int.toNat_natCast, hlen]
    refine for_range (lo := 0) (n := tab.length) (fun i σ H' => Ext [] H H' ∧ ∃ z1, σ = [some (.ref t), some (.int (st tab i : Nat)), z1]) ⟨Ext.refl _ _, none, rfl⟩ ?_ ?_
    · rintro i σ H1 hi ⟨e1, z1, rfl⟩
      have hsi := st_lt (t := tab) (i := i) (by omega) (by omega)
      have e11 : (0 : Int) + (i : Int) = (i : Int) := Int.zero_add _
      obtain ⟨p, hp⟩ : ∃ p, tab[i]? = some p := ⟨_, List.getElem?_eq_getElem hi⟩
      obtain ⟨o, ho⟩ : ∃ o, tab[st tab i]? = some o := ⟨_, List.getElem?_eq_getElem hsi⟩
      obtain ⟨pv, hpv, ⟨pa, prv, rfl, hpa, _⟩⟩ := hA.get hp
      obtain ⟨ov, hov, ⟨oa, orv, rfl, hoa, _⟩⟩ := hA.get ho
      have ht1 := e1.lst ht (by simp)
      refine ⟨_, rfl, _, rfl, t, us, _, _, rfl, rfl, SqL.of ht1, (by rw [e11]; exact atI_nat hpv), pa, _, _, _, rfl, rfl, SqT.of (e1.tup hpa), rfl, p.1, rfl, key_len hok hp, fun H2 e2 => ?_⟩
      have e3 := e1.trans e2
      refine ⟨_, rfl, _, rfl, t, us, _, _, rfl, rfl, SqL.of (e3.lst ht (by simp)), atI_nat hov, oa, _, _, _, rfl, rfl, SqT.of (e3.tup hoa), rfl, o.1, rfl, key_len hok ho, fun H3 e4 => ?_⟩
      refine ⟨_, _, rfl, rfl, _, rfl, ?_⟩
      refine iteD (fun c => ?_) fun c => ?_
      · refine ⟨_, rfl, e3.trans e4, some (.int (0 + (i : Int))), ?_⟩
        rw [st_next hi, topF_get ho hp, if_pos c]
        show ([some (.ref t), some (.int (0 + (i : Int))), some (.int (0 + (i : Int)))] : L2.St) = _
        rw [e11]
      · refine ⟨e3.trans e4, some (.int (0 + (i : Int))), ?_⟩
        rw [st_next hi, topF_get ho hp, if_neg c]
        rfl
    · rintro σ H1 ⟨e1, z1, rfl⟩
      rw [st_end]
      exact ⟨_, rfl, q _ e1⟩
abbrev s__law_tree : Stmt := tp 60
theorem sc__law_tree : FnScope ["_law_rule_here", "_law_table_here", "_law_top_here", "_law_left", "_law_right", "_law_entry"] ["_law_rule_here", "_law_table_here"] (defScope s__law_tree) := ⟨rfl, rfl, rfl, by decide +kernel, rfl, by decide +kernel, by decide +kernel⟩
abbrev ps__law_tree : List Str := ["_law_rule_here", "_law_table_here"]
abbrev sl__law_tree : List Str := ["_law_rule_here", "_law_table_here", "_law_top_here", "_law_left", "_law_right", "_law_entry"]
theorem ok__law_tree (F : FnP K "_law_tree" "_law_tree" s__law_tree f fd) (T : Txt K mg A) (g : mg "_law_tree" = some (.ref f)) (b : Binds K fd ps__law_tree []) (O__law_digest : OkF P w K mg base CX0 6 "_law_digest" ps__law_digest (spDig 4))
    (O__law_top : OkF P w K mg base CX0 3 "_law_top" ps__law_top spTop) (O__law_link : OkF P w K mg base CX0 7 "_law_link" ps__law_link spEnLk) : ∀ n, FnOk P w K mg base CX0 (7 + n) f fd ps__law_tree (spLTree n) := by
  intro n
  induction n with
  | zero => exact fn_false fun vs H Q E ⟨_, _, _, _, _, _, _, _, h, _⟩ => Nat.not_lt_zero _ h
  | succ n ih =>
    have O__law_tree : OkF P w K mg base CX0 (7 + n) "_law_tree" ps__law_tree (spLTree n) := ⟨f, fd, g, F.kp, b, ih⟩
    refine F.ok sc__law_tree (fun vs H Q E h => ?_) (fun cdv A' outer s H vs Q E hr h => ?_)
    · obtain ⟨r, u, t, tab, rfl, _⟩ := h
      rfl
    · obtain ⟨r, u, t, tab, rfl, hr0, ⟨us, ht, hA⟩, hok, hn, h100, q⟩ := h
      have hr7 : Room 7 _ := hr.mono (Nat.le_add_right 7 n)
      have hr6 : Room 6 _ := hr7.mono (by decide)
      have hr3 : Room 3 _ := hr7.mono (by decide)
      have hlen := hA.length
      refine ⟨_, PSs.nox (pss_cons (ps_if (pt_cmpR op_eq (pe_callB call_len_seq (by rfl) T.len PySem.boot_len (pa_cons (pv 1) pa_nil)) pe_int (nomark _))
          (pss_one (ps_ret (pe_lst (pa_cons (pe_tup (pa_cons (pe_f O__law_digest hr6 pass0 (pa_cons (pv 0) (pa_cons (pe_tup (pa_cons pe_str pa_nil)) pa_nil))) (pa_cons pe_int (pa_cons (pe_tup (pa_cons pe_int (pa_cons pe_int (pa_cons pe_int pa_nil)))) pa_nil)))) (pa_cons pe_non (pa_cons pe_non (pa_cons pe_non pa_nil)))))))
          (pss_nil))
        (pss_cons (ps_set (i := 2) sc__law_tree.nd rfl (Or.inl rfl) (pe_f O__law_top hr3 pass0 (pa_cons (pv 1) pa_nil)))
        (pss_cons (ps_set (i := 3) sc__law_tree.nd rfl (Or.inl rfl) (pe_f O__law_tree hr pass0 (pa_cons (pv 0) (pa_cons (pe_slice sl_list (pv 1) po_none (po_some (pv 2))) pa_nil))))
        (pss_cons (ps_set (i := 4) sc__law_tree.nd rfl (Or.inl rfl) (pe_f O__law_tree hr pass0 (pa_cons (pv 0) (pa_cons (pe_slice sl_list (pv 1) (po_some (pe_op op_add (pv 2) pe_int)) po_none) pa_nil))))
        (pss_cons (ps_set (i := 5) sc__law_tree.nd rfl (Or.inl rfl) (pe_tup (pa_cons (pe_ix ix_tup (pe_ix ix_list (pv 1) (pv 2) (fun _ _ => rfl)) pe_int (fun _ _ => rfl)) (pa_cons (pe_ix ix_tup (pe_ix ix_list (pv 1) (pv 2) (fun _ _ => rfl)) pe_int (fun _ _ => rfl)) (pa_cons (pe_ix ix_list (pv 3) pe_int (fun _ _ => rfl)) (pa_cons (pe_ix ix_list (pv 4) pe_int (fun _ _ => rfl)) pa_nil))))))
        (pss_one (ps_ret (pe_lst (pa_cons (pe_f O__law_link hr7 pass0 (pa_cons (pv 0) (pa_cons (pv 5) pa_nil))) (pa_cons (pv 5) (pa_cons (pv 3) (pa_cons (pv 4) pa_nil)))))))))))), ?_⟩
      refine ⟨_, rfl, t, _, rfl, .inl (SqL.of ht), rfl, _, rfl, iteD (fun c => ?_) fun c => ?_⟩
      · have e0 : tab = [] := by
          have c' : (us.length : Int) = 0 := V.int.inj c
          exact List.eq_nil_of_length_eq_zero (by omega)
        subst e0
        refine ⟨_, rfl, (by show 1 ≤ sizeLine; decide), fun p hp => ?_⟩
        have e0 : Ext [] H (upd H p (.tup [.str "empty"])) := Ext.new hp
        refine ⟨r, _, u, encEm, rfl, hr0.ext e0, Enc.tup upd_same ⟨Enc.str (by decide +kernel), trivial⟩ (by decide +kernel), (by decide +kernel), fun H1 e1 => ?_⟩
        refine ⟨(by show 3 ≤ sizeLine; decide), fun p2 hp2 => ⟨(by show 3 ≤ sizeLine; decide), fun p3 hp3 => ⟨(by show 4 ≤ sizeLine; decide), fun p4 hp4 => ?_⟩⟩⟩
        have e3 := (((e0.trans e1).new2 (o := .tup [.int 0, .int 0, .int 0]) hp2).new2 (o := .tup [.int (dig u encEm), .int 0, .ref p2]) hp3).new2 (o := .lst [.ref p3, .non, .non, .non]) hp4
        refine q _ p4 (.ref p3) _ e3 upd_same ⟨p3, p2, rfl, (Ext.new (S := []) hp4).tup upd_same, (Ext.new (S := []) hp4).tup ((Ext.new (S := []) hp3).tup upd_same)⟩
      · have hpos : 0 < tab.length := by
          rcases Nat.eq_zero_or_pos tab.length with z | z
          · exact absurd (by rw [hlen, z]; rfl) c
          · exact z
        have hne : tab ≠ [] := List.length_pos_iff.mp hpos
        have htop := top_lt hne
        refine ⟨_, rfl, t, tab, rfl, ⟨us, ht, hA⟩, hok, h100, fun H1 e1 => ?_⟩
        obtain ⟨p, hp⟩ : ∃ p, tab[RR.top tab]? = some p := ⟨_, List.getElem?_eq_getElem htop⟩
        obtain ⟨pv, hpv, ⟨pa, prv, rfl, hpa, hprow⟩⟩ := hA.get hp
        have ht1 := e1.lst ht (by simp)
        refine ⟨_, rfl, _, rfl, _, rfl, _, rfl, t, us, rfl, SqL.of ht1, fun c hc => ?_⟩
        rw [cut_take]
        have e2 : Ext [] H (upd H1 c (.lst (us.take (RR.top tab)))) := e1.new2 hc
        refine ⟨r, u, c, tab.take (RR.top tab), rfl, hr0.ext e2, ⟨_, upd_same, (hA.take _).imp fun _ _ => PrAt.ext e2⟩, hok.take _, by rw [List.length_take]; omega, by rw [List.length_take]; omega, fun H2 al av arest e3 hal hav => ?_⟩
        have e4 := e2.trans e3
        refine ⟨_, rfl, _, rfl, _, rfl, _, _, rfl, rfl, _, rfl, t, us, rfl, SqL.of (e4.lst ht (by simp)), fun d hd => ?_⟩
        rw [nat1, cut_drop]
        have e5 : Ext [] H (upd H2 d (.lst (us.drop (RR.top tab + 1)))) := e4.new2 hd
        refine ⟨r, u, d, tab.drop (RR.top tab + 1), rfl, hr0.ext e5, ⟨_, upd_same, (hA.drop _).imp fun _ _ => PrAt.ext e5⟩, hok.drop _, by rw [List.length_drop]; omega, by rw [List.length_drop]; omega, fun H3 bl bv brest e6 hbl hbv => ?_⟩
        have e7 := e5.trans e6
        have e23 := (Ext.new (S := []) (o := .lst (us.drop (RR.top tab + 1))) hd).trans e6
        have ht3 := SqL.of (K := K) (e7.lst ht (by simp))
        have hp3 := SqT.of (K := K) (e7.tup hpa)
        refine ⟨_, rfl, _, rfl, t, us, _, _, rfl, rfl, ht3, atI_nat hpv, pa, _, _, _, rfl, rfl, hp3, rfl, _, rfl, _, rfl, t, us, _, _, rfl, rfl, ht3, atI_nat hpv, pa, _, _, _, rfl, rfl, hp3, rfl, _, rfl, al, _, _, _, rfl, rfl, SqL.of (e23.lst hal (by simp)), at0 _ _, _, rfl, bl, _, _, _, rfl, rfl, SqL.of hbl, at0 _ _, (by show 4 ≤ sizeLine; decide), fun n hn => ?_⟩
        have hok2 : TabOk (Tr.node p.1 p.2 (tr (tab.take (RR.top tab))) (tr (tab.drop (RR.top tab + 1)))).rows := by
          rw [← tr_cons hp, tr_rows]
          exact hok
        have e8 : Ext [] H3 (upd H3 n (.tup [.str p.1, prv, av, bv])) := Ext.new hn
        have hen : EnAt (upd H3 n (.tup [.str p.1, prv, av, bv])) (.ref n) (Tr.en u p.1 p.2 (tr (tab.take (RR.top tab))) (tr (tab.drop (RR.top tab + 1)))) := ⟨n, prv, av, bv, rfl, upd_same, (hprow.ext e7).ext e8, (hav.ext e23).ext e8, hbv.ext e8⟩
        refine ⟨_, rfl, _, rfl, r, _, u, _, rfl, (hr0.ext e7).ext e8, hen, (Tr.en_ok u _ hok2).2 _ _ _ _ rfl, fun H4 lv e9 hlv => ?_⟩
        refine ⟨_, rfl, _, rfl, _, rfl, (by show 4 ≤ sizeLine; decide), fun z hz => ?_⟩
        refine q _ z lv _ (((e7.trans e8).trans e9).new2 hz) upd_same ?_
        rw [tr_cons hp]
        exact LkAt.ext (Ext.new (S := []) hz) hlv
end
end RR
end
section
set_option Elab.async false
set_option linter.all false
set_option maxRecDepth 100000
set_option maxHeartbeats 4000000
/-! What is well-formed: is_key, is_row, is_number, is_link, is_entry. -/
namespace RR
open PySem PySem.Spec PyProof.Rows L2
/-! ### tests within a generator expression, in the model's own words -/
def lettersS : Str := "abcdefghijklmnopqrstuvwxyz0123456789"
def sgn (v : V) : Nat := match v with
  | .str z => z.cps.getD 0 0
  | _ => 0
def isNum (v : V) : Bool := match v with
  | .int i => decide (0 ≤ i)
  | _ => false
def isCell (v : V) : Bool := match v with
  | .int i => decide (0 ≤ i) && decide (i ≤ 65535)
  | _ => false
theorem keeps_tr {s s1 s2 : Shared} (a : Keeps s s1) (b : Keeps s1 s2) : Keeps s s2 := by
  obtain ⟨h1, t1, rfl, k1⟩ := a
  obtain ⟨h2, t2, rfl, k2⟩ := b
  exact ⟨h2, t2, rfl, fun b o e => k2 b o (k1 b o e)⟩
section
variable {X : Cx}
theorem el_letter {scope : Scope} {p1 p2 p3 : Pos} (hl : ∃ t, X.mg "LETTERS" = some (.str lettersS t)) (hk : scope.kind = .function) (h1 : scope.names.lookup ("letter" : Str) = some .local) (h2 : scope.names.lookup ("LETTERS" : Str) = some .globalImplicit) :
    ElOk X scope "letter" (.Compare (.Name "letter" p1) [.In] [.Name "LETTERS" p2] p3) (fun v => ∃ c, v = .str ⟨#[c]⟩) (fun v => decide (sgn v ∈ lettersS.cps.toList)) := by
  intro cenv A' E' v u s₂ I r hv
  obtain ⟨c, rfl⟩ := hv
  obtain ⟨t, rfl⟩ := r
  obtain ⟨m₂, hn, hm⟩ := I.loc
  obtain ⟨t2, hg⟩ := hl
  refine wpAny_Compare1 ?_ (by rfl)
  refine wpAny_Name (wpAny_loadName_local (by rw [I.scope]; exact hk) (show cenv.scope.names.lookup ("letter" : Str) = some .local by rw [I.scope]; exact h1) hn hm ?_) (by decide)
  refine Calls.Name_function_global (by rw [I.scope]; exact hk) (show cenv.scope.names.lookup ("LETTERS" : Str) = some .globalImplicit by rw [I.scope]; exact h2) (Calls.loadGlobal_global (by rw [I.glob]; exact I.md.glob.keeps I.base) hg ?_)
  refine PyProof.Rows.in_str ⟨?_, GxR.keeps_refl _⟩
  exact congrArg Value.bool (PySem.StrLaws.found_one lettersS c)
theorem el_cell {scope : Scope} {p0 p1 p2 p3 : Pos} (hl : ∃ t, X.mg "MOST_NUMBER" = some (.int 65535 t)) (hk : scope.kind = .function) (h1 : scope.names.lookup ("number" : Str) = some .local) (h2 : scope.names.lookup ("MOST_NUMBER" : Str) = some .globalImplicit) {j : Nat} :
    ElOk X scope "number" (.Compare (.Constant (.int 0) j p0) [.LtE, .LtE] [.Name "number" p1, .Name "MOST_NUMBER" p2] p3) (fun v => ∃ i, v = .int i) isCell := by
  intro cenv A' E' v u s₂ I r hv
  obtain ⟨i, rfl⟩ := hv
  obtain ⟨t, rfl⟩ := r
  obtain ⟨m₂, hn, hm⟩ := I.loc
  obtain ⟨t2, hg⟩ := hl
  refine Compare_chain ?_ (by rfl)
  refine wpAny_Constant_int ?_
  refine chain_link ?_
  refine wpAny_Name (wpAny_loadName_local (m := m₂) (by rw [I.scope]; exact hk) (show cenv.scope.names.lookup ("number" : Str) = some .local by rw [I.scope]; exact h1) hn hm ?_) (by decide)
  refine PyProof.Rows.le_int ?_
  refine wpAny_truthy_bool ?_
  by_cases c : 0 ≤ i
  · rw [decide_eq_true c, if_pos rfl]
    refine chain_last ?_
    refine Calls.Name_function_global (by rw [I.scope]; exact hk) (show cenv.scope.names.lookup ("MOST_NUMBER" : Str) = some .globalImplicit by rw [I.scope]; exact h2) (Calls.loadGlobal_global (by rw [I.glob]; exact I.md.glob.keeps I.base) hg ?_)
    refine PyProof.Rows.le_int ⟨?_, GxR.keeps_tok _ _⟩
    show Value.bool (decide (i ≤ 65535)) = Value.bool (decide (0 ≤ i) && decide (i ≤ 65535))
    rw [decide_eq_true c, Bool.true_and]
  · rw [decide_eq_false c, if_neg Bool.false_ne_true]
    refine ⟨?_, GxR.keeps_tok _ _⟩
    show Value.bool false = Value.bool (decide (0 ≤ i) && decide (i ≤ 65535))
    rw [decide_eq_false c, Bool.false_and]
end
abbrev s_is_number : Stmt := tp 27
section
variable {P : Program} {w : World} {K : PySem.W.Frag} {mg : Str → Option Value} {base : Heap} {A : Ad} {f : Addr} {fd : FuncData}
theorem num_raw (F : FnP K "is_number" "is_number" s_is_number f fd) (mi : mg "int" = none) (mb : mg "bool" = none) (ms : mg "isinstance" = none) {A' : Around} {E : Value → Shared → Prop} {s : Shared} {i : Int} {t : Tok}
    (KX : K.In s.heap) (lim : s.heap.NoLimit) (hg : s.heap.Ns mainGlobals mg) (hb : ∃ mb, s.heap.Ns builtinsNs mb ∧ ∀ x : Str, x ≠ "__name__" → mb x = bootBuiltins x) (hroom : A'.depth < recursionLimit) :
    wpAny (model P w) A' (call (.ref f) [.int i t]) (fun y s' => y = .bool (decide (0 ≤ i)) ∧ Keeps s s') E s := by
  obtain ⟨oc, od, dV, kV, doc, pm, an, cdv, ct, osl, rfl, lk, hcd, hD, _⟩ := F.ex
  rcases hD with ⟨_, rfl⟩ | ⟨z, _⟩
  · obtain ⟨bm, hbn, hbq⟩ := hb
    refine wpAny_call (Att.call_fn (binds := [("value", .int i t)]) KX lim lk hcd hroom (BindsTo.of_eq rfl) rfl (fun s₁ IC => ?_) rfl rfl rfl)
    have k := IC.toInCall.keep
    have hn := IC.toInCall.ns
    have KX1 : K.In s₁.heap := KX.keeps k
    have hg1 := hg.keeps k
    have hb1 := hbn.keeps k
    have ks : Keeps s s₁ := by
      obtain ⟨h, tk, e⟩ := IC.toInCall.same
      exact ⟨h, tk, e, by rw [e] at k; exact k⟩
    have bi : ∀ {x : Str} {v : Value} {s2 : Shared} {Q : Value → Shared → Prop} {A2 : Around} {E2 : Value → Shared → Prop} {p : Pos}, Keeps s₁ s2 → x ≠ "__name__" → (x == ("__debug__" : Str)) = false → mg x = none → bootBuiltins x = some v → (envOfC "is_number" (defScope s_is_number) s.heap.objs.size f cdv).kindOf x = some .globalImplicit → Q v s2 → wpAny (model P w) A2 (eval (.Name x p) (envOfC "is_number" (defScope s_is_number) s.heap.objs.size f cdv)) Q E2 s2 := by
      intro x v s2 Q A2 E2 p ⟨h2, t2, e2, k2⟩ hn hd hm hv hk hq
      subst e2
      exact Calls.Name_function_global rfl hk (Calls.loadGlobal_builtin (hg1.keeps k2) hm (hb1.keeps k2) ((hbq x hn).trans hv) hq) hd
    have va : ∀ {s2 : Shared} {Q : Value → Shared → Prop} {A2 : Around} {E2 : Value → Shared → Prop} {p : Pos}, Keeps s₁ s2 → Q (.int i t) s2 → wpAny (model P w) A2 (eval (.Name "value" p) (envOfC "is_number" (defScope s_is_number) s.heap.objs.size f cdv)) Q E2 s2 := by
      intro s2 Q A2 E2 p ⟨h2, t2, e2, k2⟩ hq
      subst e2
      exact wpAny_Name (wpAny_loadName_local rfl rfl (hn.keeps k2) rfl hq) (by decide)
    have isi : ∀ {c : String} {b : Bool} {s2 : Shared} {Q : Value → Shared → Prop} {A2 : Around} {E2 : Value → Shared → Prop}, Keeps s₁ s2 → PySem.W.kitOne K (.type "int") (.type c) = some b → (∀ s3, Keeps s₁ s3 → Q (.bool b) s3) → wpAny (model P w) A2 (call (.builtin "isinstance") [.int i t, .type c]) Q E2 s2 := by
      intro c b s2 Q A2 E2 ks2 hk hq
      have ks3 := ks2
      obtain ⟨h2, t2, e2, k2⟩ := ks2
      subst e2
      exact PySem.W.kia_one PySem.W.kitx_int (KX1.keeps k2) trivial hk (fun z => nomatch z) fun tk => hq _ (keeps_tr ks3 (GxR.keeps_tok _ tk))
    show wpAny _ _ (execs _ _) _ _ _
    refine wpAny_execs_cons (wpAny_Return_some ?_)
    refine BoolOp_and ?_
    refine wpAny_Call_Name_kw (bi (GxR.keeps_refl _) (by decide) (by decide) ms boot_isinstance rfl ?_)
    refine PyProof.Rows.callWith_builtin1 ?_ (by rfl) (by rfl)
    refine Calls.spliced_cons (va (GxR.keeps_refl _) ?_)
    refine Calls.spliced_cons (bi (GxR.keeps_refl _) (by decide) (by decide) mi boot_int rfl (Calls.spliced_nil ?_))
    refine isi (b := true) (GxR.keeps_refl _) (kit_ty (by decide +kernel)) fun s2 k2 => ?_
    refine wpAny_truthy_bool ?_
    show wpAny _ _ (eval (.BoolOp .And _ _) _) _ _ _
    refine BoolOp_and ?_
    refine UnaryOp_ ?_
    refine wpAny_Call_Name_kw (bi k2 (by decide) (by decide) ms boot_isinstance rfl ?_)
    refine PyProof.Rows.callWith_builtin1 ?_ (by rfl) (by rfl)
    refine Calls.spliced_cons (va k2 ?_)
    refine Calls.spliced_cons (bi k2 (by decide) (by decide) mb boot_bool rfl (Calls.spliced_nil ?_))
    refine isi (b := false) k2 (kit_ty (by decide +kernel)) fun s3 k3 => ?_
    refine not_of (wpAny_truthy_bool ?_)
    refine wpAny_truthy_bool ?_
    show wpAny _ _ (eval (.BoolOp .And _ _) _) _ _ _
    refine BoolOp_one ?_
    refine wpAny_Compare1 (va k3 ?_) (by rfl)
    refine wpAny_Constant_int ?_
    refine PyProof.Rows.ge_int ?_
    refine ⟨rfl, keeps_tr ks (keeps_tr k3 (GxR.keeps_tok _ _))⟩
  · exact absurd rfl z
/-- is_number(one) as a generator's test -/
theorem el_num {X : Cx} (F : FnP X.K "is_number" "is_number" s_is_number f fd) (gm : X.mg "is_number" = some (.ref f)) (mi : X.mg "int" = none) (mb : X.mg "bool" = none) (ms : X.mg "isinstance" = none) {k : Nat} (hr : Room k X.A)
    {scope : Scope} {p0 p1 p2 : Pos} (hk : scope.kind = .function) (h1 : scope.names.lookup ("one" : Str) = some .local) (h2 : scope.names.lookup ("is_number" : Str) = some .globalImplicit) :
    ElOk X scope "one" (.Call (.Name "is_number" p0) [.Name "one" p1] [] p2) (fun v => ∃ i, v = .int i) isNum := by
  intro cenv A' E' v u s₂ I r hv
  obtain ⟨i, rfl⟩ := hv
  obtain ⟨t, rfl⟩ := r
  obtain ⟨m₂, hn, hm⟩ := I.loc
  have KX := I.md.kin.keeps I.base
  refine wpAny_Call_Name_kw (Calls.Name_function_global (by rw [I.scope]; exact hk) (show cenv.scope.names.lookup ("is_number" : Str) = some .globalImplicit by rw [I.scope]; exact h2) (Calls.loadGlobal_global (by rw [I.glob]; exact I.md.glob.keeps I.base) gm ?_))
  refine PySem.W.callWith_K (h₀ := X.base) I.md.kin F.kp ?_ (by rfl) (by rfl)
  refine Calls.spliced_cons (wpAny_Name (wpAny_loadName_local (m := m₂) (by rw [I.scope]; exact hk) (show cenv.scope.names.lookup ("one" : Str) = some .local by rw [I.scope]; exact h1) hn hm (Calls.spliced_nil ⟨KX, ?_⟩)) (by decide))
  obtain ⟨bm, hb, hbq⟩ := I.md.blt
  refine num_raw F mi mb ms KX (I.md.nolimit.keeps I.base) (I.md.glob.keeps I.base) ⟨bm, hb.keeps I.base, hbq⟩ ?_
  have := I.dp
  have := hr.dp
  omega
theorem gs_of {env : Env} {scope : Scope} {x : Str} (k : scope.kind = .function) (co : scope.isCoroutine = false) (cell : ∀ y ∈ scope.names, y.2 ≠ .cell) (dot : scope.names.lookup (".0" : Str) = some NameKind.local) (loc : scope.names.lookup x = some .local) (free : ∀ y ∈ scope.names, y.2 ≠ .free) : GxR.GenS env scope x :=
  ⟨k, co, cell, dot, loc, fun y hy e => absurd e (free y hy)⟩
/-! ### promises -/
def spNum : Sp := fun vs H Q _ => ∃ i : Int, vs = [.int i] ∧ Q (.bl (decide (0 ≤ i))) H
def spKey (P : Addr) : Sp := fun vs H Q _ => ∃ k : Str, vs = [.str k] ∧ KeyOk k ∧ GxR.TabG H P ∧ ∀ H', Ext [] H H' → Q (.bl true) H'
def spRow (P : Addr) : Sp := fun vs H Q _ => ∃ v r, vs = [v] ∧ RowAt H v r ∧ RowOk r ∧ GxR.TabG H P ∧ ∀ H', Ext [] H H' → Q (.bl true) H'
def spIsLk (P : Addr) : Sp := fun vs H Q _ => ∃ v l, vs = [v] ∧ LkAt H v l ∧ LkOk l ∧ GxR.TabG H P ∧ ∀ H', Ext [] H H' → Q (.bl true) H'
/-- the four tables: is_key's, is_row's, is_link's, is_entry's -/
structure Tbs where
  k : Addr
  r : Addr
  l : Addr
  e : Addr
def Tabs (T : Tbs) (H : Hp) : Prop := GxR.TabG H T.k ∧ GxR.TabG H T.r ∧ GxR.TabG H T.l ∧ GxR.TabG H T.e
theorem Tabs.ext {S : List Addr} {H H' : Hp} (e : Ext S H H') {T : Tbs} (h : Tabs T H) : Tabs T H' := ⟨e.tab _ h.1, e.tab _ h.2.1, e.tab _ h.2.2.1, e.tab _ h.2.2.2⟩
def spIsEn (T : Tbs) : Sp := fun vs H Q _ => ∃ v e, vs = [v] ∧ EnAt H v e ∧ EnOk e ∧ Tabs T H ∧ ∀ H', Ext [] H H' → Q (.bl true) H'
/-- a def whose code object stands at c -/
theorem okT {CX : CXT} {N ps : List Str} {k : Nat} {sp : Sp} {x qual : Str} {params : Arguments} {body : List Stmt} {scope : Scope} {dvs : List V} {kws : List (Str × V)} {c : Addr} (F : FunD K x qual params body scope dvs kws f fd) (hc : fd.code = .ref c) (S : FnScope N ps scope) (len : ∀ vs H Q E, sp vs H Q E → vs.length = ps.length)
    (hbody : ∀ (A : Around) (outer : List Env) (s : Shared) (H : Hp) (vs : List V) (Q : VK) (E : XK), Room k (A.deeper (envOfC qual scope s.heap.objs.size f (.ref c))) → sp vs H Q E →
      ∃ t, PSs (cxOf CX P w K mg base N qual scope f (.ref c) A outer s H E) body t ∧ t { nx := fun _ H' => Q .non H', rt := Q } (L2.start N vs) H) : FnOk P w K mg base CX (k + 1) f fd ps sp := by
  obtain ⟨oc, od, dV, kV, doc, pm, an, cdv, ct, osl, rfl, lk, hcd, _, _⟩ := F.ex
  obtain rfl : cdv = .ref c := hc
  exact fn_of lk hcd S len fun A outer s H vs Q E hr hsp => hbody A outer s H vs Q E hr hsp
abbrev ps_is_number : List Str := ["value"]
abbrev sl_is_number : List Str := ["value"]
theorem sc_is_number : FnScope ["value"] ["value"] (defScope s_is_number) := ⟨rfl, rfl, rfl, by decide +kernel, rfl, by decide +kernel, by decide +kernel⟩
theorem ok_is_number (F : FnP K "is_number" "is_number" s_is_number f fd) (T : Txt K mg A) : FnOk P w K mg base CX0 1 f fd ps_is_number spNum := by
  refine F.ok sc_is_number (fun vs H Q E h => ?_) (fun cdv A' outer s H vs Q E hr h => ?_)
  · obtain ⟨i, rfl, _⟩ := h
    rfl
  · obtain ⟨i, rfl, q⟩ := h
    refine ⟨_, PSs.nox (pss_one (ps_ret (pe_and (pe_callB call_isi (by rfl) T.isinstance (by decide +kernel) (pa_cons (pv 0) (pa_cons (pe_bltn (v := .ty "int") (by rfl) T.int (by decide +kernel) rfl) pa_nil))) (pe_and (pe_not (pe_callB call_isi (by rfl) T.isinstance (by decide +kernel) (pa_cons (pv 0) (pa_cons (pe_bltn (v := .ty "bool") (by rfl) T.bool (by decide +kernel) rfl) pa_nil)))) (pe_one (pe_cmpR op_ge (pv 0) pe_int (nomark _))))))), ?_⟩
    refine ⟨_, rfl, _, _, _, _, true, rfl, .ty _, .base (.int i), kit_ty (by decide +kernel), _, rfl, ?_⟩
    refine iteT ?_
    refine ⟨_, rfl, _, _, _, _, false, rfl, .ty _, .base (.int i), kit_ty (by decide +kernel), _, rfl, _, rfl, ?_⟩
    refine iteT ?_
    exact ⟨_, rfl, _, _, rfl, rfl, q⟩
abbrev s_is_key : Stmt := tp 4
theorem sc_is_key : FnScope ["key", "letter"] ["key"] (defScope s_is_key) := ⟨rfl, rfl, rfl, by decide +kernel, rfl, by decide +kernel, by decide +kernel⟩
abbrev ps_is_key : List Str := ["key"]
abbrev sl_is_key : List Str := ["key", "letter"]
theorem ok_is_key (F : FnP K "is_key" "is_key" s_is_key f fd) (T : Txt K mg A) {c Pt : Addr} (hc : fd.code = .ref c) (TB : GxR.TabB base mg c Pt) : FnOk P w K mg base CX0 1 f fd ps_is_key (spKey Pt) := by
  refine okT F hc sc_is_key (fun vs H Q E h => ?_) (fun A' outer s H vs Q E hr h => ?_)
  · obtain ⟨i, rfl, _⟩ := h
    rfl
  · obtain ⟨k, rfl, hk, ht, q⟩ := h
    refine ⟨_, PSs.nox (pss_one (ps_ret (pe_and (pe_chain op_le op_le pe_int (pe_callB call_len_str (by rfl) T.len PySem.boot_len (pa_cons (pv 0) pa_nil)) pe_int) (pe_one (pe_allV hr (by rfl) T.all (by decide +kernel) TB rfl (gs_of rfl rfl (by decide +kernel) rfl rfl (by decide +kernel)) (pv 0) (el_letter T.letters rfl rfl rfl) (fun v => rfl)))))), ?_⟩
    have h8 := hk.2.1
    have h1 := hk.1
    refine ⟨_, rfl, _, rfl, smallS (Nat.le_trans h8 (by decide)), _, _, rfl, rfl, _, rfl, ?_⟩
    rw [decide_eq_true (show (1 : Int) ≤ (k.length : Int) by omega)]
    refine iteT ⟨_, _, rfl, rfl, _, rfl, ?_⟩
    rw [decide_eq_true (show (k.length : Int) ≤ 8 by omega)]
    refine iteT ⟨_, rfl, k.cps.toList.map fun c => V.str ⟨#[c]⟩, .inl ⟨k, rfl, rfl⟩, fun y hy => ?_, ht, fun H2 h2 => ?_⟩
    · obtain ⟨c, _, rfl⟩ := List.mem_map.mp hy
      exact ⟨c, rfl⟩
    · have e : (k.cps.toList.map fun c => V.str ⟨#[c]⟩).all (fun v => decide (sgn v ∈ lettersS.cps.toList)) = true := by
        rw [List.all_map, List.all_eq_true]
        intro c hc
        exact decide_eq_true (hk.2.2 c hc)
      rw [e]
      exact q _ (Ext.tabbed ht h2)
abbrev s_is_row : Stmt := tp 5
theorem sc_is_row : FnScope ["row", "number"] ["row"] (defScope s_is_row) := ⟨rfl, rfl, rfl, by decide +kernel, rfl, by decide +kernel, by decide +kernel⟩
abbrev ps_is_row : List Str := ["row"]
abbrev sl_is_row : List Str := ["row", "number"]
theorem ok_is_row (F : FnP K "is_row" "is_row" s_is_row f fd) (T : Txt K mg A) {c Pt : Addr} (hc : fd.code = .ref c) (TB : GxR.TabB base mg c Pt) : FnOk P w K mg base CX0 1 f fd ps_is_row (spRow Pt) := by
  refine okT F hc sc_is_row (fun vs H Q E h => ?_) (fun A' outer s H vs Q E hr h => ?_)
  · obtain ⟨v, r, rfl, _⟩ := h
    rfl
  · obtain ⟨v, r, rfl, ⟨a, rfl, ha⟩, hk, ht, q⟩ := h
    refine ⟨_, PSs.nox (pss_one (ps_ret (pe_and (pe_chain op_le op_le pe_int (pe_callB call_len_seq (by rfl) T.len PySem.boot_len (pa_cons (pv 0) pa_nil)) (pe_gi T.columns)) (pe_one (pe_allV hr (by rfl) T.all (by decide +kernel) TB rfl (gs_of rfl rfl (by decide +kernel) rfl rfl (by decide +kernel)) (pv 0) (el_cell T.most rfl rfl rfl) (fun v => rfl)))))), ?_⟩
    have h8 := hk.2.1
    have h1 := hk.1
    refine ⟨_, rfl, a, _, rfl, .inr (SqT.of ha), _, _, rfl, rfl, _, rfl, ?_⟩
    rw [decide_eq_true (show (1 : Int) ≤ ((r.map V.int).length : Int) by rw [List.length_map]; omega)]
    refine iteT ⟨_, _, rfl, rfl, _, rfl, ?_⟩
    rw [decide_eq_true (show ((r.map V.int).length : Int) ≤ 3 by rw [List.length_map]; omega)]
    refine iteT ⟨_, rfl, r.map V.int, .inr ⟨a, rfl, ha⟩, fun y hy => ?_, ht, fun H2 h2 => ?_⟩
    · obtain ⟨c, _, rfl⟩ := List.mem_map.mp hy
      exact ⟨c, rfl⟩
    · have e : (r.map V.int).all isCell = true := by
        rw [List.all_map, List.all_eq_true]
        intro n hn
        have := hk.2.2 n hn
        show (decide (0 ≤ n) && decide (n ≤ 65535)) = true
        rw [decide_eq_true this.1, decide_eq_true this.2]
        rfl
      rw [e]
      exact q _ (Ext.tabbed ht h2)
abbrev s_is_link : Stmt := tp 26
theorem sc_is_link : FnScope ["link", "number", "count", "sums", "one"] ["link"] (defScope s_is_link) := ⟨rfl, rfl, rfl, by decide +kernel, rfl, by decide +kernel, by decide +kernel⟩
abbrev ps_is_link : List Str := ["link"]
abbrev sl_is_link : List Str := ["link", "number", "count", "sums", "one"]
theorem ok_is_link {fN : Addr} {fdN : FuncData} (F : FnP K "is_link" "is_link" s_is_link f fd) (T : Txt K mg A) {c Pt : Addr} (hc : fd.code = .ref c) (TB : GxR.TabB base mg c Pt)
    (FN : FnP K "is_number" "is_number" s_is_number fN fdN) (gN : mg "is_number" = some (.ref fN)) (O_is_number : OkF P w K mg base CX0 1 "is_number" ps_is_number spNum) : FnOk P w K mg base CX0 2 f fd ps_is_link (spIsLk Pt) := by
  refine okT F hc sc_is_link (fun vs H Q E h => ?_) (fun A' outer s H vs Q E hr h => ?_)
  · obtain ⟨v, l, rfl, _⟩ := h
    rfl
  · obtain ⟨v, l, rfl, ⟨a, b, rfl, ha, hb⟩, hk, ht, q⟩ := h
    refine ⟨_, PSs.nox (pss_cons (ps_if (PW.pt (pw_or (pt_not (pt_val (pe_callB call_isi (by rfl) T.isinstance (by decide +kernel) (pa_cons (pv 0) (pa_cons (pe_bltn (v := .ty "tuple") (by rfl) T.tuple (by decide +kernel) rfl) pa_nil))))) (pw_or1 (pt_cmpR op_ne (pe_callB call_len (by rfl) T.len PySem.boot_len (pa_cons (pv 0) pa_nil)) pe_int (nomark _)))))
          (pss_one (ps_ret pe_bl))
          (pss_nil))
        (pss_cons (ps_asg (pv 0) (pg_tup (by rfl) (pgs_cons (pg_name (i := 1) sc_is_link.nd rfl (Or.inl rfl)) (pgs_cons (pg_name (i := 2) sc_is_link.nd rfl (Or.inl rfl)) (pgs_cons (pg_name (i := 3) sc_is_link.nd rfl (Or.inl rfl)) pgs_nil)))))
        (pss_cons (ps_if (PW.pt (pw_or (pt_not (pt_val (pe_f O_is_number (hr.mono (by decide)) pass0 (pa_cons (pv 1) pa_nil)))) (pw_or (pt_not (pt_val (pe_f O_is_number (hr.mono (by decide)) pass0 (pa_cons (pv 2) pa_nil)))) (pw_or (pt_not (pt_val (pe_callB call_isi (by rfl) T.isinstance (by decide +kernel) (pa_cons (pv 3) (pa_cons (pe_bltn (v := .ty "tuple") (by rfl) T.tuple (by decide +kernel) rfl) pa_nil))))) (pw_or1 (pt_cmpR op_ne (pe_callB call_len (by rfl) T.len PySem.boot_len (pa_cons (pv 3) pa_nil)) (pe_gi T.columns) (nomark _)))))))
          (pss_one (ps_ret pe_bl))
          (pss_nil))
        (pss_one (ps_ret (pe_allV hr (by rfl) T.all (by decide +kernel) TB rfl (gs_of rfl rfl (by decide +kernel) rfl rfl (by decide +kernel)) (pv 3) (el_num FN gN T.int T.bool T.isinstance hr rfl rfl rfl) (fun v => rfl))))))), ?_⟩
    obtain ⟨k1, k2, k3, k4, k5⟩ := hk
    refine ⟨_, rfl, _, _, _, _, true, rfl, .ty _, .base (.tup ha), kit_ty (by decide +kernel), _, rfl, ?_⟩
    refine iteF ⟨_, rfl, _, _, rfl, .inr ⟨_, SqT.of ha, rfl⟩, rfl, _, rfl, ?_⟩
    refine iteF ?_
    refine ⟨_, rfl, a, _, rfl, SqT.of ha, rfl, _, _, rfl, _, _, rfl, _, _, rfl, rfl, ?_⟩
    refine ⟨_, rfl, _, rfl, _, rfl, ?_⟩
    rw [decide_eq_true k1]
    refine iteF ⟨_, rfl, _, rfl, _, rfl, ?_⟩
    rw [decide_eq_true k2]
    refine iteF ⟨_, rfl, _, _, _, _, true, rfl, .ty _, .base (.tup hb), kit_ty (by decide +kernel), _, rfl, ?_⟩
    refine iteF ⟨_, rfl, _, _, rfl, .inr ⟨_, SqT.of hb, rfl⟩, rfl, _, rfl, ?_⟩
    refine iteF ?_
    refine ⟨_, rfl, [.int l.s0, .int l.s1, .int l.s2], .inr ⟨b, rfl, hb⟩, fun y hy => ?_, ht, fun H2 h2 => ?_⟩
    · simp only [List.mem_cons, List.not_mem_nil, or_false] at hy
      rcases hy with rfl | rfl | rfl <;> exact ⟨_, rfl⟩
    · have e : [V.int l.s0, .int l.s1, .int l.s2].all isNum = true := by
        show (decide (0 ≤ l.s0) && (decide (0 ≤ l.s1) && (decide (0 ≤ l.s2) && true))) = true
        rw [decide_eq_true k3, decide_eq_true k4, decide_eq_true k5]
        rfl
      rw [e]
      exact q _ (Ext.tabbed ht h2)
abbrev s_is_entry : Stmt := tp 28
theorem sc_is_entry : FnScope ["entry", "key", "row", "left", "right", "one"] ["entry"] (defScope s_is_entry) := ⟨rfl, rfl, rfl, by decide +kernel, rfl, by decide +kernel, by decide +kernel⟩
abbrev ps_is_entry : List Str := ["entry"]
abbrev sl_is_entry : List Str := ["entry", "key", "row", "left", "right", "one"]
theorem ok_is_entry {fN : Addr} {fdN : FuncData} {B : Tbs} (F : FnP K "is_entry" "is_entry" s_is_entry f fd) (T : Txt K mg A) {c : Addr} (hc : fd.code = .ref c) (TB : GxR.TabB base mg c B.e)
    (FN : FnP K "is_number" "is_number" s_is_number fN fdN) (gN : mg "is_number" = some (.ref fN)) (O_is_key : OkF P w K mg base CX0 1 "is_key" ps_is_key (spKey B.k)) (O_is_row : OkF P w K mg base CX0 1 "is_row" ps_is_row (spRow B.r)) (O_is_link : OkF P w K mg base CX0 2 "is_link" ps_is_link (spIsLk B.l)) :
    FnOk P w K mg base CX0 3 f fd ps_is_entry (spIsEn B) := by
  refine okT F hc sc_is_entry (fun vs H Q E h => ?_) (fun A' outer s H vs Q E hr h => ?_)
  · obtain ⟨v, l, rfl, _⟩ := h
    rfl
  · obtain ⟨v, e, rfl, ⟨a, rv, lv, mv, rfl, ha, ⟨ra, rfl, hra⟩, hl, hm⟩, hk, ⟨t1, t2, t3, t4⟩, q⟩ := h
    refine ⟨_, PSs.nox (pss_cons (ps_if (PW.pt (pw_or (pt_not (pt_val (pe_callB call_isi (by rfl) T.isinstance (by decide +kernel) (pa_cons (pv 0) (pa_cons (pe_bltn (v := .ty "tuple") (by rfl) T.tuple (by decide +kernel) rfl) pa_nil))))) (pw_or1 (pt_cmpR op_ne (pe_callB call_len (by rfl) T.len PySem.boot_len (pa_cons (pv 0) pa_nil)) pe_int (nomark _)))))
          (pss_one (ps_ret pe_bl))
          (pss_nil))
        (pss_cons (ps_asg (pv 0) (pg_tup (by rfl) (pgs_cons (pg_name (i := 1) sc_is_entry.nd rfl (Or.inl rfl)) (pgs_cons (pg_name (i := 2) sc_is_entry.nd rfl (Or.inl rfl)) (pgs_cons (pg_name (i := 3) sc_is_entry.nd rfl (Or.inl rfl)) (pgs_cons (pg_name (i := 4) sc_is_entry.nd rfl (Or.inl rfl)) pgs_nil))))))
        (pss_cons (ps_if (PW.pt (pw_or (pt_not (pt_val (pe_callB call_isi (by rfl) T.isinstance (by decide +kernel) (pa_cons (pv 1) (pa_cons (pe_bltn (v := .ty "str") (by rfl) T.str (by decide +kernel) rfl) pa_nil))))) (pw_or (pt_not (pt_val (pe_callB call_isi (by rfl) T.isinstance (by decide +kernel) (pa_cons (pv 2) (pa_cons (pe_bltn (v := .ty "tuple") (by rfl) T.tuple (by decide +kernel) rfl) pa_nil))))) (pw_or1 (pt_not (pt_val (pe_allV hr (by rfl) T.all (by decide +kernel) TB rfl (gs_of rfl rfl (by decide +kernel) rfl rfl (by decide +kernel)) (pv 2) (el_num FN gN T.int T.bool T.isinstance hr rfl rfl rfl) (fun v => rfl))))))))
          (pss_one (ps_ret pe_bl))
          (pss_nil))
        (pss_one (ps_ret (pe_and (pe_f O_is_key (hr.mono (by decide)) pass0 (pa_cons (pv 1) pa_nil)) (pe_and (pe_f O_is_row (hr.mono (by decide)) pass0 (pa_cons (pv 2) pa_nil)) (pe_and (pe_f O_is_link (hr.mono (by decide)) pass0 (pa_cons (pv 3) pa_nil)) (pe_one (pe_f O_is_link (hr.mono (by decide)) pass0 (pa_cons (pv 4) pa_nil))))))))))), ?_⟩
    refine ⟨_, rfl, _, _, _, _, true, rfl, .ty _, .base (.tup ha), kit_ty (by decide +kernel), _, rfl, ?_⟩
    refine iteF ⟨_, rfl, _, _, rfl, .inr ⟨_, SqT.of ha, rfl⟩, rfl, _, rfl, ?_⟩
    refine iteF ?_
    refine ⟨_, rfl, a, _, rfl, SqT.of ha, rfl, _, _, rfl, _, _, rfl, _, _, rfl, _, _, rfl, rfl, ?_⟩
    refine ⟨_, rfl, _, _, _, _, true, rfl, .ty _, .base (.str e.key), kit_ty (by decide +kernel), _, rfl, ?_⟩
    refine iteF ⟨_, rfl, _, _, _, _, true, rfl, .ty _, .base (.tup hra), kit_ty (by decide +kernel), _, rfl, ?_⟩
    refine iteF ⟨_, rfl, e.row.map V.int, .inr ⟨ra, rfl, hra⟩, fun y hy => ?_, t4, fun H2 h2 => ?_⟩
    · obtain ⟨c, _, rfl⟩ := List.mem_map.mp hy
      exact ⟨c, rfl⟩
    · have e1 : (e.row.map V.int).all isNum = true := by
        rw [List.all_map, List.all_eq_true]
        intro n hn
        exact decide_eq_true (hk.row.2.2 n hn).1
      rw [e1]
      refine ⟨_, rfl, ?_⟩
      refine iteF ?_
      have x2 : Ext [] H H2 := Ext.tabbed t4 h2
      refine ⟨_, rfl, e.key, rfl, hk.key, x2.tab _ t1, fun H3 x3 => ⟨_, rfl, ?_⟩⟩
      refine iteT ?_
      refine ⟨_, rfl, .ref ra, e.row, rfl, ⟨ra, rfl, x3.tup (x2.tup hra)⟩, hk.row, x3.tab _ (x2.tab _ t2), fun H4 x4 => ⟨_, rfl, ?_⟩⟩
      refine iteT ?_
      have x5 := (x2.trans x3).trans x4
      refine ⟨_, rfl, lv, e.l, rfl, hl.ext x5, hk.l, x5.tab _ t3, fun H5 x6 => ⟨_, rfl, ?_⟩⟩
      refine iteT ?_
      have x7 := x5.trans x6
      exact ⟨_, rfl, mv, e.r, rfl, hm.ext x7, hk.r, x7.tab _ t3, fun H6 x8 => q _ (x7.trans x8)⟩
end
end RR
end
section
set_option Elab.async false
set_option linter.all false
set_option maxRecDepth 100000
set_option maxHeartbeats 4000000
/-! Sources: what opens a part. -/
namespace RR
open PySem PySem.Spec PyProof.Rows L2
/-! ### the exception -/
def OkR (P : Program) (w : World) (K : PySem.W.Frag) (mg : Str → Option Value) (base : Heap) (A : Ad) : Prop :=
  OexC K A.refd ∧ mg "Refused" = some (.ref A.refd) ∧ ∃ fI fd, PySem.W.findIn K (.ref A.refd) "__init__" = some (some (.ref fI)) ∧ PySem.W.typeIn K (.ref fI) = some (.type "function") ∧ Binds K fd ps_Refused___init__ [] ∧ FnOk P w K mg base CX0 1 fI fd ps_Refused___init__ (spRefI A.refd)
theorem passX {P : Program} {w : World} {K : PySem.W.Frag} {mg : Str → Option Value} {base : Heap} {N : List Str} {qual : Str} {scope : Scope} {f : Addr} {cdv : Value} {A : Around} {outer : List Env} {s : Shared} {H : Hp} {E : XK} :
    Passes (L2.CX P w) (cxOf (L2.CX P w) P w K mg base N qual scope f cdv A outer s H E) E := passes_call (W := fun cls d _ H => E cls d H) (takes_of rfl rfl rfl rfl) (fun _ _ _ _ h => h)
theorem passN {X : Cx} : Passes CX0 X (fun _ _ _ => False) := fun _ _ _ _ _ _ _ h => h.elim
theorem pmk_r {X : Cx} {A : Ad} {p pos : Pos} {e : Expr} {es : List Expr} {ta : TA} (O : OkR X.prog X.w X.K X.mg X.base A) (hr : Room 2 X.A) (ha : PA X (e :: es) ta) (hg : Gl X "Refused" := by rfl)
    (he : starEach (e :: es) X.env = (false, eval e X.env) :: starEach es X.env := by rfl) (hpl : (backTo pos (starEach es X.env)).any (·.1) = false := by rfl) :
    PMk X (.Call (.Name "Refused" p) (e :: es) [] pos) (tMkO A.refd (spRefI A.refd) [] ta) := by
  obtain ⟨T, hm, fI, fd, iC, tI, hb, F⟩ := O
  exact pmk_oex T iC tI F hr hb .nil passN hg hm ha (by decide) he hpl
/-- how an error lies behind -/
def RefE (A : Ad) (E : XK) (H : Hp) (W : List Addr) (w : Wd) (n : Nat) : Prop := ∀ (H' : Hp) d, Ext W H H' → H d = none → H' d = some (.xd (refX w n)) → E (.ref A.refd) (some d) H'
theorem ref_out {A : Ad} {W0 : WX} {σ : L2.St} {H : Hp} (w : Wd) {n : Nat} (hn : n < 100) (h : ∀ (H' : Hp) d, Ext [] H H' → H d = none → H' d = some (.xd (refX w n)) → W0 (.ref A.refd) (some d) σ H') :
    ([V.str (word w), V.int (n : Int)]).length ≤ 1000 ∧ ∀ a, H a = none → spRefI A.refd (.ref a :: ([V.str (word w), V.int (n : Int)] ++ [])) (upd H a (exo a A.refd none))
      (fun v H2 => v = .non ∧ ∃ (d : Addr) (fs : List (Str × V)), H2 a = some (exo a A.refd (some d)) ∧ H2 d = some (exd d fs) ∧ H d = none ∧ W0 (.ref A.refd) (some d) σ (upd (del H2 a) d (.xd fs))) (fun _ _ _ => False) := by
  refine ⟨(by show 2 ≤ 1000; decide), fun a ha => ⟨a, w, n, rfl, hn, upd_same, fun H' d hd hda h1 h2 h3 => ⟨rfl, d, _, h2, h3, (upd_dom hd).1, h _ d ?_ (upd_dom hd).1 upd_same⟩⟩⟩
  have hd0 := (upd_dom hd).1
  refine ⟨fun b o hb _ => ?_, fun P ⟨ps, e, t⟩ => ⟨ps, ?_, t⟩, fun b hb => ?_⟩
  · have h4 := ne_of_none hb ha
    have h5 := ne_of_none hb hd0
    rw [upd_ne h5, del_ne h4, h1 b h4 h5, upd_ne h4]
    exact hb
  · have h4 := ne_of_none e ha
    have h5 := ne_of_none e hd0
    rw [upd_ne h5, del_ne h4, h1 P h4 h5, upd_ne h4]
    exact e
  · by_cases q1 : b = a
    · rw [q1]; exact ha
    · obtain ⟨q2, q3⟩ := upd_dom hb
      rw [del_ne q1, h1 b q1 q3, upd_ne q1] at q2
      exact q2
/-! ### sources -/
structure Src (T : Th) where
  C : Addr
  s : Addr
  W : List Addr
  st : Hp → T.S → Prop
  lk : T.P → Lk
  tv : Hp → V → T.P → Prop
  cnt : ∀ p, T.cnt p = (lk p).c
  tv_ext : ∀ {S : List Addr} {H H' : Hp} {v : V} {p : T.P}, Ext S H H' → tv H v p → tv H' v p
  st_ext : ∀ {S : List Addr} {H H' : Hp} {x : T.S}, Ext S H H' → (∀ b ∈ W, b ∉ S) → st H x → st H' x
  st_ins : ∀ {H : Hp} {x : T.S}, st H x → ∃ dx fs, H s = some (.ins C dx fs) ∧ fs.lookup ("entry_of" : Str) = none ∧ fs.lookup ("opened" : Str) = none
  apart : ∀ {H : Hp} {x : T.S} {b : Addr}, st H x → b ∈ W → ∃ o, H b = some o ∧ ∀ C dx l t n, o ≠ .ins C dx (partF l t n)
  sz : T.S → Nat
  sz_opn : ∀ {x x' : T.S} {q a b : T.P} {k : Str} {r : List Int}, T.opn x q = .ok (x', k, r, a, b) → sz x' ≤ sz x + 1
section
variable {T : Th}
def PtAt (A : Ad) (R : Src T) (H : Hp) (p : Addr) (q : T.P) : Prop := ∃ dx lv tv, H p = some (.ins A.part dx (partF lv tv .non)) ∧ LkAt H lv (R.lk q) ∧ R.tv H tv q
theorem PtAt.ext {A : Ad} {R : Src T} {S : List Addr} {H H' : Hp} {p : Addr} {q : T.P} (e : Ext S H H') (hp : p ∉ S) : PtAt A R H p q → PtAt A R H' p q := fun ⟨dx, lv, tv, h1, h2, h3⟩ => ⟨dx, lv, tv, e.ins h1 hp, h2.ext e, R.tv_ext e h3⟩
theorem Src.out {A : Ad} {R : Src T} {H : Hp} {p : Addr} {q : T.P} {x : T.S} (hs : R.st H x) (hp : PtAt A R H p q) : p ∉ R.W := fun z => by
  obtain ⟨o, h1, h2⟩ := R.apart hs z
  obtain ⟨dx, lv, tv, h3, _⟩ := hp
  rw [h3] at h1
  exact h2 _ _ _ _ _ (Option.some.inj h1).symm
theorem Src.new {R : Src T} {H : Hp} {x : T.S} (hs : R.st H x) {b : Addr} (hb : H b = none) : b ∉ R.W := fun z => by
  obtain ⟨o, h1, _⟩ := R.apart hs z
  rw [hb] at h1
  cases h1
def spIsE (A : Ad) : Sp := fun vs H Q _ => ∃ p dx lv tv nv l, vs = [.ref p] ∧ H p = some (.ins A.part dx (partF lv tv nv)) ∧ LkAt H lv l ∧ Q (.bl (decide (l.c = 0))) H
def spEO (A : Ad) (R : Src T) : Sp := fun vs H Q E => ∃ p q x, vs = [.ref R.s, .ref p] ∧ R.st H x ∧ PtAt A R H p q ∧ T.cnt q ≠ 0 ∧ R.sz x < 16000000 ∧
  (∀ x' k r a b, T.opn x q = .ok (x', k, r, a, b) → ∀ (H' : Hp) t ev lv rv, Ext R.W H H' → R.st H' x' → H' t = some (.tup [ev, lv, rv]) → EnAt H' ev ⟨k, r, R.lk a, R.lk b⟩ → R.tv H' lv a → R.tv H' rv b → Q (.ref t) H') ∧
  (∀ w n, T.opn x q = .error (w, n) → RefE A E H R.W w n)
def spOp (A : Ad) (R : Src T) : Sp := fun vs H Q E => ∃ p q x, vs = [.ref R.s, .ref p] ∧ R.st H x ∧ PtAt A R H p q ∧ T.cnt q ≠ 0 ∧ R.sz x < 16000000 ∧
  (∀ x' k r a b, T.opn x q = .ok (x', k, r, a, b) → ∀ (H' : Hp) n dn rv pa pb, Ext (p :: R.W) H H' → R.st H' x' → H' n = some (.ins A.node dn (nodeF (.str k) rv (.ref pa) (.ref pb))) → RowAt H' rv r → PtAt A R H' pa a → PtAt A R H' pb b →
    H n = none → H pa = none → H pb = none → pa ≠ pb → n ≠ pa → n ≠ pb → Q (.ref n) H') ∧
  (∀ w n, T.opn x q = .error (w, n) → RefE A E H R.W w n)
end
section
variable {P : Program} {w : World} {K : PySem.W.Frag} {mg : Str → Option Value} {base : Heap} {A : Ad} {f : Addr} {fd : FuncData}
abbrev s_Part_is_empty : Stmt := inClass (tp 24) 1
theorem sc_Part_is_empty : FnScope ["self"] ["self"] (defScope s_Part_is_empty) := ⟨rfl, rfl, rfl, by decide +kernel, rfl, by decide +kernel, by decide +kernel⟩
abbrev ps_Part_is_empty : List Str := ["self"]
abbrev sl_Part_is_empty : List Str := ["self"]
theorem ok_Part_is_empty (F : FnP K "is_empty" "Part.is_empty" s_Part_is_empty f fd) (T : Txt K mg A) : FnOk P w K mg base CX0 1 f fd ps_Part_is_empty (spIsE A) := by
  refine F.ok sc_Part_is_empty (fun vs H Q E h => ?_) (fun cdv A' outer s H vs Q E hr h => ?_)
  · obtain ⟨p, dx, lv, tv, nv, l, rfl, _⟩ := h
    rfl
  · obtain ⟨p, dx, lv, tv, nv, l, rfl, hp, ⟨a, b, rfl, ha, hb⟩, q⟩ := h
    refine ⟨_, PSs.nox (pss_one (ps_ret (pe_cmpR op_eq (pe_ix ix_tup (pe_fld (pv 0) rfl) pe_int (fun _ _ => rfl)) pe_int (nomark _)))), ?_⟩
    refine ⟨_, rfl, p, A.part, dx, _, _, rfl, hp, T.part, T.pL, partF_link, a, _, _, _, rfl, rfl, SqT.of ha, rfl, rfl, ?_⟩
    have e : decide (V.int l.c = V.int 0) = decide (l.c = 0) := decide_eq_decide.mpr ⟨V.int.inj, fun z => by rw [z]⟩
    show Q (.bl (decide (V.int l.c = V.int 0))) H
    rw [e]
    exact q
abbrev s_Source_opened : Stmt := inClass (tp 29) 2
theorem sc_Source_opened : FnScope ["self", "part", "entry", "left", "right", "key", "row", "one", "two"] ["self", "part"] (defScope s_Source_opened) := ⟨rfl, rfl, rfl, by decide +kernel, rfl, by decide +kernel, by decide +kernel⟩
abbrev ps_Source_opened : List Str := ["self", "part"]
abbrev sl_Source_opened : List Str := ["self", "part", "entry", "left", "right", "key", "row", "one", "two"]
theorem ok_opened {Th0 : Th} (R : Src Th0) (F : FnP K "opened" "Source.opened" s_Source_opened f fd) (T : Txt K mg A) (hC : Cls K R.C) (M_Source_entry_of : OkM P w K mg base (L2.CX P w) 10 R.C "entry_of" ["self", "part"] (spEO A R))
    (I_Part : OkI P w K mg base CX0 1 "Part" A.part ps_Part___init__ (spPartI A.part)) (I_Node : OkI P w K mg base CX0 1 "Node" A.node ps_Node___init__ (spNodeI A.node)) : FnOk P w K mg base (L2.CX P w) 11 f fd ps_Source_opened (spOp A R) := by
  refine F.ok sc_Source_opened (fun vs H Q E h => ?_) (fun cdv A' outer s H vs Q E hr h => ?_)
  · obtain ⟨p, q, x, rfl, _⟩ := h
    rfl
  · obtain ⟨p, q, x, rfl, hst, hp, hc, hz, kO, kE⟩ := h
    refine ⟨_, (pss_cons (ps_if (pt_cmpR op_isN (pe_fld (pv 1) rfl) pe_non (nomark _))
          (pss_cons (ps_asg (pe_m hC M_Source_entry_of (hr.mono (by decide)) passX (pv 0) (pa_cons (pv 1) pa_nil)) (pg_tup (by rfl) (pgs_cons (pg_name (i := 2) sc_Source_opened.nd rfl (Or.inl rfl)) (pgs_cons (pg_name (i := 3) sc_Source_opened.nd rfl (Or.inl rfl)) (pgs_cons (pg_name (i := 4) sc_Source_opened.nd rfl (Or.inl rfl)) pgs_nil)))))
          (pss_cons (ps_asg (pv 2) (pg_tup (by rfl) (pgs_cons (pg_name (i := 5) sc_Source_opened.nd rfl (Or.inl rfl)) (pgs_cons (pg_name (i := 6) sc_Source_opened.nd rfl (Or.inl rfl)) (pgs_cons (pg_name (i := 7) sc_Source_opened.nd rfl (Or.inl rfl)) (pgs_cons (pg_name (i := 8) sc_Source_opened.nd rfl (Or.inl rfl)) pgs_nil))))))
          (pss_one (ps_fld (pv 1) (pe_c I_Node (hr.mono (by decide)) pass0 (pa_cons (pv 5) (pa_cons (pv 6) (pa_cons (pe_c I_Part (hr.mono (by decide)) pass0 (pa_cons (pv 7) (pa_cons (pv 3) (pa_cons pe_non pa_nil)))) (pa_cons (pe_c I_Part (hr.mono (by decide)) pass0 (pa_cons (pv 8) (pa_cons (pv 4) (pa_cons pe_non pa_nil)))) pa_nil))))) rfl))))
          (pss_nil))
        (pss_one (ps_ret (pe_fld (pv 1) rfl)))), ?_⟩
    obtain ⟨dx, lv, tv, hp1, hp2, hp3⟩ := id hp
    refine ⟨_, rfl, p, A.part, dx, _, _, rfl, hp1, T.part, T.pN, partF_node, rfl, _, rfl, ?_⟩
    refine iteT ?_
    obtain ⟨ds, fs, hs1, hs2, hs3⟩ := R.st_ins hst
    refine ⟨_, rfl, R.s, ds, fs, rfl, hs1, hs2, _, rfl, p, q, x, rfl, hst, hp, hc, hz, fun x' kk r a b ho H1 t ev av bv e1 st1 ht hev ha hb => ?_, kE⟩
    obtain ⟨ea, rv, lv1, lv2, rfl, he1, hrow, hl1, hl2⟩ := hev
    refine ⟨t, _, rfl, SqT.of ht, rfl, _, _, rfl, _, _, rfl, _, _, rfl, rfl, ?_⟩
    refine ⟨_, rfl, ea, _, rfl, SqT.of he1, rfl, _, _, rfl, _, _, rfl, _, _, rfl, _, _, rfl, rfl, ?_⟩
    refine ⟨_, rfl, _, rfl, _, rfl, _, rfl, ?_⟩
    intro pa da hpa hda nea
    refine ⟨pa, da, _, _, _, rfl, upd_same, fun H2 h2 => ⟨rfl, ?_⟩⟩
    have e2 : Ext [] H1 H2 := Ext.made hpa hda nea h2
    refine ⟨_, rfl, _, rfl, ?_⟩
    intro pb db hpb hdb neb
    refine ⟨pb, db, _, _, _, rfl, upd_same, fun H3 h3 => ⟨rfl, ?_⟩⟩
    have e3 : Ext [] H2 H3 := Ext.made hpb hdb neb h3
    intro n dn hn hdn nen
    refine ⟨n, dn, _, _, _, _, rfl, upd_same, fun H4 h4 => ⟨rfl, ?_⟩⟩
    have e4 : Ext [] H3 H4 := Ext.made hn hdn nen h4
    have hpW : p ∉ R.W := Src.out hst hp
    have e14 := ((e1.trans e2.of).trans e3.of).trans e4.of
    have hp4 := e14.ins hp1 hpW
    refine ⟨_, rfl, p, A.part, dx, _, rfl, hp4, T.part, T.pN, fewK (few (few (few few0))) (by decide), ?_⟩
    rw [partF_put]
    have hwr : Ext (p :: R.W) H4 (upd H4 p (.ins A.part dx (partF lv tv (.ref n)))) := Ext.wr hp4 List.mem_cons_self partF_imm (fun _ z => nomatch z)
    have e5 : Ext (p :: R.W) H (upd H4 p (.ins A.part dx (partF lv tv (.ref n)))) := (e14.mono fun b hb => List.mem_cons_of_mem _ hb).trans hwr
    refine ⟨_, rfl, p, A.part, dx, _, _, rfl, upd_same, T.part, T.pN, partF_node, ?_⟩
    have hn3 : H3 n = none := hn
    have hpa1 : H1 pa = none := hpa
    have hpb2 : H2 pb = none := hpb
    have hpaH := e1.dom _ hpa1
    have hpbH := e1.dom _ (e2.dom _ hpb2)
    have hnH := e1.dom _ (e2.dom _ (e3.dom _ hn3))
    have hpn : p ≠ n := ne_of_none hp1 hnH
    have hpp : p ≠ pa := ne_of_none hp1 hpaH
    have hpq : p ≠ pb := ne_of_none hp1 hpbH
    have hab : pa ≠ pb := ne_of_none h2.2 hpb2
    have hna : n ≠ pa := none_ne hn3 (e3.ins h2.2 (by simp))
    have hnb : n ≠ pb := none_ne hn3 h3.2
    have e24 := (e2.trans e3).trans e4
    have hW : ∀ {H' : Hp}, Ext [] H1 H' → R.st H' x' := fun e => R.st_ext (S := []) e (fun _ _ z => nomatch z) st1
    have st4 : R.st H4 x' := hW e24
    have hwp : Ext [p] H4 (upd H4 p (.ins A.part dx (partF lv tv (.ref n)))) := Ext.wr hp4 List.mem_cons_self partF_imm (fun _ z => nomatch z)
    have st5 := R.st_ext hwp (fun b hb z => hpW (by rw [← List.mem_singleton.mp z]; exact hb)) st4
    have pa4 : PtAt A R H4 pa a := ⟨da, lv1, av, (e3.trans e4).ins h2.2 (by simp), hl1.ext e24, R.tv_ext e24 ha⟩
    have pb4 : PtAt A R H4 pb b := ⟨db, lv2, bv, e4.ins h3.2 (by simp), hl2.ext e24, R.tv_ext e24 hb⟩
    refine kO x' kk r a b ho _ n dn rv pa pb e5 st5 (by rw [upd_ne hpn.symm]; exact h4.2) ((hrow.ext e24).ext hwp) (pa4.ext hwp (by simp; exact fun z => hpp z.symm)) (pb4.ext hwp (by simp; exact fun z => hpq z.symm)) hnH hpaH hpbH hab hna hnb
/-! ### a known tree -/
/-- a source of the class Known at s, its entries at ea -/
def KnSt (A : Ad) (u : Ru) (s ea : Addr) (H : Hp) (es : List En) : Prop := ∃ dx rv, H s = some (.ins A.known dx (knowF rv (.ref ea))) ∧ LsAt EnAt H ea es
theorem know_part {C dx C' dx' : Addr} {r e l t n : V} : HO.ins C dx (knowF r e) ≠ .ins C' dx' (partF l t n) := fun z => by
  have z1 : knowF r e = partF l t n := by injection z
  have z2 : (knowF r e).lookup ("node" : Str) = some n := by rw [z1]; exact partF_node
  have z3 : (knowF r e).lookup ("node" : Str) = none := by kernel_rfl
  rw [z3] at z2
  cases z2
theorem giv_part {C dx C' dx' : Addr} {r c p l t n : V} : HO.ins C dx (givF r c p) ≠ .ins C' dx' (partF l t n) := fun z => by
  have z1 : givF r c p = partF l t n := by injection z
  have z2 : (givF r c p).lookup ("node" : Str) = some n := by rw [z1]; exact partF_node
  have z3 : (givF r c p).lookup ("node" : Str) = none := by kernel_rfl
  rw [z3] at z2
  cases z2
def srcK (A : Ad) (u : Ru) (s ea : Addr) : Src (Kn u) where
  C := A.known
  s := s
  W := [s, ea]
  st := fun H es => KnSt A u s ea H es
  lk := fun t => Tr.lk u t
  tv := fun H v t => TrAt A.tree H u v t
  cnt := fun p => rfl
  tv_ext := fun e h => h.ext e
  st_ext := fun e h ⟨dx, rv, h1, h2⟩ => ⟨dx, rv, e.ins h1 (h _ List.mem_cons_self), h2.en e (h _ (List.mem_cons_of_mem _ List.mem_cons_self))⟩
  st_ins := fun ⟨dx, rv, h1, _⟩ => ⟨dx, _, h1, knowF_entry_of, knowF_opened⟩
  apart := fun {H x b} ⟨dx, rv, h1, vs, h2, _⟩ hb => by
    rcases List.mem_cons.mp hb with rfl | hb
    · exact ⟨_, h1, fun C d l t n => know_part⟩
    · rw [List.mem_singleton.mp hb]
      exact ⟨_, h2, fun C d l t n z => nomatch z⟩
  sz := fun es => List.length es
  sz_opn := fun {x x' q a b k r} h => by
    cases q with
    | leaf => cases h
    | node k' r' a' b' =>
      cases h
      rw [List.length_append]
      exact Nat.le_refl _
theorem know_imm {C dx : Addr} {r e : V} : ¬ Imm (.ins C dx (knowF r e)) := fun z => by
  have q : ((knowF r e).lookup ("entry" : Str)).isSome = false := by kernel_rfl
  have := z.1
  rw [q] at this
  cases this
abbrev s_Known_entry_of : Stmt := inClass (tp 30) 1
theorem sc_Known_entry_of : FnScope ["self", "part"] ["self", "part"] (defScope s_Known_entry_of) := ⟨rfl, rfl, rfl, by decide +kernel, rfl, by decide +kernel, by decide +kernel⟩
abbrev ps_Known_entry_of : List Str := ["self", "part"]
abbrev sl_Known_entry_of : List Str := ["self", "part"]
theorem ok_Known_entry_of (u : Ru) (s ea : Addr) (F : FnP K "entry_of" "Known.entry_of" s_Known_entry_of f fd) (T : Txt K mg A) : FnOk P w K mg base (L2.CX P w) 1 f fd ps_Known_entry_of (spEO A (srcK A u s ea)) := by
  refine F.ok sc_Known_entry_of (fun vs H Q E h => ?_) (fun cdv A' outer s0 H vs Q E hr h => ?_)
  · obtain ⟨p, q, x, rfl, _⟩ := h
    rfl
  · obtain ⟨p, q, x, rfl, ⟨ds, rv, hs1, es, hs2, hs3⟩, ⟨dx, lv, tv, hp1, hp2, hp3⟩, hc, hz, kO, kE⟩ := h
    refine ⟨_, PSs.nox (pss_cons (ps_expr (pe_bm PySem.F.plainAttrs_list PySem.F.slot_list_append PySem.F.type_list_append mt_append (pe_fld (pv 0) rfl) (pa_cons (pe_fld (pe_fld (pv 1) rfl) rfl) pa_nil)))
        (pss_one (ps_ret (pe_tup (pa_cons (pe_fld (pe_fld (pv 1) rfl) rfl) (pa_cons (pe_fld (pe_fld (pv 1) rfl) rfl) (pa_cons (pe_fld (pe_fld (pv 1) rfl) rfl) pa_nil))))))), ?_⟩
    cases q with
    | leaf => exact absurd rfl hc
    | node k r a b =>
      obtain ⟨tp, td, tl, te, ta, tb, rfl, ht, hl, hen, ha, hb⟩ := hp3
      have hne : s ≠ ea := ne_of hs1 hs2 (fun z => nomatch z)
      refine ⟨_, rfl, s, A.known, ds, _, _, rfl, hs1, T.known, T.kE, knowF_entries, .inl ⟨rfl, _, SqL.of hs2⟩, _, rfl, p, A.part, dx, _, _, rfl, hp1, T.part, T.pT, partF_tree, tp, A.tree, td, _, _, rfl, ht, T.tree, T.tE, treeF_entry, ea, es, te, rfl, rfl, hs2, ?_, ?_⟩
      · rw [hs3.length]
        exact Nat.lt_of_lt_of_le hz (by decide)
      · have e1 : Ext (srcK A u s ea).W H (upd H ea (.lst (es ++ [te]))) := Ext.wrL hs2 (List.mem_cons_of_mem _ List.mem_cons_self)
        have hp4 := e1.ins hp1 (Src.out (A := A) (R := srcK A u s ea) (H := H) (x := x) ⟨ds, rv, hs1, es, hs2, hs3⟩ ⟨dx, lv, .ref tp, hp1, hp2, tp, td, tl, te, ta, tb, rfl, ht, hl, hen, ha, hb⟩)
        have ht4 := e1.keep _ _ ht (.inl tree_imm)
        refine ⟨_, rfl, p, A.part, dx, _, _, rfl, hp4, T.part, T.pT, partF_tree, tp, A.tree, td, _, _, rfl, ht4, T.tree, T.tE, treeF_entry, _, rfl, p, A.part, dx, _, _, rfl, hp4, T.part, T.pT, partF_tree, tp, A.tree, td, _, _, rfl, ht4, T.tree, T.tA, treeF_left, _, rfl, p, A.part, dx, _, _, rfl, hp4, T.part, T.pT, partF_tree, tp, A.tree, td, _, _, rfl, ht4, T.tree, T.tB, treeF_right, (by show 3 ≤ sizeLine; decide), fun t hnt => ?_⟩
        have e2 := e1.new2 (o := .tup [te, ta, tb]) hnt
        refine kO _ k r a b rfl _ t te ta tb e2 ⟨ds, rv, ?_, es ++ [te], ?_, ?_⟩ upd_same (hen.ext e2) (ha.ext e2) (hb.ext e2)
        · rw [upd_ne (none_ne hnt (by rw [upd_ne hne]; exact hs1)).symm, upd_ne hne]
          exact hs1
        · rw [upd_ne (none_ne hnt upd_same).symm, upd_same]
        · exact (hs3.imp fun _ _ => EnAt.ext e2).app (A2.one (hen.ext e2))
/-! ### given entries -/
def GvSt (A : Ad) (B : Tbs) (u : Ru) (cert : List En) (s ca : Addr) (H : Hp) (n : Nat) : Prop := ∃ dx rv, H s = some (.ins A.given dx (givF rv (.ref ca) (.int (n : Int)))) ∧ RuAt H rv u ∧ LsAt EnAt H ca cert ∧ n ≤ cert.length ∧ Tabs B H
def srcG (A : Ad) (B : Tbs) (u : Ru) (cert : List En) (s ca : Addr) : Src (Gv u cert) where
  C := A.given
  s := s
  W := [s, ca]
  st := fun H n => GvSt A B u cert s ca H n
  lk := fun l => l
  tv := fun H v t => True
  cnt := fun p => rfl
  tv_ext := fun e h => trivial
  st_ext := fun e h ⟨dx, rv, h1, h2, h3, h4, h5⟩ => ⟨dx, rv, e.ins h1 (h _ List.mem_cons_self), h2.ext e, h3.en e (h _ (List.mem_cons_of_mem _ List.mem_cons_self)), h4, h5.ext e⟩
  st_ins := fun ⟨dx, rv, h1, _⟩ => ⟨dx, _, h1, givF_entry_of, givF_opened⟩
  apart := fun {H x b} ⟨dx, rv, h1, _, ⟨vs, h2, _⟩, _⟩ hb => by
    rcases List.mem_cons.mp hb with rfl | hb
    · exact ⟨_, h1, fun C d l t n => giv_part⟩
    · rw [List.mem_singleton.mp hb]
      exact ⟨_, h2, fun C d l t n z => nomatch z⟩
  sz := fun _ => 0
  sz_opn := fun h => Nat.zero_le _
abbrev s_Given_entry_of : Stmt := inClass (tp 31) 1
theorem sc_Given_entry_of : FnScope ["self", "part", "number", "entry", "link"] ["self", "part"] (defScope s_Given_entry_of) := ⟨rfl, rfl, rfl, by decide +kernel, rfl, by decide +kernel, by decide +kernel⟩
abbrev ps_Given_entry_of : List Str := ["self", "part"]
abbrev sl_Given_entry_of : List Str := ["self", "part", "number", "entry", "link"]
theorem ok_Given_entry_of (B : Tbs) (u : Ru) (cert : List En) (hok : ∀ e ∈ cert, EnOk e) (h100 : cert.length < 100) (s ca : Addr) (F : FnP K "entry_of" "Given.entry_of" s_Given_entry_of f fd) (T : Txt K mg A) (O_R : OkR P w K mg base A)
    (O_is_entry : OkF P w K mg base CX0 3 "is_entry" ps_is_entry (spIsEn B)) (O_entry_link : OkF P w K mg base CX0 6 "entry_link" ps_entry_link spEnLk) : FnOk P w K mg base (L2.CX P w) 7 f fd ps_Given_entry_of (spEO A (srcG A B u cert s ca)) := by
  refine F.ok sc_Given_entry_of (fun vs H Q E h => ?_) (fun cdv A' outer s0 H vs Q E hr h => ?_)
  · obtain ⟨p, q, x, rfl, _⟩ := h
    rfl
  · obtain ⟨p, (q : Lk), (n : Nat), rfl, hst, hp, hc, hz, kO, kE⟩ := h
    obtain ⟨ds, rv, hs1, hru, ⟨es, hs2, hs3⟩, hn, htab⟩ := id hst
    obtain ⟨dx, lv, tv, hp1, (hp2 : LkAt H lv q), hp3⟩ := id hp
    have hpW : p ∉ [s, ca] := Src.out (A := A) (R := srcG A B u cert s ca) hst hp
    have hps : p ≠ s := fun z => hpW (by rw [z]; exact List.mem_cons_self)
    refine ⟨_, (pss_cons (ps_set (i := 2) sc_Given_entry_of.nd rfl (Or.inl rfl) (pe_fld (pv 0) rfl))
        (pss_cons (ps_if (pt_cmpR op_eq (pv 2) (pe_callB call_len_seq (by rfl) T.len PySem.boot_len (pa_cons (pe_fld (pv 0) rfl) pa_nil)) (nomark _))
          (pss_one (ps_raise rfl (takes_of rfl rfl rfl rfl) (pmk_r O_R (hr.mono (by decide)) (pa_cons pe_str (pa_cons (pv 2) pa_nil)))))
          (pss_nil))
        (pss_cons (ps_set (i := 3) sc_Given_entry_of.nd rfl (Or.inl rfl) (pe_ix ix_list (pe_fld (pv 0) rfl) (pv 2) (fun _ _ => rfl)))
        (pss_cons (ps_if (pt_not (pt_val (pe_f O_is_entry (hr.mono (by decide)) pass0 (pa_cons (pv 3) pa_nil))))
          (pss_one (ps_raise rfl (takes_of rfl rfl rfl rfl) (pmk_r O_R (hr.mono (by decide)) (pa_cons pe_str (pa_cons (pv 2) pa_nil)))))
          (pss_nil))
        (pss_cons (ps_set (i := 4) sc_Given_entry_of.nd rfl (Or.inl rfl) (pe_f O_entry_link (hr.mono (by decide)) pass0 (pa_cons (pe_fld (pv 0) rfl) (pa_cons (pv 3) pa_nil))))
        (pss_cons (ps_if (pt_cmpR op_ne (pe_ix ix_tup (pv 4) pe_int (fun _ _ => rfl)) (pe_ix ix_tup (pe_fld (pv 1) rfl) pe_int (fun _ _ => rfl)) (nomark _))
          (pss_one (ps_raise rfl (takes_of rfl rfl rfl rfl) (pmk_r O_R (hr.mono (by decide)) (pa_cons pe_str (pa_cons (pv 2) pa_nil)))))
          (pss_nil))
        (pss_cons (ps_if (pt_cmpR (op_neD hr.units) (pv 4) (pe_fld (pv 1) rfl) (nomark _))
          (pss_one (ps_raise rfl (takes_of rfl rfl rfl rfl) (pmk_r O_R (hr.mono (by decide)) (pa_cons pe_str (pa_cons (pv 2) pa_nil)))))
          (pss_nil))
        (pss_cons (ps_fld (pv 0) (pe_op op_add (pv 2) pe_int) rfl)
        (pss_one (ps_ret (pe_tup (pa_cons (pv 3) (pa_cons pe_non (pa_cons pe_non pa_nil)))))))))))))), ?_⟩
    refine ⟨_, rfl, s, A.given, ds, _, _, rfl, hs1, T.given, T.gP, givF_pos, ?_⟩
    refine ⟨_, rfl, _, rfl, s, A.given, ds, _, _, rfl, hs1, T.given, T.gC, givF_cert, ca, _, rfl, .inl (SqL.of hs2), rfl, _, rfl, iteD (fun c => ?_) fun c => ?_⟩
    · have c' : (n : Int) = (es.length : Int) := V.int.inj c
      have hlen := hs3.length
      have e0 : (Gv u cert).opn n q = .error (.short, n) := by
        have : cert[n]? = none := List.getElem?_eq_none (by omega)
        simp only [Gv, this]
      refine ⟨_, rfl, ?_⟩
      exact ref_out (A := A) (W0 := fun cls d _ H => E cls d H) (σ := []) .short (n := n) (by omega) fun H' d e1 hd h1 => kE .short n e0 H' d e1.of hd h1
    · have c' : ¬ (n : Int) = (es.length : Int) := fun z => c (congrArg V.int z)
      have hlen := hs3.length
      have hlt : n < cert.length := by omega
      obtain ⟨e, he⟩ : ∃ e, cert[n]? = some e := ⟨_, List.getElem?_eq_getElem hlt⟩
      obtain ⟨ev, hev, hen⟩ := hs3.get he
      have hoke := hok e (List.mem_of_getElem? he)
      refine ⟨_, rfl, s, A.given, ds, _, _, rfl, hs1, T.given, T.gC, givF_cert, _, rfl, ca, es, _, _, rfl, rfl, SqL.of hs2, atI_nat hev, ?_⟩
      refine ⟨_, rfl, ev, e, rfl, hen, hoke, htab, fun H1 e1 => ⟨_, rfl, ?_⟩⟩
      refine iteF ?_
      have hs4 := e1.ins hs1 (by simp)
      refine ⟨_, rfl, s, A.given, ds, _, _, rfl, hs4, T.given, T.gR, givF_rule, _, rfl, rv, ev, u, e, rfl, hru.ext e1, hen.ext e1, hoke, fun H2 mv e2 hm => ?_⟩
      have e3 := e1.trans e2
      obtain ⟨ma, mb, rfl, hma, hmb⟩ := id hm
      obtain ⟨la, lb, rfl, hla, hlb⟩ := id (hp2.ext e3)
      have hp4 := e3.ins hp1 (by simp)
      refine ⟨_, rfl, ma, _, _, _, rfl, rfl, SqT.of hma, rfl, _, rfl, p, A.part, dx, _, _, rfl, hp4, T.part, T.pL, partF_link, la, _, _, _, rfl, rfl, SqT.of hla, rfl, rfl, _, rfl, ?_⟩
      have hopn : (Gv u cert).opn n q = (if (mkLk u e).d ≠ q.d then .error (.digest, n) else if mkLk u e ≠ q then .error (.sums, n) else .ok (n + 1, e.key, e.row, e.l, e.r)) := by
        simp only [Gv, he]
      by_cases cd : (mkLk u e).d = q.d
      · rw [decide_eq_true (congrArg V.int cd)]
        refine iteF ?_
        refine ⟨_, rfl, _, rfl, p, A.part, dx, _, _, rfl, hp4, T.part, T.pL, partF_link, _, _, hm.dp, LkAt.dp (l := q) ⟨la, lb, rfl, hla, hlb⟩, dxL.shaped trivial, dxL.shaped trivial, _, rfl, ?_⟩
        rw [dxL.eqv]
        by_cases cs : mkLk u e = q
        · rw [decide_eq_true cs]
          refine iteF ?_
          have hs5 := e3.ins hs1 (by simp)
          refine ⟨_, rfl, _, _, rfl, rfl, _, rfl, s, A.given, ds, _, rfl, hs5, T.given, T.gP, fewK (few (few (few few0))) (by decide), ?_⟩
          rw [givF_put]
          refine ⟨_, rfl, (by show 3 ≤ sizeLine; decide), fun t ht => ?_⟩
          have hws : Ext [s] H2 (upd H2 s (.ins A.given ds (givF rv (.ref ca) (.int ((n : Int) + 1))))) := Ext.wr hs5 List.mem_cons_self givF_imm (fun _ z => nomatch z)
          have e4 : Ext [s] H (upd (upd H2 s (.ins A.given ds (givF rv (.ref ca) (.int ((n : Int) + 1))))) t (.tup [ev, .non, .non])) := ((e3.of.trans hws).new2 ht)
          have hne : ca ≠ s := ne_of hs2 hs1 (fun z => nomatch z)
          refine kO (n + 1) e.key e.row e.l e.r (by rw [hopn, if_neg (fun z => z cd), if_neg (fun z => z cs)]) _ t ev .non .non (e4.mono fun b hb => by rw [List.mem_singleton.mp hb]; exact List.mem_cons_self) ⟨ds, rv, ?_, hru.ext e4, ⟨es, e4.lst hs2 (by simpa using hne), hs3.imp fun _ _ => EnAt.ext e4⟩, hlt, htab.ext e4⟩ upd_same (hen.ext e4) trivial trivial
          rw [upd_ne (none_ne ht upd_same).symm, upd_same]
          rfl
        · rw [decide_eq_false cs]
          refine iteT ?_
          refine ⟨_, rfl, ?_⟩
          exact ref_out (A := A) (W0 := fun cls d _ H => E cls d H) (σ := []) .sums (n := n) (by omega) fun H' d e4 hd h1 => kE .sums n (by rw [hopn, if_neg (fun z => z cd), if_pos cs]) H' d (e3.trans e4).of (e3.dom _ hd) h1
      · rw [decide_eq_false (fun z => cd (V.int.inj z))]
        refine iteT ?_
        refine ⟨_, rfl, ?_⟩
        exact ref_out (A := A) (W0 := fun cls d _ H => E cls d H) (σ := []) .digest (n := n) (by omega) fun H' d e4 hd h1 => kE .digest n (by rw [hopn, if_pos cd]) H' d (e3.trans e4).of (e3.dom _ hd) h1
end
end RR
end
section
set_option Elab.async false
set_option linter.all false
set_option maxRecDepth 100000
set_option maxHeartbeats 4000000
/-! The walk. -/
namespace RR
open PySem PySem.Spec PyProof.Rows L2
theorem walk_sz {T : Th} (R : Src T) (key : Str) (most : Nat) : ∀ (n : Nat) (x : T.S) (q : T.P) (f : Tab) (x' : T.S) (f' : Tab), walk T key most n x q f = some (.ok (x', f')) → R.sz x' + 1 ≤ R.sz x + 2 ^ n := by
  intro n
  induction n with
  | zero => intro x q f x' f' h; cases h
  | succ n ih =>
    intro x q f x' f' h
    have h2 : 2 ^ (n + 1) = 2 ^ n + 2 ^ n := by rw [Nat.pow_succ]; omega
    have h3 : 0 < 2 ^ n := Nat.pow_pos (by decide)
    rw [walk_succ] at h
    split at h
    · cases h; omega
    · cases ho : T.opn x q with
      | error e => rw [ho] at h; cases h
      | ok v =>
        obtain ⟨s1, k, r, a, b⟩ := v
        rw [ho] at h
        have z1 := R.sz_opn ho
        simp only at h
        split at h
        · cases h1 : walk T key most n s1 a f with
          | none => rw [h1] at h; cases h
          | some v =>
            cases v with
            | error e => rw [h1] at h; cases h
            | ok v =>
              obtain ⟨s2, f2⟩ := v
              rw [h1] at h
              have z2 := ih _ _ _ _ _ h1
              have z3 := ih _ _ _ _ _ h
              omega
        · have z3 := ih _ _ _ _ _ h
          omega
def spAN {T : Th} (A : Ad) (R : Src T) (n : Nat) : Sp := fun vs H Q E => ∃ p q x key most f fs r, vs = [.ref R.s, .ref p, .str key, .int ((most : Nat) : Int), .ref f] ∧ R.st H x ∧ PtAt A R H p q ∧ LsAt PrAt H f fs ∧ f ∉ R.W ∧ fs.length ≤ most ∧ most ≤ 1000 ∧ R.sz x + 2 ^ n ≤ 16000000 ∧
  walk T key most n x q fs = some r ∧
  (∀ x' fs', r = .ok (x', fs') → ∀ H', Ext (p :: f :: R.W) H H' → R.st H' x' → LsAt PrAt H' f fs' → Q .non H') ∧ (∀ w m, r = .error (w, m) → RefE A E H (p :: f :: R.W) w m)
theorem RefE.mono {A : Ad} {E : XK} {H : Hp} {W W' : List Addr} {w : Wd} {n : Nat} (h : RefE A E H W' w n) (hw : ∀ b ∈ W, b ∈ W') : RefE A E H W w n := fun H' d e hd h1 => h H' d (e.mono hw) hd h1
theorem RefE.after {A : Ad} {E : XK} {H H1 : Hp} {W W' : List Addr} {w : Wd} {n : Nat} (h : RefE A E H W w n) (e : Ext W H H1) (hw : ∀ b ∈ W', b ∈ W ∨ H b = none) : RefE A E H1 W' w n :=
  fun H' d e2 hd h1 => h H' d (e.then e2 hw) (e.dom _ hd) h1
theorem OkM.mono {P : Program} {w : World} {K : PySem.W.Frag} {mg : Str → Option Value} {base : Heap} {CX : CXT} {j k : Nat} {C : Addr} {m : Str} {ps : List Str} {sp : Sp} (O : OkM P w K mg base CX j C m ps sp) (h : j ≤ k) : OkM P w K mg base CX k C m ps sp := by
  obtain ⟨f, fd, hm, b, F⟩ := O
  exact ⟨f, fd, hm, b, F.mono h⟩
theorem OkF.mono {P : Program} {w : World} {K : PySem.W.Frag} {mg : Str → Option Value} {base : Heap} {CX : CXT} {j k : Nat} {m : Str} {ps : List Str} {sp : Sp} (O : OkF P w K mg base CX j m ps sp) (h : j ≤ k) : OkF P w K mg base CX k m ps sp := by
  obtain ⟨f, fd, hm, b, c, F⟩ := O
  exact ⟨f, fd, hm, b, c, F.mono h⟩
theorem node_part {C dx C' dx' : Addr} {k r a b l t n : V} : HO.ins C dx (nodeF k r a b) ≠ .ins C' dx' (partF l t n) := fun z => by
  have z1 : nodeF k r a b = partF l t n := by injection z
  have z2 : (nodeF k r a b).lookup ("node" : Str) = some n := by rw [z1]; exact partF_node
  have z3 : (nodeF k r a b).lookup ("node" : Str) = none := by kernel_rfl
  rw [z3] at z2
  cases z2
section
variable {P : Program} {w : World} {K : PySem.W.Frag} {mg : Str → Option Value} {base : Heap} {A : Ad} {f : Addr} {fd : FuncData}
abbrev s_add_next : Stmt := tp 35
theorem sc_add_next : FnScope ["source", "part", "key", "count", "found", "node"] ["source", "part", "key", "count", "found"] (defScope s_add_next) := ⟨rfl, rfl, rfl, by decide +kernel, rfl, by decide +kernel, by decide +kernel⟩
abbrev ps_add_next : List Str := ["source", "part", "key", "count", "found"]
abbrev sl_add_next : List Str := ["source", "part", "key", "count", "found", "node"]
theorem ok_add_next {Th0 : Th} (R : Src Th0) (F : FnP K "add_next" "add_next" s_add_next f fd) (T : Txt K mg A) (g : mg "add_next" = some (.ref f)) (b : Binds K fd ps_add_next []) (hC : Cls K R.C) (M_Source_opened : OkM P w K mg base (L2.CX P w) 11 R.C "opened" ["self", "part"] (spOp A R))
    (M_Part_is_empty : OkM P w K mg base CX0 1 A.part "is_empty" ["self"] (spIsE A)) : ∀ n, FnOk P w K mg base (L2.CX P w) (11 + n) f fd ps_add_next (spAN A R n) := by
  intro n
  induction n with
  | zero => exact fn_false fun vs H Q E ⟨_, _, _, _, _, _, _, _, _, _, _, _, _, _, _, _, h, _⟩ => nomatch h
  | succ n ih =>
    have O_add_next : OkF P w K mg base (L2.CX P w) (11 + n) "add_next" ps_add_next (spAN A R n) := ⟨f, fd, g, F.kp, b, ih⟩
    refine F.ok sc_add_next (fun vs H Q E h => ?_) (fun cdv A' outer s H vs Q E hr h => ?_)
    · obtain ⟨p, q, x, key, most, f, fs, r, rfl, _⟩ := h
      rfl
    · obtain ⟨p, q, x, key, most, f, fs, r, rfl, hst, hp, hf, hfW, hfm, hm, hz, hw, kO, kE⟩ := h
      have hrS : ∀ {j : Nat}, j ≤ 11 → Room j _ := fun {j} h => hr.mono (Nat.le_trans h (Nat.le_add_right 11 n))
      refine ⟨_, (pss_cons (ps_if (PW.pt (pw_or (pt_val (pe_m0 T.part M_Part_is_empty (hrS (by decide)) pass0 (pv 1))) (pw_or1 (pt_cmpR op_ge (pe_callB call_len_seq (by rfl) T.len PySem.boot_len (pa_cons (pv 4) pa_nil)) (pv 3) (nomark _)))))
          (pss_one ps_retN)
          (pss_nil))
        (pss_cons (ps_set (i := 5) sc_add_next.nd rfl (Or.inl rfl) (pe_m hC M_Source_opened (hrS (by decide)) passX (pv 0) (pa_cons (pv 1) pa_nil)))
        (pss_cons (ps_if (pt_cmpR op_lt_str (pv 2) (pe_fld (pv 5) rfl) (nomark _))
          (pss_cons (ps_expr (pe_f O_add_next hr passX (pa_cons (pv 0) (pa_cons (pe_fld (pv 5) rfl) (pa_cons (pv 2) (pa_cons (pv 3) (pa_cons (pv 4) pa_nil)))))))
          (pss_one (ps_if (pt_cmpR op_lt (pe_callB call_len_seq (by rfl) T.len PySem.boot_len (pa_cons (pv 4) pa_nil)) (pv 3) (nomark _))
            (pss_one (ps_expr (pe_bm PySem.F.plainAttrs_list PySem.F.slot_list_append PySem.F.type_list_append mt_append (pv 4) (pa_cons (pe_tup (pa_cons (pe_fld (pv 5) rfl) (pa_cons (pe_fld (pv 5) rfl) pa_nil))) pa_nil))))
            (pss_nil))))
          (pss_nil))
        (pss_one (ps_expr (pe_f O_add_next hr passX (pa_cons (pv 0) (pa_cons (pe_fld (pv 5) rfl) (pa_cons (pv 2) (pa_cons (pv 3) (pa_cons (pv 4) pa_nil))))))))))), ?_⟩
      obtain ⟨dx, lv, tv, hp1, hp2, hp3⟩ := id hp
      obtain ⟨vs, hf1, hf2⟩ := id hf
      have hvl := hf2.length
      rw [walk_succ] at hw
      have hcn := R.cnt q
      have hpW := Src.out hst hp
      have hpf : p ≠ f := ne_of hp1 hf1 (fun z => nomatch z)
      refine ⟨_, rfl, p, dx, _, rfl, hp1, partF_is, p, dx, lv, tv, .non, _, rfl, hp1, hp2, _, rfl, iteD (fun c => ?_) fun c => ?_⟩
      · refine iteT ?_
        rw [if_pos (.inl (by rw [hcn]; exact c))] at hw
        exact kO x fs (Option.some.inj hw).symm H (Ext.refl _ _) hst hf
      · refine ⟨_, rfl, f, _, rfl, .inl (SqL.of hf1), _, rfl, _, _, rfl, rfl, _, rfl, iteD (fun c2 => ?_) fun c2 => ?_⟩
        · rw [if_pos (.inr (by omega))] at hw
          exact kO x fs (Option.some.inj hw).symm H (Ext.refl _ _) hst hf
        · rw [if_neg (fun z => z.elim (fun z => c (by rw [← hcn]; exact z)) fun z => c2 (by omega))] at hw
          obtain ⟨ds, ofs, hs1, hs2, hs3⟩ := R.st_ins hst
          refine ⟨_, rfl, R.s, ds, ofs, rfl, hs1, hs3, _, rfl, p, q, x, rfl, hst, hp, (by rw [hcn]; exact c), Nat.lt_of_lt_of_le (Nat.lt_add_of_pos_right (Nat.pow_pos (by decide))) hz, fun x1 k row a b ho H1 nd dn rv pa pb e1 st1 hn hrow ha hb nn npa npb hab hna hnb => ?_, fun w m ho => ?_⟩
          · rw [ho] at hw
            simp only at hw
            have z1 := R.sz_opn ho
            have h2 : 2 ^ (n + 1) = 2 ^ n + 2 ^ n := by rw [Nat.pow_succ]; omega
            have h3 : 0 < 2 ^ n := Nat.pow_pos (by decide)
            have hfn : f ≠ nd := ne_of_none hf1 nn
            have hfa : f ≠ pa := ne_of_none hf1 npa
            have hfb : f ≠ pb := ne_of_none hf1 npb
            have hf3 : LsAt PrAt H1 f fs := hf.pr e1 (by simp only [List.mem_cons, not_or]; exact ⟨hpf.symm, hfW⟩)
            have e1' : Ext (p :: f :: R.W) H H1 := e1.mono fun b hb => by
              rcases List.mem_cons.mp hb with z | z
              · rw [z]; exact List.mem_cons_self
              · exact List.mem_cons_of_mem _ (List.mem_cons_of_mem _ z)
            have nW := Src.new hst nn
            have aW := Src.new hst npa
            have bW := Src.new hst npb
            refine ⟨_, rfl, _, rfl, nd, A.node, dn, _, _, rfl, hn, T.node, T.nK, nodeF_key, _, _, rfl, rfl, _, rfl, iteD (fun ck => ?_) fun ck => ?_⟩
            · rw [if_pos (show kb key k from ck)] at hw
              obtain ⟨r1, hr1⟩ : ∃ r1, walk Th0 key most n x1 a fs = some r1 := by
                cases hq : walk Th0 key most n x1 a fs with
                | none => rw [hq] at hw; cases hw
                | some r1 => exact ⟨r1, rfl⟩
              rw [hr1] at hw
              refine ⟨_, rfl, _, rfl, nd, A.node, dn, _, _, rfl, hn, T.node, T.nA, nodeF_left, _, rfl, _, rfl, _, rfl, pa, a, x1, key, most, f, fs, r1, rfl, st1, ha, hf3, hfW, hfm, hm, by omega, hr1, fun x2 fs2 hx2 H2 e2 st2 hf4 => ?_, fun w m hx2 => ?_⟩
              · rw [hx2] at hw hr1
                simp only at hw
                have z2 := walk_sz R key most n _ _ _ _ _ hr1
                have hm2 := walk_most Th0 key most n _ _ _ _ _ hfm hr1
                have e3 : Ext (p :: f :: R.W) H H2 := e1'.then e2 fun b hb => by
                  rcases List.mem_cons.mp hb with z | z
                  · rw [z]; exact .inr npa
                  · exact .inl (List.mem_cons_of_mem _ z)
                have hS2 : ∀ {c : Addr}, c ≠ pa → c ≠ f → c ∉ R.W → c ∉ pa :: f :: R.W := fun h1 h2 h3 => by
                  simp only [List.mem_cons, not_or]
                  exact ⟨h1, h2, h3⟩
                have hn2 := e2.ins hn (hS2 hna hfn.symm nW)
                have hb2 := hb.ext e2 (hS2 hab.symm hfb.symm bW)
                have hrow2 := hrow.ext e2
                obtain ⟨vs2, hf5, hf6⟩ := id hf4
                have hvl2 := hf6.length
                -- what follows the left walk, at a heap H3
                have fin : ∀ H3 fs3, Ext (p :: f :: R.W) H H3 → R.st H3 x2 → H3 nd = some (.ins A.node dn (nodeF (.str k) rv (.ref pa) (.ref pb))) → PtAt A R H3 pb b → LsAt PrAt H3 f fs3 → fs3.length ≤ most → walk Th0 key most n x2 b fs3 = some r → ∀ σ : L2.St, σ[0]? = some (some (.ref R.s)) → σ[2]? = some (some (.str key)) → σ[3]? = some (some (.int ((most : Nat) : Int))) → σ[4]? = some (some (.ref f)) → σ[5]? = some (some (.ref nd)) →
                    (tDrop (tCl (spAN A R n) E (tCons (tVar 0) (tCons (tFld K (tVar 5) "right") (tCons (tVar 2) (tCons (tVar 3) (tCons (tVar 4) tNil))))))) { nx := fun _ H' => Q .non H', rt := Q } σ H3 := by
                  intro H3 fs3 e4 st3 hn3 hb3 hf7 hl3 hw3 σ s0 s2 s3 s4 s5
                  refine ⟨_, s0, _, s5, nd, A.node, dn, _, _, rfl, hn3, T.node, T.nB, nodeF_right, _, s2, _, s3, _, s4, pb, b, x2, key, most, f, fs3, r, rfl, st3, hb3, hf7, hfW, hl3, hm, by omega, hw3, fun x5 fs5 hx5 H5 e5 st5 hf8 => ?_, fun w m hx5 => ?_⟩
                  · refine kO x5 fs5 hx5 H5 (e4.then e5 fun b hb => ?_) st5 hf8
                    rcases List.mem_cons.mp hb with z | z
                    · rw [z]; exact .inr npb
                    · exact .inl (List.mem_cons_of_mem _ z)
                  · refine (kE w m hx5).after e4 fun b hb => ?_
                    rcases List.mem_cons.mp hb with z | z
                    · rw [z]; exact .inr npb
                    · exact .inl (List.mem_cons_of_mem _ z)
                refine ⟨_, rfl, f, _, rfl, .inl (SqL.of hf5), _, rfl, _, _, rfl, rfl, _, rfl, iteD (fun c3 => ?_) fun c3 => ?_⟩
                · rw [if_pos (show fs2.length < most by omega)] at hw
                  refine ⟨_, rfl, .inl ⟨rfl, _, SqL.of hf5⟩, _, rfl, nd, A.node, dn, _, _, rfl, hn2, T.node, T.nK, nodeF_key, _, rfl, nd, A.node, dn, _, _, rfl, hn2, T.node, T.nR, nodeF_row, (by show 2 ≤ sizeLine; decide), fun t ht => ?_⟩
                  have e6 : Ext [] H2 (upd H2 t (.tup [.str k, rv])) := Ext.new ht
                  have hf9 := e6.lst hf5 (by simp)
                  refine ⟨f, vs2, _, rfl, rfl, hf9, smallT (by omega), ?_⟩
                  have e7 : Ext [f] H2 (upd (upd H2 t (.tup [.str k, rv])) f (.lst (vs2 ++ [.ref t]))) := e6.of.trans (Ext.wrL hf9 List.mem_cons_self)
                  have hft : f ≠ t := ne_of_none hf5 ht
                  refine fin _ (fs2 ++ [(k, row)]) (e3.trans (e7.mono fun b hb => by rw [List.mem_singleton.mp hb]; exact List.mem_cons_of_mem _ List.mem_cons_self)) (R.st_ext e7 (fun b hb z => hfW (by rw [← List.mem_singleton.mp z]; exact hb)) st2) (e7.ins hn2 (by simpa using hfn.symm)) (hb2.ext e7 (by simpa using hfb.symm)) ⟨_, upd_same, (hf6.imp fun _ _ => PrAt.ext e7).app (A2.one ⟨t, rv, rfl, (by rw [upd_ne hft.symm, upd_same]), hrow2.ext e7⟩)⟩ (by rw [List.length_append, List.length_singleton]; omega) hw _ rfl rfl rfl rfl rfl
                · rw [if_neg (show ¬ fs2.length < most by omega)] at hw
                  exact fin _ fs2 e3 st2 hn2 hb2 hf4 hm2 hw _ rfl rfl rfl rfl rfl
              · rw [hx2] at hw
                refine (kE w m (Option.some.inj hw).symm).after e1' fun b hb => ?_
                rcases List.mem_cons.mp hb with z | z
                · rw [z]; exact .inr npa
                · exact .inl (List.mem_cons_of_mem _ z)
            · rw [if_neg (show ¬ kb key k from ck)] at hw
              refine ⟨_, rfl, _, rfl, nd, A.node, dn, _, _, rfl, hn, T.node, T.nB, nodeF_right, _, rfl, _, rfl, _, rfl, pb, b, x1, key, most, f, fs, r, rfl, st1, hb, hf3, hfW, hfm, hm, by omega, hw, fun x5 fs5 hx5 H5 e5 st5 hf8 => ?_, fun w m hx5 => ?_⟩
              · refine kO x5 fs5 hx5 H5 (e1'.then e5 fun b hb => ?_) st5 hf8
                rcases List.mem_cons.mp hb with z | z
                · rw [z]; exact .inr npb
                · exact .inl (List.mem_cons_of_mem _ z)
              · refine (kE w m hx5).after e1' fun b hb => ?_
                rcases List.mem_cons.mp hb with z | z
                · rw [z]; exact .inr npb
                · exact .inl (List.mem_cons_of_mem _ z)
          · rw [ho] at hw
            exact (kE w m (Option.some.inj hw).symm).mono fun b hb => List.mem_cons_of_mem _ (List.mem_cons_of_mem _ hb)
end
end RR
end
section
set_option Elab.async false
set_option linter.all false
set_option maxRecDepth 100000
set_option maxHeartbeats 4000000
/-! Answers and readings. -/
namespace RR
open PySem PySem.Spec PyProof.Rows L2
theorem sdec {a b : Str} (h : (a == b) = false) : decide (V.str a = V.str b) = false := decide_eq_false fun z => by
  have e := V.str.inj z
  subst e
  rw [beq_self_eq_true] at h
  cases h
theorem sdecT (a : Str) : decide (V.str a = V.str a) = true := decide_eq_true rfl
theorem iteN {c : Bool} {A B : Prop} (hc : c = false) (h : B) : if c = true then A else B := by
  rw [hc, if_neg Bool.false_ne_true]
  exact h
theorem iteY {c : Bool} {A B : Prop} (hc : c = true) (h : A) : if c = true then A else B := by
  rw [hc, if_pos rfl]
  exact h
/-! ### more rules -/
section
variable {X : Cx} {CX : CXT} {k : Nat} {C : Addr} {ps : List Str} {sp : Sp} {E : L2.St → XK} {x m : Str} {p pos apos : Pos} {e o : Expr} {es : List Expr} {ta te : TE} {t : TA}
/-- a call within a try's body -/
theorem pe_fS (O : OkF X.prog X.w X.K X.mg X.base CX k x ps sp) (hr : Room k X.A) (hx : ∀ σ, PassesAt CX X σ (E σ)) (ha : PA X (e :: es) t) (hg : Gl X x := by rfl)
    (hdb : (x == ("__debug__" : Str)) = false := by decide) (he : starEach (e :: es) X.env = (false, eval e X.env) :: starEach es X.env := by rfl) (hpl : (backTo pos (starEach es X.env)).any (·.1) = false := by rfl) :
    PE X (.Call (.Name x p) (e :: es) [] pos) (tCallS sp E t) := by
  obtain ⟨f, fd, g, kp, b, F⟩ := O
  exact pe_callS F hr hg g kp b hx ha hdb he hpl
theorem pe_m0S {pl : Sem Bool} (c : Cls X.K C) (O : OkM X.prog X.w X.K X.mg X.base CX k C m ps sp) (hr : Room k X.A) (hx : ∀ σ, PassesAt CX X σ (E σ)) (he : PE X o te)
    (ht : eval (.Call (.Attribute o m apos) [] [] pos) X.env = (do
      let ov ← eval o X.env
      standAt apos.atName
      let (f, first) ← holding [ov] (getMethod ov m pl)
      callWith pos f first (backTo pos (starEach [] X.env)) (backToKw pos (keywordEach [] X.env))) := by rfl) :
    PE X (.Call (.Attribute o m apos) [] [] pos) (fun σ H Q => te σ H fun x H1 => ∃ a dx fs, x = .ref a ∧ H1 a = some (.ins C dx fs) ∧ fs.lookup m = none ∧ sp [x] H1 Q (E σ)) := by
  obtain ⟨f, fd, hm, b, F⟩ := O
  refine ⟨fun pins s σ H Q I h => ?_⟩
  refine PySem.W.methodCall_KW (pl := pl) (thn (he.run pins s σ H _ I h) fun u s1 ⟨x, H1, I1, rx, a, dx, fs, ex, ea, l, q⟩ => ?_) ht
  subst ex
  obtain rfl : u = Value.ref a := rx
  refine getmeth_ok I1 ea c hm l ?_
  exact PySem.W.callWith_K0 (first := [.ref a]) I1.kIn hm.kp (run_fnS (us := [.ref a]) (vs := [.ref a]) F hr b (hx σ) I1 (.cons rfl .nil) q)
end
/-- what the exception's class must have, to be read -/
structure XRd (K : PySem.W.Frag) (C : Addr) : Prop where
  ga : PySem.W.findIn K (.ref C) "__getattribute__" = some (some (.builtin "BaseException.__getattribute__"))
  gg : PySem.W.findIn K (.ref C) "__getattr__" = some none
  exC : PySem.W.subIn K (.ref C) (.type "BaseException") = some true
  hdC : PySem.W.hasDictIn K C = true
  te : PySem.W.exmOne K (.ref C) (.ref C) = some true
  nW : NoAttr K C "word"
  nN : NoAttr K C "number"
/-- e.f, e the exception that the suite holds -/
def tXf (C : Addr) (a : Addr) (cls : Value) (d : Option Addr) (f : Str) (te : TE) : TE := fun σ H Q => te σ H fun x H1 => x = .ref a ∧ cls = .ref C ∧ ∃ (dd : Addr) (fs : List (Str × V)) (v : V), d = some dd ∧ H1 dd = some (.xd fs) ∧ fs.lookup f = some v ∧ Q v H1
theorem pe_xf {X : Cx} {C : Addr} {a : Addr} {oe : Obj} {cls : Value} {d : Option Addr} {pn : List (Addr × Obj)} {e : Expr} {te : TE} {pos : Pos} {f : Str} (T : XRd X.K C) (hn : NoAttr X.K C f) (hz : Zc cls d oe) (hf : ∃ vs, oe.data = .fields vs) (he : PE (X.suite a ((a, oe) :: pn)) e te)
    (hb : attributeBase e f X.env (eval e X.env) = eval e X.env := by rfl) :
    PE (X.suite a ((a, oe) :: pn)) (.Attribute e f pos) (tXf C a cls d f te) := by
  refine ⟨fun pins s σ H Q I h => ?_⟩
  refine attr_of hb (thn (he.run pins s σ H _ I h) fun u s1 hh => ?_)
  obtain ⟨x, H1, I1, rx, ex, ec, dd, fs, v, ed, ea, hl, q⟩ := hh
  subst ex
  obtain rfl : u = Value.ref a := rx
  subst ec
  subst ed
  obtain ⟨ha, _⟩ := I1.pin (a, oe) (List.mem_append_left _ List.mem_cons_self)
  obtain ⟨vs, hd⟩ := hf
  have hx : ObjOk X.prog X.w H1 s1.heap dd (.xd fs) := I1.hok dd _ ea
  obtain ⟨mA, hns, hr⟩ := hx
  obtain ⟨od, ho, hl2⟩ := lookIn_ns hns
  obtain ⟨u, hu, ru⟩ := RelO.some_of (v := v) (o := mA f) (by rw [← hl]; exact hr f)
  have J : PySem.W.InstAt s1.heap a oe C (some od) := ⟨ha, hz.1, by unfold PySem.W.notCls; rw [hd] <;> rfl, by rw [hz.2]; exact ho⟩
  exact HandSPX.exc_get I1.kIn J T.ga T.gg T.exC (PySem.W.findObj_own T.hdC hn rfl (by rw [hl2, hu])) (handed_of ru) ⟨v, H1, I1.tok _, ru, q⟩
/-! ### promises -/
def spRootK (A : Ad) : Sp := fun vs H Q _ => ∃ sv v u t, vs = [sv, v] ∧ TrAt A.tree H u v t ∧ ∀ (H' : Hp) p, Ext [] H H' → H p = none → (∃ dx lv, H' p = some (.ins A.part dx (partF lv v .non)) ∧ LkAt H' lv (t.lk u)) → Q (.ref p) H'
def spRootG (A : Ad) : Sp := fun vs H Q _ => ∃ sv v l, vs = [sv, v] ∧ LkAt H v l ∧ ∀ (H' : Hp) p, Ext [] H H' → H p = none → (∃ dx, H' p = some (.ins A.part dx (partF v .non .non))) → Q (.ref p) H'
def spFin (A : Ad) (B : Tbs) (u : Ru) (cert : List En) (s ca : Addr) : Sp := fun vs H Q E => ∃ n : Nat, vs = [.ref s] ∧ GvSt A B u cert s ca H n ∧ (¬ n < cert.length → Q .non H) ∧ (n < cert.length → RefE A E H [] .long n)
def spWalked {T : Th} (A : Ad) (R : Src T) (n : Nat) : Sp := fun vs H Q E => ∃ p qv q x key most r, vs = [.ref R.s, .ref p, qv] ∧ QuAt H qv key ((most : Nat) : Int) ∧ R.st H x ∧ PtAt A R H p q ∧ most ≤ 1000 ∧ R.sz x + 2 ^ n ≤ 16000000 ∧
  walk T key most n x q [] = some r ∧
  (∀ x' fs', r = .ok (x', fs') → ∀ (H' : Hp) f, Ext (p :: R.W) H H' → R.st H' x' → H f = none → LsAt PrAt H' f fs' → Q (.ref f) H') ∧ (∀ w m, r = .error (w, m) → RefE A E H (p :: R.W) w m)
section
variable {P : Program} {w : World} {K : PySem.W.Frag} {mg : Str → Option Value} {base : Heap} {A : Ad} {f : Addr} {fd : FuncData}
abbrev s_Known_root : Stmt := inClass (tp 30) 2
theorem sc_Known_root : FnScope ["self", "tree"] ["self", "tree"] (defScope s_Known_root) := ⟨rfl, rfl, rfl, by decide +kernel, rfl, by decide +kernel, by decide +kernel⟩
abbrev ps_Known_root : List Str := ["self", "tree"]
abbrev sl_Known_root : List Str := ["self", "tree"]
theorem ok_Known_root (F : FnP K "root" "Known.root" s_Known_root f fd) (T : Txt K mg A) (I_Part : OkI P w K mg base CX0 1 "Part" A.part ps_Part___init__ (spPartI A.part)) : FnOk P w K mg base CX0 3 f fd ps_Known_root (spRootK A) := by
  refine F.ok sc_Known_root (fun vs H Q E h => ?_) (fun cdv A' outer s0 H vs Q E hr h => ?_)
  · obtain ⟨sv, v, u, t, rfl, _⟩ := h
    rfl
  · obtain ⟨sv, v, u, t, rfl, ht, q⟩ := h
    refine ⟨_, PSs.nox (pss_one (ps_ret (pe_c I_Part (hr.mono (by decide)) pass0 (pa_cons (pe_fld (pv 1) rfl) (pa_cons (pv 1) (pa_cons pe_non pa_nil)))))), ?_⟩
    obtain ⟨p, dx, lv, ev, av, bv, rfl, hp, hl⟩ := ht.ref
    refine ⟨_, rfl, p, A.tree, dx, _, _, rfl, hp, T.tree, T.tL, treeF_link, _, rfl, ?_⟩
    intro x d hx hd ne
    refine ⟨x, d, _, _, _, rfl, upd_same, fun H2 h2 => ⟨rfl, ?_⟩⟩
    have e2 : Ext [] H H2 := Ext.made hx hd ne h2
    exact q _ x e2 hx ⟨d, lv, h2.2, hl.ext e2⟩
abbrev s_Given_root : Stmt := inClass (tp 31) 3
theorem sc_Given_root : FnScope ["self", "link"] ["self", "link"] (defScope s_Given_root) := ⟨rfl, rfl, rfl, by decide +kernel, rfl, by decide +kernel, by decide +kernel⟩
abbrev ps_Given_root : List Str := ["self", "link"]
abbrev sl_Given_root : List Str := ["self", "link"]
theorem ok_Given_root (F : FnP K "root" "Given.root" s_Given_root f fd) (T : Txt K mg A) (I_Part : OkI P w K mg base CX0 1 "Part" A.part ps_Part___init__ (spPartI A.part)) : FnOk P w K mg base CX0 3 f fd ps_Given_root (spRootG A) := by
  refine F.ok sc_Given_root (fun vs H Q E h => ?_) (fun cdv A' outer s0 H vs Q E hr h => ?_)
  · obtain ⟨sv, v, l, rfl, _⟩ := h
    rfl
  · obtain ⟨sv, v, l, rfl, hl, q⟩ := h
    refine ⟨_, PSs.nox (pss_one (ps_ret (pe_c I_Part (hr.mono (by decide)) pass0 (pa_cons (pv 1) (pa_cons pe_non (pa_cons pe_non pa_nil)))))), ?_⟩
    refine ⟨_, rfl, ?_⟩
    intro x d hx hd ne
    refine ⟨x, d, _, _, _, rfl, upd_same, fun H2 h2 => ⟨rfl, ?_⟩⟩
    have e2 : Ext [] H H2 := Ext.made hx hd ne h2
    exact q _ x e2 hx ⟨d, h2.2⟩
abbrev s_Given_finish : Stmt := inClass (tp 31) 2
theorem sc_Given_finish : FnScope ["self"] ["self"] (defScope s_Given_finish) := ⟨rfl, rfl, rfl, by decide +kernel, rfl, by decide +kernel, by decide +kernel⟩
abbrev ps_Given_finish : List Str := ["self"]
abbrev sl_Given_finish : List Str := ["self"]
theorem ok_Given_finish (B : Tbs) (u : Ru) (cert : List En) (h100 : cert.length < 100) (s ca : Addr) (F : FnP K "finish" "Given.finish" s_Given_finish f fd) (T : Txt K mg A) (O_R : OkR P w K mg base A) : FnOk P w K mg base (L2.CX P w) 3 f fd ps_Given_finish (spFin A B u cert s ca) := by
  refine F.ok sc_Given_finish (fun vs H Q E h => ?_) (fun cdv A' outer s0 H vs Q E hr h => ?_)
  · obtain ⟨n, rfl, _⟩ := h
    rfl
  · obtain ⟨n, rfl, ⟨ds, rv, hs1, hru, ⟨es, hs2, hs3⟩, hn, htab⟩, kO, kE⟩ := h
    refine ⟨_, (pss_one (ps_if (pt_cmpR op_lt (pe_fld (pv 0) rfl) (pe_callB call_len_seq (by rfl) T.len PySem.boot_len (pa_cons (pe_fld (pv 0) rfl) pa_nil)) (nomark _))
          (pss_one (ps_raise rfl (takes_of rfl rfl rfl rfl) (pmk_r O_R (hr.mono (by decide)) (pa_cons pe_str (pa_cons (pe_fld (pv 0) rfl) pa_nil)))))
          (pss_nil))), ?_⟩
    have hlen := hs3.length
    refine ⟨_, rfl, s, A.given, ds, _, _, rfl, hs1, T.given, T.gP, givF_pos, _, rfl, s, A.given, ds, _, _, rfl, hs1, T.given, T.gC, givF_cert, ca, _, rfl, .inl (SqL.of hs2), _, _, rfl, rfl, _, rfl, iteD (fun c => ?_) fun c => ?_⟩
    · refine ⟨_, rfl, s, A.given, ds, _, _, rfl, hs1, T.given, T.gP, givF_pos, ?_⟩
      exact ref_out (A := A) (W0 := fun cls d _ H => E cls d H) (σ := []) .long (n := n) (by omega) fun H' d e1 hd h1 => kE (by omega) H' d e1 hd h1
    · exact kO (by omega)
abbrev s_walked : Stmt := tp 40
theorem sc_walked : FnScope ["source", "part", "query", "name", "found"] ["source", "part", "query"] (defScope s_walked) := ⟨rfl, rfl, rfl, by decide +kernel, rfl, by decide +kernel, by decide +kernel⟩
abbrev ps_walked : List Str := ["source", "part", "query"]
abbrev sl_walked : List Str := ["source", "part", "query", "name", "found"]
theorem ok_walked {Th0 : Th} (R : Src Th0) (F : FnP K "walked" "walked" s_walked f fd) (T : Txt K mg A) (O_add_next : OkF P w K mg base (L2.CX P w) 31 "add_next" ps_add_next (spAN A R 20)) : FnOk P w K mg base (L2.CX P w) 32 f fd ps_walked (spWalked A R 20) := by
  refine F.ok sc_walked (fun vs H Q E h => ?_) (fun cdv A' outer s0 H vs Q E hr h => ?_)
  · obtain ⟨p, qv, q, x, key, most, r, rfl, _⟩ := h
    rfl
  · obtain ⟨p, qv, q, x, key, most, r, rfl, ⟨qa, rfl, hq⟩, hst, hp, hm, hz, hw, kO, kE⟩ := h
    refine ⟨_, (pss_cons (ps_set (i := 3) sc_walked.nd rfl (Or.inl rfl) (pe_ix ix_tup (pv 2) pe_int (fun _ _ => rfl)))
        (pss_cons (ps_if (pt_cmpR op_eq (pv 3) pe_str (nomark _)) pss_never pss_nil)
        (pss_cons (ps_if (pt_cmpR op_eq (pv 3) pe_str (nomark _)) pss_never pss_nil)
        (pss_cons (ps_if (pt_cmpR op_eq (pv 3) pe_str (nomark _)) pss_never pss_nil)
        (pss_cons (ps_if (pt_cmpR op_eq (pv 3) pe_str (nomark _)) pss_never pss_nil)
        (pss_cons (ps_if (pt_cmpR op_eq (pv 3) pe_str (nomark _)) pss_never pss_nil)
        (pss_cons (ps_set (i := 4) sc_walked.nd rfl (Or.inl rfl) (pe_lst pa_nil))
        (pss_cons (ps_if (pt_cmpR op_eq (pv 3) pe_str (nomark _)) pss_never (pss_one (ps_expr (pe_f O_add_next (hr.mono (by decide)) passX (pa_cons (pv 0) (pa_cons (pv 1) (pa_cons (pe_ix ix_tup (pv 2) pe_int (fun _ _ => rfl)) (pa_cons (pe_ix ix_tup (pv 2) pe_int (fun _ _ => rfl)) (pa_cons (pv 4) pa_nil)))))))))
        (pss_one (ps_ret (pv 4))))))))))), ?_⟩
    have hq2 := SqT.of (K := K) hq
    refine ⟨_, rfl, qa, _, _, _, rfl, rfl, hq2, rfl, ?_⟩
    refine ⟨_, rfl, rfl, _, rfl, iteN (sdec (by decide +kernel)) ?_⟩
    refine ⟨_, rfl, rfl, _, rfl, iteN (sdec (by decide +kernel)) ?_⟩
    refine ⟨_, rfl, rfl, _, rfl, iteN (sdec (by decide +kernel)) ?_⟩
    refine ⟨_, rfl, rfl, _, rfl, iteN (sdec (by decide +kernel)) ?_⟩
    refine ⟨_, rfl, rfl, _, rfl, iteN (sdec (by decide +kernel)) ?_⟩
    refine ⟨Nat.zero_le _, fun fl hfl => ?_⟩
    refine ⟨_, rfl, rfl, _, rfl, iteN (sdec (by decide +kernel)) ?_⟩
    have e1 : Ext [] H (upd H fl (.lst [])) := Ext.new hfl
    have hq3 := SqT.of (K := K) (e1.tup hq)
    refine ⟨_, rfl, _, rfl, _, rfl, qa, _, _, _, rfl, rfl, hq3, rfl, _, rfl, qa, _, _, _, rfl, rfl, hq3, rfl, _, rfl, p, q, x, key, most, fl, [], r, rfl, R.st_ext e1 (fun b hb z => nomatch z) hst, hp.ext e1 (by simp), ⟨[], upd_same, trivial⟩, Src.new hst hfl, Nat.zero_le _, hm, hz, hw, fun x' fs' hx' H2 e2 st2 hf2 => ?_, fun w m hx' => ?_⟩
    · refine ⟨_, rfl, kO x' fs' hx' H2 fl (e1.of.then e2 fun b hb => ?_) st2 hfl hf2⟩
      rcases List.mem_cons.mp hb with z | z
      · rw [z]; exact .inl List.mem_cons_self
      · rcases List.mem_cons.mp z with z | z
        · rw [z]; exact .inr hfl
        · exact .inl (List.mem_cons_of_mem _ z)
    · refine (kE w m hx').after e1.of fun b hb => ?_
      rcases List.mem_cons.mp hb with z | z
      · rw [z]; exact .inl List.mem_cons_self
      · rcases List.mem_cons.mp z with z | z
        · rw [z]; exact .inr hfl
        · exact .inl (List.mem_cons_of_mem _ z)
end
end RR
end
section
set_option Elab.async false
set_option linter.all false
set_option maxRecDepth 100000
set_option maxHeartbeats 4000000
/-! answered, read. -/
namespace RR
open PySem PySem.Spec PyProof.Rows L2
/-- a promise for one of many -/
theorem FnOk.ex {ι : Type} {P : Program} {w : World} {K : PySem.W.Frag} {mg : Str → Option Value} {base : Heap} {CX : CXT} {k : Nat} {f : Addr} {fd : FuncData} {ps : List Str} {sp : ι → Sp} (h : ∀ i, FnOk P w K mg base CX k f fd ps (sp i)) :
    FnOk P w K mg base CX k f fd ps (fun vs H Q E => ∃ i, sp i vs H Q E) :=
  ⟨fun vs H Q E ⟨i, q⟩ => (h i).len _ _ _ _ q, fun A outer s H args us vs Q E hr he hb hv ⟨i, q⟩ => (h i).run A outer s H args us vs Q E hr he hb hv q⟩
/-- the told answer, its list new -/
def ToNew (H H' : Hp) (v : V) : Told → Prop
  | .ans f => ∃ a l, v = .ref a ∧ H' a = some (.tup [.str "answer", .ref l]) ∧ LsAt PrAt H' l f ∧ H l = none
  | .ref w n => ∃ a, v = .ref a ∧ H' a = some (.tup [.str "refused", .str (word w), .int (n : Int)])
theorem ToNew.at {H H' : Hp} {v : V} : ∀ {t : Told}, ToNew H H' v t → ToAt H' v t
  | .ans f, ⟨a, l, e, h1, h2, _⟩ => ⟨a, l, e, h1, h2⟩
  | .ref w n, h => h
/-- any known source, any given one -/
abbrev IK : Type := Ru × Addr × Addr
def spWK (A : Ad) : Sp := fun vs H Q E => ∃ i : IK, spWalked A (srcK A i.1 i.2.1 i.2.2) 20 vs H Q E
abbrev IG : Type := Ru × Addr × Addr × { c : List En // (∀ e ∈ c, EnOk e) ∧ c.length < 100 }
def spWG (A : Ad) (B : Tbs) : Sp := fun vs H Q E => ∃ i : IG, spWalked A (srcG A B i.1 i.2.2.2.1 i.2.1 i.2.2.1) 20 vs H Q E
def spFG (A : Ad) (B : Tbs) : Sp := fun vs H Q E => ∃ i : IG, spFin A B i.1 i.2.2.2.1 i.2.1 i.2.2.1 vs H Q E
def spAns (A : Ad) : Sp := fun vs H Q _ => ∃ r u t tab qv key most es fs, vs = [r, .ref t, qv] ∧ RuAt H r u ∧ LsAt PrAt H t tab ∧ Lax tab ∧ TabOk tab ∧ tab.length < 40 ∧ QuAt H qv key ((most : Nat) : Int) ∧ most ≤ 1000 ∧
  walk (Kn u) key most 20 ([] : List En) (tr tab) [] = some (.ok (es, fs)) ∧ ∀ (H' : Hp) a f ea, Ext [] H H' → H' a = some (.tup [.ref f, .ref ea]) → LsAt PrAt H' f fs → LsAt EnAt H' ea es → H ea = none → Q (.ref a) H'
def spRead (B : Tbs) : Sp := fun vs H Q _ => ∃ r hv qv ca u l key most cert, vs = [r, hv, qv, .ref ca] ∧ RuAt H r u ∧ LkAt H hv l ∧ QuAt H qv key ((most : Nat) : Int) ∧ LsAt EnAt H ca cert ∧ (∀ e ∈ cert, EnOk e) ∧ cert.length ≤ 18 ∧ Tabs B H ∧ most ≤ 1000 ∧
  ∀ (H' : Hp) v, Ext [ca] H H' → ToNew H H' v (readT u l key most cert) → Q v H'
section
variable {P : Program} {w : World} {K : PySem.W.Frag} {mg : Str → Option Value} {base : Heap} {A : Ad} {f : Addr} {fd : FuncData}
abbrev s_answered : Stmt := tp 42
theorem sc_answered : FnScope ["rule", "table", "query", "source", "found"] ["rule", "table", "query"] (defScope s_answered) := ⟨rfl, rfl, rfl, by decide +kernel, rfl, by decide +kernel, by decide +kernel⟩
abbrev ps_answered : List Str := ["rule", "table", "query"]
abbrev sl_answered : List Str := ["rule", "table", "query", "source", "found"]
theorem ok_answered (F : FnP K "answered" "answered" s_answered f fd) (T : Txt K mg A) (O_walked : OkF P w K mg base (L2.CX P w) 32 "walked" ps_walked (spWK A)) (O_tree_of : OkF P w K mg base CX0 47 "tree_of" ps_tree_of (spTree A.tree 40))
    (I_Known : OkI P w K mg base CX0 2 "Known" A.known ps_Known___init__ (spKnownI A.known)) (M_Known_root : OkM P w K mg base CX0 3 A.known "root" ps_Known_root (spRootK A)) : FnOk P w K mg base CX0 48 f fd ps_answered (spAns A) := by
  refine F.ok sc_answered (fun vs H Q E h => ?_) (fun cdv A' outer s0 H vs Q E hr h => ?_)
  · obtain ⟨r, u, t, tab, qv, key, most, es, fs, rfl, _⟩ := h
    rfl
  · obtain ⟨r, u, t, tab, qv, key, most, es, fs, rfl, hru, ht, hlax, hok, hn, hq, hm, hw, q⟩ := h
    refine ⟨_, PSs.nox (pss_cons (ps_set (i := 3) sc_answered.nd rfl (Or.inl rfl) (pe_c I_Known (hr.mono (by decide)) pass0 (pa_cons (pv 0) pa_nil)))
        (pss_cons (ps_set (i := 4) sc_answered.nd rfl (Or.inl rfl) (pe_f O_walked (hr.mono (by decide)) passL (pa_cons (pv 3) (pa_cons (pe_m T.known M_Known_root (hr.mono (by decide)) pass0 (pv 3) (pa_cons (pe_f O_tree_of (hr.mono (by decide)) pass0 (pa_cons (pv 0) (pa_cons (pv 1) pa_nil))) pa_nil)) (pa_cons (pv 2) pa_nil)))))
        (pss_one (ps_ret (pe_tup (pa_cons (pv 4) (pa_cons (pe_fld (pv 3) rfl) pa_nil))))))), ?_⟩
    refine ⟨_, rfl, ?_⟩
    intro s ds hs hds nes
    refine ⟨s, ds, r, rfl, upd_same, fun H1 ea hea h1 h2 h3 => ⟨rfl, ?_⟩⟩
    have e1 : Ext [] H H1 := Ext.made2 hs hds nes hea h1 h2 h3
    have hea0 : H ea = none := (upd_dom (upd_dom hea).1).1
    refine ⟨_, rfl, _, rfl, s, ds, _, rfl, h3, knowF_root, _, rfl, _, rfl, r, u, t, tab, rfl, hru.ext e1, ht.pr e1 (by simp), hlax, hok, hn, by omega, fun H2 tv e2 htv => ?_⟩
    refine ⟨.ref s, tv, u, tr tab, rfl, htv, fun H3 p e3 hp3 hpt => ?_⟩
    have e23 := e2.trans e3
    have hpt2 : PtAt A (srcK A u s ea) H3 p (tr tab) := by
      obtain ⟨dx, lv, h4, h5⟩ := hpt
      exact ⟨dx, lv, tv, h4, h5, htv.ext e3⟩
    have hst : (srcK A u s ea).st H3 ([] : List En) := ⟨ds, r, e23.ins h3 (by simp), [], e23.lst h2 (by simp), trivial⟩
    refine ⟨_, rfl, (u, s, ea), p, qv, tr tab, ([] : List En), key, most, _, rfl, hq.ext (e1.trans e23), hst, hpt2, hm, (by show (List.length ([] : List En)) + 2 ^ 20 ≤ 16000000; decide), hw, fun x' fs' hx' H4 fl e4 st4 hfl hf => ?_, fun w m hx' => nomatch hx'⟩
    cases hx'
    obtain ⟨ds4, rv4, k1, k2⟩ := st4
    refine ⟨_, rfl, _, rfl, s, A.known, ds4, _, _, rfl, k1, T.known, T.kE, knowF_entries, (by show 2 ≤ sizeLine; decide), fun z hz => ?_⟩
    have e5 : Ext [] H H4 := (e1.trans e23).then e4 fun b hb => by
      rcases List.mem_cons.mp hb with z | z
      · rw [z]; exact .inr (e1.dom _ (e2.dom _ hp3))
      · rcases List.mem_cons.mp z with z | z
        · rw [z]; exact .inr hs
        · rw [List.mem_singleton.mp z]; exact .inr hea0
    have e6 : Ext [] H4 (upd H4 z (.tup [.ref fl, .ref ea])) := Ext.new hz
    exact q _ z fl ea (e5.trans e6) upd_same (hf.pr e6 (by simp)) (k2.en e6 (by simp)) hea0
abbrev s_read : Stmt := tp 43
theorem sc_read : FnScope ["rule", "head", "query", "certificate", "source", "found", "error"] ["rule", "head", "query", "certificate"] (defScope s_read) := ⟨rfl, rfl, rfl, by decide +kernel, rfl, by decide +kernel, by decide +kernel⟩
abbrev ps_read : List Str := ["rule", "head", "query", "certificate"]
abbrev sl_read : List Str := ["rule", "head", "query", "certificate", "source", "found", "error"]
theorem ok_read {B : Tbs} (F : FnP K "read" "read" s_read f fd) (T : Txt K mg A) (O_walked : OkF P w K mg base (L2.CX P w) 32 "walked" ps_walked (spWG A B))
    (I_Given : OkI P w K mg base CX0 2 "Given" A.given ps_Given___init__ (spGivenI A.given)) (M_Given_root : OkM P w K mg base CX0 3 A.given "root" ps_Given_root (spRootG A)) (M_Given_finish : OkM P w K mg base (L2.CX P w) 3 A.given "finish" ps_Given_finish (spFG A B)) (TX : XRd K A.refd) (gX : mg "Refused" = some (.ref A.refd)) :
    FnOk P w K mg base CX0 33 f fd ps_read (spRead B) := by
  refine F.ok sc_read (fun vs H Q E h => ?_) (fun cdv A' outer s0 H vs Q E hr h => ?_)
  · obtain ⟨r, hv, qv, ca, u, l, key, most, cert, rfl, _⟩ := h
    rfl
  · obtain ⟨r, hv, qv, ca, u, l, key, most, cert, rfl, hru, hl, hq, ⟨cvs, hc1, hc2⟩, hok, h18, htab, hm, q⟩ := h
    refine ⟨_, PSs.nox (pss_cons (ps_set (i := 4) sc_read.nd rfl (Or.inl rfl) (pe_c I_Given (hr.mono (by decide)) pass0 (pa_cons (pv 0) (pa_cons (pv 3) pa_nil))))
      (pss_cons (ps_try_as (i := 6) (tb := fun W => tSeq (tAsg (tCallS (spWG A B) (WE W) (tCons (tVar 4) (tCons (tMe A.given "root" (spRootG A) E0 (tVar 4) (tCons (tVar 1) tNil)) (tCons (tVar 2) tNil)))) (gName 5))
          (tDrop (fun σ H Q => tVar 4 σ H fun x H1 => ∃ a dx fs, x = .ref a ∧ H1 a = some (.ins A.given dx fs) ∧ fs.lookup ("finish" : Str) = none ∧ spFG A B [x] H1 Q (WE W σ))))
        (ts := fun a cls d => tRet (tTup (tCons (tC (.str "refused")) (tCons (tXf A.refd a cls d "word" (tVar 6)) (tCons (tXf A.refd a cls d "number" (tVar 6)) tNil)))))
        (Wout := fun _ _ _ _ => False) rfl rfl sc_read.nd rfl rfl ⟨rfl, by decide, Or.inl gX⟩ takes0
        (fun W pn xe tk _ => pss_cons (ps_set (i := 5) sc_read.nd rfl (Or.inl rfl) (by exact (pe_fS O_walked (hr.mono (by decide)) (fun σ => passAt tk σ) (by exact (pa_cons (pv 4) (pa_cons (pe_m T.given M_Given_root (hr.mono (by decide)) pass0 (pv 4) (pa_cons (pv 1) pa_nil)) (pa_cons (pv 2) pa_nil)))))))
          (pss_one (ps_expr (by exact (pe_m0S T.given M_Given_finish (hr.mono (by decide)) (fun σ => passAt tk σ) (pv 4))))))
        (fun a oe cls d pn hz hf => pss_one (ps_ret (by exact (pe_tup (pa_cons pe_str (pa_cons (pe_xf TX TX.nW hz hf (pv 6)) (pa_cons (pe_xf TX TX.nN hz hf (pv 6)) pa_nil))))))))
      (pss_one (ps_ret (pe_tup (pa_cons pe_str (pa_cons (pv 5) pa_nil))))))), ?_⟩
    refine ⟨_, rfl, _, rfl, ?_⟩
    intro s ds hs hds nes
    refine ⟨s, ds, r, .ref ca, rfl, upd_same, fun H1 h1 => ⟨rfl, ?_⟩⟩
    have e1 : Ext [] H H1 := Ext.made hs hds nes h1
    have hrd : ∃ r, walk (Gv u cert) key most 20 (0 : Nat) l [] = some r ∧ readT u l key most cert = (match some r with
        | none => .ref .short 0
        | some (.error (w, n)) => .ref w n
        | some (.ok (n, f)) => if (n : Nat) < cert.length then .ref .long n else .ans f) := by
      obtain ⟨r, hr, _⟩ := gv_walk u cert key most (cert.length + 2) 0 l [] (Nat.zero_le _) (by omega)
      refine ⟨r, walk_mono _ key most _ 20 _ _ _ _ (by omega) hr, ?_⟩
      unfold readT
      rw [hr] <;> rfl
    obtain ⟨rr, hw, hrd⟩ := hrd
    -- the suite
    have suite : ∀ {w : Wd} {n : Nat} {H' : Hp} {d : Addr} {σ : L2.St} {D : Ends}, readT u l key most cert = .ref w n → Ext [ca] H H' → H' d = some (.xd (refX w n)) → D.rt = Q → σ.length = 7 →
        wAs K (.ref A.refd) 6 (fun a cls d => tRet (tTup (tCons (tC (.str "refused")) (tCons (tXf A.refd a cls d "word" (tVar 6)) (tCons (tXf A.refd a cls d "number" (tVar 6)) tNil))))) (fun _ _ _ _ => False) D (.ref A.refd) (some d) σ H' := by
      intro w n H' d σ D h1 h2 h3 h4 h5
      refine ⟨true, TX.te, fun _ a ha => ?_, fun z => Bool.noConfusion z⟩
      have h6 : (σ.set 6 (some (.ref a)))[6]? = some (some (.ref a)) := by rw [List.getElem?_set_self (by omega)]
      have l1 : (refX w n).lookup ("word" : Str) = some (.str (word w)) := by unfold refX; kernel_rfl
      have l2 : (refX w n).lookup ("number" : Str) = some (.int (n : Int)) := by unfold refX; kernel_rfl
      refine ⟨_, h6, rfl, rfl, d, _, _, rfl, h3, l1, _, h6, rfl, rfl, d, _, _, rfl, h3, l2, (by show 3 ≤ sizeLine; decide), fun z hz => ?_⟩
      show D.rt (.ref z) _
      rw [h4]
      refine q _ _ (h2.new2 hz) ?_
      rw [h1]
      exact ⟨z, rfl, upd_same⟩
    have hca : ca ≠ s := ne_of_none hc1 hs
    refine ⟨_, rfl, _, rfl, s, ds, _, rfl, h1.2, givF_root, _, rfl, .ref s, hv, l, rfl, hl.ext e1, fun H2 p e2 hp ⟨dp, hp2⟩ => ?_⟩
    have e12 := e1.trans e2
    have hpt : PtAt A (srcG A B u cert s ca) H2 p l := ⟨dp, hv, .non, hp2, hl.ext e12, trivial⟩
    have hst : (srcG A B u cert s ca).st H2 (0 : Nat) := ⟨ds, r, e2.ins h1.2 (by simp), hru.ext e12, ⟨cvs, e12.lst hc1 (by simp), hc2.imp fun _ _ => EnAt.ext e12⟩, Nat.zero_le _, htab.ext e12⟩
    have drop : ∀ {H' : Hp}, Ext (p :: [s, ca]) H2 H' → Ext [ca] H H' := fun e => e12.of.then e fun b hb => by
      rcases List.mem_cons.mp hb with z | z
      · rw [z]; exact .inr (e1.dom _ hp)
      · rcases List.mem_cons.mp z with z | z
        · rw [z]; exact .inr hs
        · exact .inl z
    refine ⟨_, rfl, (u, s, ca, ⟨cert, hok, by omega⟩), p, qv, l, (0 : Nat), key, most, rr, rfl, hq.ext e12, hst, hpt, hm, (by show 0 + 2 ^ 20 ≤ 16000000; decide), hw, fun x' fs' hx' H3 fl e3 st3 hfl hf => ?_, fun w m hx' H3 d e3 hd h3 => ?_⟩
    · subst hx'
      obtain ⟨ds3, rv3, k1, k2, k3, k4, k5⟩ := id st3
      refine ⟨_, rfl, s, ds3, _, rfl, k1, givF_finish, (u, s, ca, ⟨cert, hok, by omega⟩), x', rfl, st3, fun hge => ?_, fun hlt H4 d e4 hd h4 => ?_⟩
      · refine ⟨_, rfl, (by show 2 ≤ sizeLine; decide), fun z hz => ?_⟩
        have e5 : Ext [] H3 (upd H3 z (.tup [.str "answer", .ref fl])) := Ext.new hz
        refine q _ _ ((drop e3).trans e5.of) ?_
        rw [hrd]
        show ToNew H _ _ (if _ then _ else _)
        rw [if_neg hge]
        exact ⟨z, fl, rfl, upd_same, hf.pr e5 (by simp), e1.dom _ (e2.dom _ hfl)⟩
      · refine suite ?_ ((drop e3).trans e4.of) h4 rfl rfl
        rw [hrd]
        show (if _ then _ else _) = _
        rw [if_pos hlt]
    · subst hx'
      exact suite hrd (drop e3) h3 rfl rfl
end
end RR
end
section
set_option Elab.async false
set_option linter.all false
set_option maxRecDepth 100000
set_option maxHeartbeats 4000000
/-! Copy. -/
namespace RR
open PySem PySem.Spec PyProof.Rows L2
def lastK (t : Tab) : Str := match t.getLast? with
  | none => ""
  | some p => p.1
/-- a copy at c, its rows in the list at ro -/
def CoAt (A : Ad) (u : Ru) (l : Lk) (n : Nat) (c ro : Addr) (H : Hp) (tab : Tab) : Prop := ∃ dx rv hv, H c = some (.ins A.copy dx (copyF rv hv (.int (n : Int)) (.ref ro))) ∧ RuAt H rv u ∧ LkAt H hv l ∧ LsAt PrAt H ro tab
theorem CoAt.ext {A : Ad} {u : Ru} {l : Lk} {n : Nat} {c ro : Addr} {S : List Addr} {H H' : Hp} {tab : Tab} (e : Ext S H H') (h1 : c ∉ S) (h2 : ro ∉ S) : CoAt A u l n c ro H tab → CoAt A u l n c ro H' tab :=
  fun ⟨dx, rv, hv, a, b, d, g⟩ => ⟨dx, rv, hv, e.ins a h1, b.ext e, d.ext e, g.pr e h2⟩
/-- the rows a told answer brings -/
def Told.more : Told → Tab
  | .ans f => f
  | .ref _ _ => []
theorem lastK_at {vs : List V} {t : Tab} {H : Hp} (h : A2 (PrAt H) vs t) (hne : t ≠ []) : ∃ v a rv, atI vs (-1) = some v ∧ v = .ref a ∧ H a = some (.tup [.str (lastK t), rv]) := by
  obtain ⟨init, p, rfl⟩ : ∃ init p, t = init ++ [p] := ⟨t.dropLast, t.getLast hne, (List.dropLast_concat_getLast hne).symm⟩
  have hl := h.length
  have hg : (init ++ [p])[init.length]? = some p := by simp
  obtain ⟨v, hv, a, rv, rfl, ha, _⟩ := h.get hg
  refine ⟨.ref a, a, rv, ?_, rfl, ?_⟩
  · obtain ⟨vi, w, rfl⟩ : ∃ vi w, vs = vi ++ [w] := by
      have : vs ≠ [] := fun z => by rw [z] at hl; simp at hl
      exact ⟨vs.dropLast, vs.getLast this, (List.dropLast_concat_getLast this).symm⟩
    rw [List.length_append, List.length_append] at hl
    have hl2 : init.length = vi.length := by simp at hl; omega
    rw [hl2] at hv
    have : w = .ref a := by simpa using hv
    rw [this]
    exact atI_last vi (.ref a)
  · have : lastK (init ++ [p]) = p.1 := by
      unfold lastK
      rw [List.getLast?_append]
      rfl
    rw [this]
    exact ha
theorem readT_ans {u : Ru} {l : Lk} {key : Str} {most : Nat} {cert : List En} (hok : ∀ e ∈ cert, EnOk e) {f : Tab} (h : readT u l key most cert = .ans f) : f.length ≤ most ∧ TabOk f := by
  unfold readT at h
  cases hw : walk (Gv u cert) key most (cert.length + 2) (0 : Nat) l [] with
  | none => rw [hw] at h; cases h
  | some r =>
    rw [hw] at h
    cases r with
    | error e => cases e; cases h
    | ok v =>
      obtain ⟨n, f'⟩ := v
      simp only at h
      split at h
      · cases h
      · cases h
        exact ⟨walk_most _ _ _ _ _ _ _ _ _ (Nat.zero_le _) hw, gv_from u cert hok key most _ _ _ _ _ _ (fun p hp => by cases hp) hw⟩
def spWanted (A : Ad) : Sp := fun vs H Q _ => ∃ u l n c ro tab, vs = [.ref c] ∧ CoAt A u l n c ro H tab ∧ (l.c ≤ (tab.length : Int) → Q .non H) ∧ (¬ l.c ≤ (tab.length : Int) → ∀ (H' : Hp) v, Ext [] H H' → QuAt H' v (lastK tab) (n : Int) → Q v H')
def spAdd (A : Ad) (B : Tbs) : Sp := fun vs H Q _ => ∃ u l n c ro tab ca cert, vs = [.ref c, .ref ca] ∧ CoAt A u l n c ro H tab ∧ LsAt EnAt H ca cert ∧ ca ≠ ro ∧ (∀ e ∈ cert, EnOk e) ∧ cert.length ≤ 18 ∧ Tabs B H ∧ n ≤ 1000 ∧ tab.length ≤ 1000 ∧
  (l.c ≤ (tab.length : Int) → Q .non H) ∧
  (¬ l.c ≤ (tab.length : Int) → ∀ (H' : Hp) v, Ext [c, ro, ca] H H' → ToNew H H' v (readT u l (lastK tab) n cert) → CoAt A u l n c ro H' (tab ++ (readT u l (lastK tab) n cert).more) → Q v H')
def spRows (A : Ad) : Sp := fun vs H Q _ => ∃ u l n c ro tab, vs = [.ref c] ∧ CoAt A u l n c ro H tab ∧ ∀ (H' : Hp) p, Ext [] H H' → H p = none → LsAt PrAt H' p tab → Q (.ref p) H'
def spWhole (A : Ad) : Sp := fun vs H Q _ => ∃ u l n c ro tab, vs = [.ref c] ∧ CoAt A u l n c ro H tab ∧ Lax tab ∧ TabOk tab ∧ tab.length < 40 ∧ ∀ (H' : Hp), Ext [] H H' → Q (.bl (decide ((tab.length : Int) = l.c ∧ (tr tab).lk u = l))) H'
section
variable {P : Program} {w : World} {K : PySem.W.Frag} {mg : Str → Option Value} {base : Heap} {A : Ad} {f : Addr} {fd : FuncData}
abbrev s_Copy_wanted : Stmt := inClass (tp 45) 1
theorem sc_Copy_wanted : FnScope ["self", "last"] ["self"] (defScope s_Copy_wanted) := ⟨rfl, rfl, rfl, by decide +kernel, rfl, by decide +kernel, by decide +kernel⟩
abbrev ps_Copy_wanted : List Str := ["self"]
abbrev sl_Copy_wanted : List Str := ["self", "last"]
theorem ok_Copy_wanted (F : FnP K "wanted" "Copy.wanted" s_Copy_wanted f fd) (T : Txt K mg A) : FnOk P w K mg base CX0 1 f fd ps_Copy_wanted (spWanted A) := by
  refine F.ok sc_Copy_wanted (fun vs H Q E h => ?_) (fun cdv A' outer s0 H vs Q E hr h => ?_)
  · obtain ⟨u, l, n, c, ro, tab, rfl, _⟩ := h
    rfl
  · obtain ⟨u, l, n, c, ro, tab, rfl, ⟨dx, rv, hv, hc, hru, ⟨la, lb, rfl, hl1, hl2⟩, us, hro, hA⟩, kN, kY⟩ := h
    refine ⟨_, PSs.nox (pss_cons (ps_if (pt_cmpR op_ge (pe_callB call_len_seq (by rfl) T.len PySem.boot_len (pa_cons (pe_fld (pv 0) rfl) pa_nil)) (pe_ix ix_tup (pe_fld (pv 0) rfl) pe_int (fun _ _ => rfl)) (nomark _))
          (pss_one (ps_ret pe_non))
          (pss_nil))
        (pss_cons (ps_set (i := 1) sc_Copy_wanted.nd rfl (Or.inl rfl) (pe_ifExp (pt_truth (pe_fld (pv 0) rfl) (by intro _; rfl)) (pe_ix ix_tup (pe_ix ix_list (pe_fld (pv 0) rfl) (pe_un un_neg pe_int) (fun _ _ => rfl)) pe_int (fun _ _ => rfl)) pe_str))
        (pss_one (ps_ret (pe_tup (pa_cons pe_str (pa_cons (pv 1) (pa_cons (pe_fld (pv 0) rfl) pa_nil)))))))), ?_⟩
    have hlen := hA.length
    refine ⟨_, rfl, c, A.copy, dx, _, _, rfl, hc, T.copy, T.cO, copyF_rows, ro, _, rfl, .inl (SqL.of hro), _, rfl, c, A.copy, dx, _, _, rfl, hc, T.copy, T.cH, copyF_head, la, _, _, _, rfl, rfl, SqT.of hl1, rfl, _, _, rfl, rfl, _, rfl, iteD (fun cc => ?_) fun cc => ?_⟩
    · exact kN (by rw [← hlen]; exact cc)
    · refine ⟨_, rfl, c, A.copy, dx, _, _, rfl, hc, T.copy, T.cO, copyF_rows, !us.isEmpty, .inl ⟨us, SqL.of hro, rfl⟩, ?_⟩
      have fin : ∀ σ : L2.St, σ = [some (.ref c), some (.str (lastK tab))] → (tRet (tTup (tCons (tC (.str "next")) (tCons (tVar 1) (tCons (tFld K (tVar 0) "_size") tNil))))) { nx := fun _ H' => Q .non H', rt := Q } σ H := by
        rintro σ rfl
        refine ⟨_, rfl, _, rfl, c, A.copy, dx, _, _, rfl, hc, T.copy, T.cS, copyF_size, (by show 3 ≤ sizeLine; decide), fun t ht => kY (by rw [← hlen]; exact cc) _ _ (Ext.new ht) ⟨t, rfl, upd_same⟩⟩
      refine iteB (fun ce => ?_) fun ce => ?_
      · have hne : tab ≠ [] := fun z => by
          subst z
          cases us with
          | nil => cases ce
          | cons _ _ => cases hA
        obtain ⟨v, a, rv2, h1, rfl, h2⟩ := lastK_at hA hne
        exact ⟨_, rfl, c, A.copy, dx, _, _, rfl, hc, T.copy, T.cO, copyF_rows, _, rfl, ro, us, _, _, rfl, rfl, SqL.of hro, h1, a, _, _, _, rfl, rfl, SqT.of h2, rfl, fin _ rfl⟩
      · have hne : tab = [] := by
          cases us with
          | nil => cases tab with
            | nil => rfl
            | cons _ _ => cases hA
          | cons _ _ => cases ce
        subst hne
        exact fin _ rfl
abbrev s_Copy_add : Stmt := inClass (tp 45) 2
theorem sc_Copy_add : FnScope ["self", "certificate", "query", "told"] ["self", "certificate"] (defScope s_Copy_add) := ⟨rfl, rfl, rfl, by decide +kernel, rfl, by decide +kernel, by decide +kernel⟩
abbrev ps_Copy_add : List Str := ["self", "certificate"]
abbrev sl_Copy_add : List Str := ["self", "certificate", "query", "told"]
theorem ok_Copy_add {B : Tbs} (F : FnP K "add" "Copy.add" s_Copy_add f fd) (T : Txt K mg A) (M_Copy_wanted : OkM P w K mg base CX0 1 A.copy "wanted" ps_Copy_wanted (spWanted A)) (O_read : OkF P w K mg base CX0 33 "read" ps_read (spRead B)) : FnOk P w K mg base CX0 34 f fd ps_Copy_add (spAdd A B) := by
  refine F.ok sc_Copy_add (fun vs H Q E h => ?_) (fun cdv A' outer s0 H vs Q E hr h => ?_)
  · obtain ⟨u, l, n, c, ro, tab, ca, cert, rfl, _⟩ := h
    rfl
  · obtain ⟨u, l, n, c, ro, tab, ca, cert, rfl, hco, hce, hcr, hok, h18, htab, hn, htl, kN, kY⟩ := h
    refine ⟨_, PSs.nox (pss_cons (ps_set (i := 2) sc_Copy_add.nd rfl (Or.inl rfl) (pe_m0 T.copy M_Copy_wanted (hr.mono (by decide)) pass0 (pv 0)))
        (pss_cons (ps_if (pt_cmpR op_isN (pv 2) pe_non (nomark _))
          (pss_one (ps_ret pe_non))
          (pss_nil))
        (pss_cons (ps_set (i := 3) sc_Copy_add.nd rfl (Or.inl rfl) (pe_f O_read (hr.mono (by decide)) pass0 (pa_cons (pe_fld (pv 0) rfl) (pa_cons (pe_fld (pv 0) rfl) (pa_cons (pv 2) (pa_cons (pv 1) pa_nil))))))
        (pss_cons (ps_if (pt_cmpR op_eq (pe_ix ix_tup (pv 3) pe_int (fun _ _ => rfl)) pe_str (nomark _))
          (pss_one (ps_fldaug (pv 0) (pe_ix ix_tup (pv 3) pe_int (fun _ _ => rfl)) iop_ext))
          (pss_nil))
        (pss_one (ps_ret (pv 3))))))), ?_⟩
    obtain ⟨dx, rv, hv, hc, hru, hlk, hrows⟩ := id hco
    obtain ⟨us, hro, hA⟩ := id hrows
    obtain ⟨cvs, hca1, hca2⟩ := id hce
    have hcc : ca ≠ c := ne_of hca1 hc (fun z => nomatch z)
    have hrc : ro ≠ c := ne_of hro hc (fun z => nomatch z)
    refine ⟨_, rfl, c, dx, _, rfl, hc, copyF_wanted, u, l, n, c, ro, tab, rfl, hco, fun cc => ?_, fun cc H1 qv e1 hq => ?_⟩
    · exact ⟨_, rfl, rfl, _, rfl, kN cc⟩
    · have hqn : qv ≠ .non := by
        obtain ⟨qa, rfl, _⟩ := hq
        exact fun z => nomatch z
      refine ⟨_, rfl, rfl, _, rfl, ?_⟩
      rw [decide_eq_false hqn]
      refine iteF ?_
      have hc1 := e1.ins hc (by simp)
      refine ⟨_, rfl, c, A.copy, dx, _, _, rfl, hc1, T.copy, T.cR, copyF_rule, _, rfl, c, A.copy, dx, _, _, rfl, hc1, T.copy, T.cH, copyF_head, _, rfl, _, rfl, rv, hv, qv, ca, u, l, lastK tab, n, cert, rfl, hru.ext e1, hlk.ext e1, hq, hce.en e1 (by simp), hok, h18, htab.ext e1, hn, fun H2 v e2 hv2 => ?_⟩
      have e12 : Ext [ca] H H2 := e1.of.trans e2
      have hc2 := e12.ins hc (by simpa using hcc.symm)
      have hco2 : CoAt A u l n c ro H2 tab := hco.ext e12 (by simpa using hcc.symm) (by simpa using hcr.symm)
      have e12' : Ext [c, ro, ca] H H2 := e12.mono fun b hb => by rw [List.mem_singleton.mp hb]; simp
      cases ht : readT u l (lastK tab) n cert with
      | ref wd m =>
        rw [ht] at hv2 kY
        obtain ⟨a, rfl, ha⟩ := id hv2
        refine ⟨_, rfl, a, _, _, _, rfl, rfl, SqT.of ha, rfl, rfl, _, rfl, iteN (sdec (by decide +kernel)) ?_⟩
        refine ⟨_, rfl, kY cc H2 _ e12' ⟨a, rfl, ha⟩ ?_⟩
        show CoAt A u l n c ro H2 (tab ++ [])
        rw [List.append_nil]
        exact hco2
      | ans fs =>
        rw [ht] at hv2 kY
        obtain ⟨a, fl, rfl, ha, hf, hfl⟩ := id hv2
        refine ⟨_, rfl, a, _, _, _, rfl, rfl, SqT.of ha, rfl, rfl, _, rfl, iteY (sdecT _) ?_⟩
        obtain ⟨dx2, rv2, hv3, k1, k2, k3, us2, k4, k5⟩ := id hco2
        obtain ⟨fvs, hf1, hf2⟩ := id hf
        have hfr : fl ≠ ro := fun z => by
          have := e1.dom _ hfl
          rw [z, hro] at this
          cases this
        have hfr : fl ≠ ro := fun z => by
          have h9 : H fl = none := e1.dom _ hfl
          rw [z, hro] at h9
          cases h9
        have hfc : fl ≠ c := ne_of hf1 k1 (fun z => nomatch z)
        have hac : a ≠ c := ne_of ha k1 (fun z => nomatch z)
        have har : a ≠ ro := ne_of ha k4 (fun z => nomatch z)
        have hrc2 : ro ≠ c := ne_of k4 k1 (fun z => nomatch z)
        have hl5 := k5.length
        have hlf := hf2.length
        have hmost : fs.length ≤ 1000 := Nat.le_trans (readT_ans hok ht).1 hn
        refine ⟨_, rfl, c, A.copy, dx2, _, _, rfl, k1, T.copy, T.cO, copyF_rows, _, rfl, a, _, _, _, rfl, rfl, SqT.of ha, rfl, ro, fl, us2, fvs, rfl, rfl, k4, hf1, smallS (by omega), dx2, copyF rv2 hv3 (.int (n : Int)) (.ref ro), by rw [upd_ne hrc2.symm]; exact k1, fewK (few (few (few (few few0)))) (by decide), ?_⟩
        rw [copyF_put]
        have x1 : Ext [ro] H2 (upd H2 ro (.lst (us2 ++ fvs))) := Ext.wrL k4 List.mem_cons_self
        have x2 : Ext [c] (upd H2 ro (.lst (us2 ++ fvs))) (upd (upd H2 ro (.lst (us2 ++ fvs))) c (.ins A.copy dx2 (copyF rv2 hv3 (.int (n : Int)) (.ref ro)))) := Ext.wr (by rw [upd_ne hrc2.symm]; exact k1) List.mem_cons_self copyF_imm (fun _ z => nomatch z)
        have x3 : Ext [c, ro, ca] H2 (upd (upd H2 ro (.lst (us2 ++ fvs))) c (.ins A.copy dx2 (copyF rv2 hv3 (.int (n : Int)) (.ref ro)))) := (x1.mono fun b hb => by rw [List.mem_singleton.mp hb]; simp).trans (x2.mono fun b hb => by rw [List.mem_singleton.mp hb]; simp)
        have y1 : ∀ b o, b ≠ ro → b ≠ c → H2 b = some o → (upd (upd H2 ro (.lst (us2 ++ fvs))) c (.ins A.copy dx2 (copyF rv2 hv3 (.int (n : Int)) (.ref ro)))) b = some o := fun b o h1 h2 h3 => by rw [upd_ne h2, upd_ne h1]; exact h3
        refine ⟨_, rfl, kY cc _ _ (e12'.trans x3) ⟨a, fl, rfl, y1 _ _ har hac ha, ⟨fvs, y1 _ _ hfr hfc hf1, hf2.imp fun _ _ => PrAt.ext x3⟩, e1.dom _ hfl⟩ ⟨dx2, rv2, hv3, upd_same, k2.ext x3, k3.ext x3, us2 ++ fvs, by rw [upd_ne hrc2, upd_same], (k5.imp fun _ _ => PrAt.ext x3).app (hf2.imp fun _ _ => PrAt.ext x3)⟩⟩
abbrev s_Copy_rows : Stmt := inClass (tp 45) 3
theorem sc_Copy_rows : FnScope ["self"] ["self"] (defScope s_Copy_rows) := ⟨rfl, rfl, rfl, by decide +kernel, rfl, by decide +kernel, by decide +kernel⟩
abbrev ps_Copy_rows : List Str := ["self"]
abbrev sl_Copy_rows : List Str := ["self"]
theorem ok_Copy_rows (F : FnP K "rows" "Copy.rows" s_Copy_rows f fd) (T : Txt K mg A) : FnOk P w K mg base CX0 1 f fd ps_Copy_rows (spRows A) := by
  refine F.ok sc_Copy_rows (fun vs H Q E h => ?_) (fun cdv A' outer s0 H vs Q E hr h => ?_)
  · obtain ⟨u, l, n, c, ro, tab, rfl, _⟩ := h
    rfl
  · obtain ⟨u, l, n, c, ro, tab, rfl, ⟨dx, rv, hv, hc, hru, hlk, us, hro, hA⟩, q⟩ := h
    refine ⟨_, PSs.nox (pss_one (ps_ret (pe_callTy call_list_of (by rfl) T.list (by decide +kernel) (pa_cons (pe_fld (pv 0) rfl) pa_nil)))), ?_⟩
    refine ⟨_, rfl, c, A.copy, dx, _, _, rfl, hc, T.copy, T.cO, copyF_rows, ro, us, rfl, .inl (SqL.of hro), fun p hp => ?_⟩
    have e1 : Ext [] H (upd H p (.lst us)) := Ext.new hp
    exact q _ p e1 hp ⟨us, upd_same, hA.imp fun _ _ => PrAt.ext e1⟩
abbrev s_Copy_is_whole : Stmt := inClass (tp 45) 4
theorem sc_Copy_is_whole : FnScope ["self"] ["self"] (defScope s_Copy_is_whole) := ⟨rfl, rfl, rfl, by decide +kernel, rfl, by decide +kernel, by decide +kernel⟩
abbrev ps_Copy_is_whole : List Str := ["self"]
abbrev sl_Copy_is_whole : List Str := ["self"]
theorem ok_Copy_is_whole (F : FnP K "is_whole" "Copy.is_whole" s_Copy_is_whole f fd) (T : Txt K mg A) (O_head_of : OkF P w K mg base CX0 48 "head_of" ps_head_of spHead) : FnOk P w K mg base CX0 49 f fd ps_Copy_is_whole (spWhole A) := by
  refine F.ok sc_Copy_is_whole (fun vs H Q E h => ?_) (fun cdv A' outer s0 H vs Q E hr h => ?_)
  · obtain ⟨u, l, n, c, ro, tab, rfl, _⟩ := h
    rfl
  · obtain ⟨u, l, n, c, ro, tab, rfl, ⟨dx, rv, hv, hc, hru, hlk, us, hro, hA⟩, hlax, hok, h40, q⟩ := h
    refine ⟨_, PSs.nox (pss_one (ps_ret (pe_and (pe_cmpR op_eq (pe_callB call_len_seq (by rfl) T.len PySem.boot_len (pa_cons (pe_fld (pv 0) rfl) pa_nil)) (pe_ix ix_tup (pe_fld (pv 0) rfl) pe_int (fun _ _ => rfl)) (nomark _)) (pe_one (pe_cmpR (op_eqD hr.units) (pe_f O_head_of (hr.mono (by decide)) pass0 (pa_cons (pe_fld (pv 0) rfl) (pa_cons (pe_fld (pv 0) rfl) pa_nil))) (pe_fld (pv 0) rfl) (nomark _)))))), ?_⟩
    have hlen := hA.length
    obtain ⟨la, lb, rfl, hl1, hl2⟩ := id hlk
    refine ⟨_, rfl, c, A.copy, dx, _, _, rfl, hc, T.copy, T.cO, copyF_rows, ro, _, rfl, .inl (SqL.of hro), _, rfl, c, A.copy, dx, _, _, rfl, hc, T.copy, T.cH, copyF_head, la, _, _, _, rfl, rfl, SqT.of hl1, rfl, rfl, _, rfl, iteD (fun cc => ?_) fun cc => ?_⟩
    · have cc' : (tab.length : Int) = l.c := by rw [← hlen]; exact V.int.inj cc
      refine ⟨_, rfl, c, A.copy, dx, _, _, rfl, hc, T.copy, T.cR, copyF_rule, _, rfl, c, A.copy, dx, _, _, rfl, hc, T.copy, T.cO, copyF_rows, rv, u, ro, tab, rfl, hru, ⟨us, hro, hA⟩, hlax, hok, h40, fun H1 v e1 hv1 => ?_⟩
      refine ⟨_, rfl, c, A.copy, dx, _, _, rfl, e1.ins hc (by simp), T.copy, T.cH, copyF_head, _, _, hv1.dp, (hlk.ext e1).dp, dxL.shaped trivial, dxL.shaped trivial, ?_⟩
      rw [dxL.eqv]
      have e : decide ((tr tab).lk u = l) = decide ((tab.length : Int) = l.c ∧ (tr tab).lk u = l) := decide_eq_decide.mpr ⟨fun z => ⟨cc', z⟩, And.right⟩
      rw [e]
      exact q _ e1
    · have cc' : ¬ (tab.length : Int) = l.c := fun z => cc (by rw [hlen, z])
      have e : false = decide ((tab.length : Int) = l.c ∧ (tr tab).lk u = l) := (decide_eq_false fun z => cc' z.1).symm
      rw [e]
      exact q _ (Ext.refl _ _)
end
end RR
end
section
set_option Elab.async false
set_option linter.all false
set_option maxRecDepth 100000
set_option maxHeartbeats 4000000
/-! t[a:b] of a tuple, the whole of it (then it is t itself) or not. -/
namespace RR
open PySem PySem.Spec PyProof.Rows L2
section
variable {prog : Program} {w : World} {A : Around} {E : Value → Shared → Prop} {s : Shared}
theorem getItem_tup_whole {t sl : Addr} {items : Array Value} {vl vu : Value} {lo hi : Option Int} {Q : Value → Shared → Prop} (ht : IsTup s.heap t items) (hs : s.heap.IsSliceOf sl vl vu .none) (pl : IsPart vl lo) (pu : IsPart vu hi)
    (hw : HT.sIx items.size 0 lo = 0 ∧ HT.sIx items.size items.size hi = items.size)
    (h : Q (.ref t) s) : wpAny (model prog w) A (getItem (.ref t) (.ref sl)) Q E s := by
  obtain ⟨os, hos, hcs, hds⟩ := id hs
  have hTs : s.TypeIs (.ref sl) "slice" := ⟨os, hos, hcs⟩
  unfold getItem
  try with_reducible refine wpAny_holding ?_
  first | refine wpAny_bind (wpAny_pure ?_) | skip
  refine wpAny_bind (wpAny_sequenceKey ht.typeIs (by decide) ?_)
  refine wpAny_bind (wpAny_callSpecial?_slot (name := Str.ofString "__getitem__") ht.typeIs PyProof.Rows.slot_tuple_getitem
    (wpAny_call_entry PyProof.Rows.slot_tuple_getitem ht.typeIs entry_tuple_getitem ?_ (args_tuple_getitem _ _)))
  show wpAny _ _ (Builtin.Tuple.tupleItemsOf (.ref t) >>= _) _ _ s
  refine wpAny_bind (tupleItemsOf_ ht ?_)
  refine wpAny_bind (wpAny_typeOf hTs ?_)
  rw [if_pos (by decide)]
  refine wpAny_bind (HT.sliceApplied_gen hs pl pu ?_)
  have hyes : ((((HT.sIx items.size 0 lo : Nat) : Int) == 0 && (1 : Int) == 1 && (HT.sIx items.size items.size hi - HT.sIx items.size 0 lo) == items.size) = true) := by
    rw [hw.1, hw.2]
    simp
  show wpAny _ _ (if (((HT.sIx items.size 0 lo : Nat) : Int) == 0 && (1 : Int) == 1 && (HT.sIx items.size items.size hi - HT.sIx items.size 0 lo) == items.size) = true then _ else _) _ _ s
  rw [if_pos hyes]
  refine wpAny_bind ?_
  show wpAny _ _ (typeOf (.ref t) >>= _) _ _ s
  refine wpAny_bind (wpAny_typeOf ht.typeIs ?_)
  refine wpAny_pure ?_
  rw [if_pos (by decide)]
  refine wpAny_bind (wpAny_rule ?_)
  exact wpAny_pure ⟨_, rfl, wpAny_pure h⟩
end
def rSlTW (K : PySem.W.Frag) : V → Option Int → Option Int → Hp → VK → Prop := fun x lo hi H Q => ∃ a xs, x = .ref a ∧ SqT K H a xs ∧
  ((HT.sIx xs.length 0 lo = 0 ∧ HT.sIx xs.length xs.length hi = xs.length) → Q (.ref a) H) ∧
  (¬ (HT.sIx xs.length 0 lo = 0 ∧ HT.sIx xs.length xs.length hi = xs.length) → ∀ p, H p = none → Q (.ref p) (upd H p (.tup (cutV xs lo hi))))
theorem sl_tupW {X : Cx} : SlR X (rSlTW X.K) := by
  intro pins s σ H x v vl vu lo hi sl Q I rx hs pl pu h
  obtain ⟨a, xs, rfl, hx, q1, q2⟩ := h
  by_cases hw : HT.sIx xs.length 0 lo = 0 ∧ HT.sIx xs.length xs.length hi = xs.length
  · cases rx
    obtain ⟨its, r, ht, hz⟩ := I.tuple hx
    have hlen : its.toArray.size = xs.length := by rw [List.size_toArray]; exact r.length.symm
    refine ⟨"tuple", _, PyProof.Rows.slot_tuple_getitem.lookup, ht.typeIs, ?_⟩
    exact getItem_tup_whole ht hs pl pu (by rw [hlen]; exact hw) ⟨.ref a, H, I, rfl, q1 hw⟩
  · exact sl_tup pins s σ H (.ref a) v vl vu lo hi sl Q I rx hs pl pu ⟨a, xs, rfl, hx, hw, q2 hw⟩
end RR
end
section
set_option Elab.async false
set_option linter.all false
set_option maxRecDepth 100000
set_option maxHeartbeats 4000000
/-! What the law draws. -/
namespace RR
open PySem PySem.Spec PyProof.Rows L2
/-- a statement, then the rest, met at Pv -/
def tCut (t u : TS) : TS := fun D σ H => ∃ Pv : L2.St → Hp → Prop, t { D with nx := Pv } σ H ∧ ∀ σ' H', Pv σ' H' → u D σ' H'
theorem pss_cut {X : Cx} {st : Stmt} {rest : List Stmt} {t u : TS} (h1 : PS X st t) (h2 : PSs X rest u) : PSs X (st :: rest) (tCut t u) := by
  refine ⟨fun pins s σ H D I ⟨Pv, h, hu⟩ => ?_⟩
  refine wpAny_execs_cons (thn (h1.run pins s σ H { D with nx := Pv } I h) fun f s1 q => ?_)
  cases f with
  | next =>
    obtain ⟨σ', H', I', q⟩ := q
    exact h2.run pins s1 σ' H' D I' (hu _ _ q)
  | ret v => exact q
  | brk => exact q
  | cont => exact q
/-- the law's state at a, the script's copy at b -/
def StAt (H : Hp) (a b : Addr) : Prop := ∃ (s0 : Int) (pos : Nat) (s3 : Int) (ns : List Int), H a = some (.lst [.int s0, .int (pos : Int), .ref b, .int s3]) ∧ H b = some (.lst (ns.map V.int))
theorem StAt.ext {S : List Addr} {H H' : Hp} {a b : Addr} (e : Ext S H H') (ha : a ∉ S) (hb : b ∉ S) : StAt H a b → StAt H' a b := fun ⟨s0, p, s3, ns, h1, h2⟩ => ⟨s0, p, s3, ns, e.lst h1 ha, e.lst h2 hb⟩
theorem StAt.ext0 {H H' : Hp} {a b : Addr} (e : Ext [] H H') (h : StAt H a b) : StAt H' a b := h.ext e (fun z => nomatch z) (fun z => nomatch z)
def spDraw : Sp := fun vs H Q _ => ∃ (a b : Addr) (lim : Int), vs = [.ref a, .int lim] ∧ 0 < lim ∧ lim ≤ 1000000000000000000 ∧ StAt H a b ∧ ∀ (H' : Hp) (d : Nat), (d : Int) < lim → Ext [a] H H' → StAt H' a b → Q (.int (d : Int)) H'
theorem st_ne {H : Hp} {a b : Addr} (h : StAt H a b) : b ≠ a := by
  obtain ⟨s0, p, s3, ns, h1, h2⟩ := h
  intro z
  rw [z, h1] at h2
  have h3 : [V.int s0, .int (p : Int), .ref b, .int s3] = ns.map V.int := by
    have := Option.some.inj h2
    injection this
  match ns, h3 with
  | [], h3 => cases h3
  | [_], h3 => cases h3
  | [_, _], h3 => cases h3
  | _ :: _ :: x :: _, h3 =>
    simp only [List.map_cons, List.cons.injEq] at h3
    exact nomatch h3.2.2.1
section
variable {P : Program} {w : World} {K : PySem.W.Frag} {mg : Str → Option Value} {base : Heap} {A : Ad} {f : Addr} {fd : FuncData}
abbrev s__law_draw : Stmt := tp 47
theorem sc__law_draw : FnScope ["_law_state", "_law_limit", "_law_position", "_law_cell_here", "_law_mixed", "_law_digit"] ["_law_state", "_law_limit"] (defScope s__law_draw) := ⟨rfl, rfl, rfl, by decide +kernel, rfl, by decide +kernel, by decide +kernel⟩
abbrev ps__law_draw : List Str := ["_law_state", "_law_limit"]
abbrev sl__law_draw : List Str := ["_law_state", "_law_limit", "_law_position", "_law_cell_here", "_law_mixed", "_law_digit"]
theorem ok__law_draw (F : FnP K "_law_draw" "_law_draw" s__law_draw f fd) (T : Txt K mg A) : FnOk P w K mg base CX0 1 f fd ps__law_draw spDraw := by
  refine F.ok sc__law_draw (fun vs H Q E h => ?_) (fun cdv A' outer s0 H vs Q E hr h => ?_)
  · obtain ⟨a, b, lim, rfl, _⟩ := h
    rfl
  · obtain ⟨a, b, lim, rfl, hl0, hl1, hst, q⟩ := h
    have hba := st_ne hst
    obtain ⟨z0, pos, z3, ns, ha, hb⟩ := id hst
    refine ⟨_, PSs.nox (pss_cut (ps_if (pt_cmpR op_lt (pe_ix ix_list (pv 0) pe_int (fun _ _ => rfl)) (pv 1) (nomark _))
          (pss_cons (ps_set (i := 2) sc__law_draw.nd rfl (Or.inl rfl) (pe_ix ix_list (pv 0) pe_int (fun _ _ => rfl)))
          (pss_cons (ps_asg (pe_op op_add (pv 2) pe_int) (pg_sub (pv 0) pe_int set_list))
          (pss_cons (ps_set (i := 3) sc__law_draw.nd rfl (Or.inl rfl) pe_int)
          (pss_cut (ps_if (pt_cmpR op_lt (pv 2) (pe_callB call_len_seq (by rfl) T.len PySem.boot_len (pa_cons (pe_ix ix_list (pv 0) pe_int (fun _ _ => rfl)) pa_nil)) (nomark _))
            (pss_one (ps_set (i := 3) sc__law_draw.nd rfl (Or.inl rfl) (pe_ix ix_list (pe_ix ix_list (pv 0) pe_int (fun _ _ => rfl)) (pv 2) (fun _ _ => rfl))))
            (pss_nil))
          (pss_one (ps_if (pt_cmpR op_ge (pv 3) (pe_op op_pow pe_int pe_int) (nomark _))
            (pss_one (ps_asg (pv 3) (pg_sub (pv 0) pe_int set_list)))
            (pss_cons (ps_asg (pe_op op_mod (pe_callTy call_int1 (by rfl) T.int (by decide +kernel) (pa_cons (pe_op op_mul (pe_op op_add (pe_op op_add (pe_op op_add (pe_ix ix_list (pv 0) pe_int (fun _ _ => rfl)) (pe_op op_mod (pe_callTy call_int1 (by rfl) T.int (by decide +kernel) (pa_cons (pv 3) pa_nil)) pe_int)) (pv 2)) pe_int) pe_int) pa_nil)) pe_int) (pg_sub (pv 0) pe_int set_list))
            (pss_cons (ps_set (i := 4) sc__law_draw.nd rfl (Or.inl rfl) (pe_op op_mod (pe_callTy call_int1 (by rfl) T.int (by decide +kernel) (pa_cons (pe_op op_add (pe_op op_mul (pe_ix ix_list (pv 0) pe_int (fun _ _ => rfl)) pe_int) pe_int) pa_nil)) pe_int))
            (pss_one (ps_asg (pe_op op_add (pe_op op_mul (pv 4) pe_int) (pe_op op_mod (pe_callTy call_int1 (by rfl) T.int (by decide +kernel) (pa_cons (pe_op op_add (pe_op op_mul (pv 4) pe_int) (pe_ix ix_list (pv 0) pe_int (fun _ _ => rfl))) pa_nil)) pe_int)) (pg_sub (pv 0) pe_int set_list)))))))))))
          (pss_nil))
        (pss_cons (ps_set (i := 5) sc__law_draw.nd rfl (Or.inl rfl) (pe_op op_mod (pe_callTy call_int1 (by rfl) T.int (by decide +kernel) (pa_cons (pe_ix ix_list (pv 0) pe_int (fun _ _ => rfl)) pa_nil)) (pv 1)))
        (pss_cons (ps_asg (pe_op op_fdivW (pe_ix ix_list (pv 0) pe_int (fun _ _ => rfl)) (pv 1)) (pg_sub (pv 0) pe_int set_list))
        (pss_one (ps_ret (pv 5)))))), ?_⟩
    refine ⟨fun σ H1 => (∃ y2 y3 y4, σ = [some (.ref a), some (.int lim), y2, y3, y4, none]) ∧ Ext [a] H H1 ∧ StAt H1 a b, ?_, ?_⟩
    · refine ⟨_, rfl, a, _, _, _, rfl, rfl, SqL.of ha, rfl, _, rfl, _, _, rfl, rfl, _, rfl, iteD (fun c => ?_) fun c => ?_⟩
      · refine ⟨_, rfl, a, _, _, _, rfl, rfl, SqL.of ha, rfl, ?_⟩
        refine ⟨_, rfl, _, _, rfl, rfl, _, rfl, a, _, _, 1, rfl, rfl, ha, rfl, ?_⟩
        have e1 : Ext [a] H (upd H a (.lst ([V.int z0, .int (pos : Int), .ref b, .int z3].set 1 (.int ((pos : Int) + 1))))) := Ext.wrL ha List.mem_cons_self
        have ha1 : (upd H a (.lst ([V.int z0, .int (pos : Int), .ref b, .int z3].set 1 (.int ((pos : Int) + 1))))) a = some (.lst [.int z0, .int ((pos : Int) + 1), .ref b, .int z3]) := upd_same
        generalize (upd H a (.lst ([V.int z0, .int (pos : Int), .ref b, .int z3].set 1 (.int ((pos : Int) + 1))))) = H1 at e1 ha1 ⊢
        have hb1 := e1.lst hb (by simpa using hba)
        refine ⟨fun σ H2 => ∃ c : Int, σ = [some (.ref a), some (.int lim), some (.int (pos : Int)), some (.int c), none, none] ∧ H2 = H1, ?_, ?_⟩
        · refine ⟨_, rfl, _, rfl, a, _, _, _, rfl, rfl, SqL.of ha1, rfl, b, _, rfl, .inl (SqL.of hb1), _, _, rfl, rfl, _, rfl, iteD (fun c2 => ?_) fun c2 => ?_⟩
          · rw [List.length_map] at c2
            have hp : pos < ns.length := by omega
            exact ⟨_, rfl, a, _, _, _, rfl, rfl, SqL.of ha1, rfl, _, rfl, b, _, _, V.int ns[pos], rfl, rfl, SqL.of hb1, atI_nat (by rw [List.getElem?_map, List.getElem?_eq_getElem hp]; rfl), ns[pos], rfl, rfl⟩
          · exact ⟨0, rfl, rfl⟩
        · rintro σ H2 ⟨cc, rfl, rfl⟩
          have hfin : ∀ (H3 : Hp) (x0 x3 : Int) (y2 y3 y4 : Option V), Ext [a] H2 H3 → H3 a = some (.lst [.int x0, .int ((pos : Int) + 1), .ref b, .int x3]) →
              (∃ y2' y3' y4', [some (V.ref a), some (.int lim), y2, y3, y4, none] = [some (V.ref a), some (.int lim), y2', y3', y4', none]) ∧ Ext [a] H H3 ∧ StAt H3 a b := by
            intro H3 x0 x3 y2 y3 y4 e3 h3
            refine ⟨⟨y2, y3, y4, rfl⟩, e1.trans e3, x0, pos + 1, x3, ns, ?_, e3.lst hb1 (by simpa using hba)⟩
            rw [h3, nat1]
          refine ⟨_, rfl, _, _, rfl, rfl, ⟨by decide, by decide, by decide⟩, _, _, rfl, rfl, _, rfl, iteB (fun c3 => ?_) fun c3 => ?_⟩
          · exact ⟨_, rfl, _, rfl, a, _, _, 0, rfl, rfl, ha1, rfl, hfin _ cc z3 _ _ _ (Ext.wrL ha1 List.mem_cons_self) upd_same⟩
          · refine ⟨_, rfl, a, _, _, _, rfl, rfl, SqL.of ha1, rfl, _, rfl, .inl ⟨_, rfl, _, _, rfl, rfl, (by show (0 : Int) < 2147483629; decide), _, _, rfl, rfl, _, rfl, _, _, rfl, rfl, _, _, rfl, rfl, _, _, rfl, rfl, .inr (by decide), .inl ⟨_, rfl, _, _, rfl, rfl, (by show (0 : Int) < 2147483647; decide), _, rfl, a, _, _, 3, rfl, rfl, ha1, rfl, ?_⟩⟩⟩
            have e4 : Ext [a] H2 (upd H2 a (.lst [.int z0, .int ((pos : Int) + 1), .ref b, .int (((z3 + cc % 2147483629 + (pos : Int) + 1) * 48271) % 2147483647)])) := Ext.wrL ha1 List.mem_cons_self
            have ha4 : (upd H2 a (.lst [.int z0, .int ((pos : Int) + 1), .ref b, .int (((z3 + cc % 2147483629 + (pos : Int) + 1) * 48271) % 2147483647)])) a = some (.lst [.int z0, .int ((pos : Int) + 1), .ref b, .int (((z3 + cc % 2147483629 + (pos : Int) + 1) * 48271) % 2147483647)]) := upd_same
            refine ⟨_, rfl, a, _, _, _, rfl, rfl, SqL.of ha4, rfl, _, _, rfl, rfl, .inr (by decide), _, _, rfl, rfl, .inl ⟨_, rfl, _, _, rfl, rfl, (by show (0 : Int) < 2147483629; decide), ?_⟩⟩
            refine ⟨_, rfl, _, _, rfl, rfl, .inr (by decide), _, rfl, _, _, rfl, rfl, .inr (by decide), _, rfl, a, _, _, _, rfl, rfl, SqL.of ha4, rfl, _, _, rfl, rfl, .inl ⟨_, rfl, _, _, rfl, rfl, (by show (0 : Int) < 2147483587; decide), _, _, rfl, rfl, _, rfl, a, _, _, 0, rfl, rfl, ha4, rfl, ?_⟩⟩
            exact hfin _ _ _ _ _ _ (e4.trans (Ext.wrL ha4 List.mem_cons_self)) upd_same
      · exact ⟨⟨none, none, none, rfl⟩, Ext.refl _ _, hst⟩
    · rintro σ H1 ⟨⟨y2, y3, y4, rfl⟩, e1, w0, pos1, w3, ns1, h1, h2⟩
      refine ⟨_, rfl, a, _, _, _, rfl, rfl, SqL.of h1, rfl, .inl ⟨_, rfl, _, rfl, _, _, rfl, rfl, hl0, ?_⟩⟩
      refine ⟨_, rfl, a, _, _, _, rfl, rfl, SqL.of h1, rfl, _, rfl, _, _, rfl, rfl, wide_div hl0 (b := 64) (by omega) (by decide) (by decide), _, rfl, a, _, _, 0, rfl, rfl, h1, rfl, ?_⟩
      refine ⟨_, rfl, ?_⟩
      obtain ⟨d, hd⟩ : ∃ d : Nat, w0 % lim = (d : Int) := ⟨(w0 % lim).toNat, (Int.toNat_of_nonneg (Int.emod_nonneg _ (by omega))).symm⟩
      have hdl : (d : Int) < lim := by rw [← hd]; exact Int.emod_lt_of_pos _ hl0
      show Q (.int (w0 % lim)) _
      rw [hd]
      refine q _ d hdl (e1.trans (Ext.wrL h1 List.mem_cons_self)) ⟨_, pos1, w3, ns1, upd_same, by rw [upd_ne hba]; exact h2⟩
def spRule : Sp := fun vs H Q _ => ∃ a b, vs = [.ref a] ∧ StAt H a b ∧ ∀ (H' : Hp) v u, Ext [a] H H' → StAt H' a b → RuAt H' v u → Q v H'
def spLKey : Sp := fun vs H Q _ => ∃ a b, vs = [.ref a] ∧ StAt H a b ∧ ∀ (H' : Hp) k, Ext [a] H H' → StAt H' a b → KeyOk k → Q (.str k) H'
def spLRow : Sp := fun vs H Q _ => ∃ a b, vs = [.ref a] ∧ StAt H a b ∧ ∀ (H' : Hp) v r, Ext [a] H H' → StAt H' a b → RowAt H' v r → RowOk r → Q v H'
theorem ru_mk {H : Hp} {a b : Addr} (hst : StAt H a b) {p : Addr} (hp : H p = none) {x y : Int} (hx : 1 ≤ x ∧ x ≤ 1000000000000000000) (hy : 2 ≤ y ∧ y ≤ 1000000000000000000) : Ext [a] H (upd H p (.tup [.int x, .int y])) ∧ StAt (upd H p (.tup [.int x, .int y])) a b ∧ ∃ u, RuAt (upd H p (.tup [.int x, .int y])) (.ref p) u :=
  ⟨(Ext.new (S := []) hp).of, hst.ext0 (Ext.new hp), ⟨x, y, hx, hy⟩, p, rfl, upd_same⟩
abbrev s__law_rule : Stmt := tp 48
theorem sc__law_rule : FnScope ["_law_state", "_law_choice"] ["_law_state"] (defScope s__law_rule) := ⟨rfl, rfl, rfl, by decide +kernel, rfl, by decide +kernel, by decide +kernel⟩
abbrev ps__law_rule : List Str := ["_law_state"]
abbrev sl__law_rule : List Str := ["_law_state", "_law_choice"]
theorem ok__law_rule (F : FnP K "_law_rule" "_law_rule" s__law_rule f fd) (T : Txt K mg A) (O__law_draw : OkF P w K mg base CX0 1 "_law_draw" ps__law_draw spDraw) : FnOk P w K mg base CX0 2 f fd ps__law_rule spRule := by
  refine F.ok sc__law_rule (fun vs H Q E h => ?_) (fun cdv A' outer s0 H vs Q E hr h => ?_)
  · obtain ⟨a, b, rfl, _⟩ := h
    rfl
  · obtain ⟨a, b, rfl, hst, q⟩ := h
    refine ⟨_, PSs.nox (pss_cons (ps_set (i := 1) sc__law_rule.nd rfl (Or.inl rfl) (pe_f O__law_draw (hr.mono (by decide)) pass0 (pa_cons (pv 0) (pa_cons pe_int pa_nil))))
        (pss_cons (ps_if (pt_cmpR op_eq (pv 1) pe_int (nomark _))
          (pss_one (ps_ret (pe_tup (pa_cons (pe_op op_add pe_int (pe_f O__law_draw (hr.mono (by decide)) pass0 (pa_cons (pv 0) (pa_cons pe_int pa_nil)))) (pa_cons (pe_op op_add pe_int (pe_f O__law_draw (hr.mono (by decide)) pass0 (pa_cons (pv 0) (pa_cons pe_int pa_nil)))) pa_nil)))))
          (pss_nil))
        (pss_cons (ps_if (pt_cmpR op_eq (pv 1) pe_int (nomark _))
          (pss_one (ps_ret (pe_tup (pa_cons (pe_op op_add pe_int (pe_f O__law_draw (hr.mono (by decide)) pass0 (pa_cons (pv 0) (pa_cons pe_int pa_nil)))) (pa_cons (pe_op op_add pe_int (pe_f O__law_draw (hr.mono (by decide)) pass0 (pa_cons (pv 0) (pa_cons pe_int pa_nil)))) pa_nil)))))
          (pss_nil))
        (pss_one (ps_ret (pe_tup (pa_cons (pe_op op_add pe_int (pe_f O__law_draw (hr.mono (by decide)) pass0 (pa_cons (pv 0) (pa_cons (pe_op op_pow pe_int pe_int) pa_nil)))) (pa_cons (pe_op op_add pe_int (pe_f O__law_draw (hr.mono (by decide)) pass0 (pa_cons (pv 0) (pa_cons (pe_op op_sub (pe_op op_pow pe_int pe_int) pe_int) pa_nil)))) pa_nil)))))))), ?_⟩
    refine ⟨_, rfl, a, b, _, rfl, by decide, by decide, hst, fun H1 c hc e1 st1 => ?_⟩
    have two : ∀ (H4 H5 H6 : Hp) (x y : Nat), Ext [a] H1 H4 → Ext [a] H4 H5 → StAt H5 a b → (x : Int) < 1000000000000000000 → (y : Int) < 999999999999999999 → ([V.int (1 + (x : Int)), V.int (2 + (y : Int))]).length ≤ sizeLine ∧ ∀ p, H5 p = none → Q (.ref p) (upd H5 p (.tup [.int (1 + (x : Int)), .int (2 + (y : Int))])) := by
      intro H4 H5 H6 x y e4 e5 st5 hx hy
      refine ⟨(by show 2 ≤ sizeLine; decide), fun p hp => ?_⟩
      obtain ⟨e6, st6, u, hu⟩ := ru_mk st5 hp (x := 1 + (x : Int)) (y := 2 + (y : Int)) ⟨by omega, by omega⟩ ⟨by omega, by omega⟩
      exact q _ _ u (((e1.trans e4).trans e5).trans e6) st6 hu
    refine ⟨_, rfl, rfl, _, rfl, iteB (fun _ => ?_) fun _ => ?_⟩
    · refine ⟨_, rfl, a, b, _, rfl, by decide, by decide, st1, fun H2 x hx e2 st2 => ⟨_, _, rfl, rfl, _, rfl, a, b, _, rfl, by decide, by decide, st2, fun H3 y hy e3 st3 => ⟨_, _, rfl, rfl, ?_⟩⟩⟩
      exact two H2 H3 H3 x y e2 e3 st3 (by omega) (by omega)
    · refine ⟨_, rfl, rfl, _, rfl, iteB (fun _ => ?_) fun _ => ?_⟩
      · refine ⟨_, rfl, a, b, _, rfl, by decide, by decide, st1, fun H2 x hx e2 st2 => ⟨_, _, rfl, rfl, _, rfl, a, b, _, rfl, by decide, by decide, st2, fun H3 y hy e3 st3 => ⟨_, _, rfl, rfl, ?_⟩⟩⟩
        exact two H2 H3 H3 x y e2 e3 st3 (by omega) (by omega)
      · refine ⟨_, rfl, _, _, rfl, rfl, ⟨by decide, by decide, by decide⟩, a, b, 1000000000000000000, rfl, by decide, by decide, st1, fun H2 x hx e2 st2 => ⟨_, _, rfl, rfl, _, rfl, _, _, rfl, rfl, ⟨by decide, by decide, by decide⟩, _, _, rfl, rfl, a, b, 999999999999999999, rfl, by decide, by decide, st2, fun H3 y hy e3 st3 => ⟨_, _, rfl, rfl, ?_⟩⟩⟩
        exact two H2 H3 H3 x y e2 e3 st3 hx hy
end
end RR
end
section
set_option Elab.async false
set_option linter.all false
set_option maxRecDepth 100000
set_option maxHeartbeats 4000000
/-! Keys, rows, tables. -/
namespace RR
open PySem PySem.Spec PyProof.Rows L2
def LtOk (k : Str) : Prop := ∀ c ∈ k.cps.toList, c ∈ lettersS.cps.toList
theorem lt_one {c : Nat} (h : c ∈ lettersS.cps.toList) : LtOk ⟨#[c]⟩ := fun d hd => by
  have : d = c := by simpa using hd
  rw [this]
  exact h
theorem lt_app {a b : Str} (ha : LtOk a) (hb : LtOk b) : LtOk (a ++ b) := fun c hc => by
  have : c ∈ (a.cps ++ b.cps).toList := hc
  rw [Array.toList_append, List.mem_append] at this
  exact this.elim (ha c) (hb c)
theorem pick_at {z : Str} (hz : (z.cps.toList.all fun c => decide (c ∈ lettersS.cps.toList)) = true) {d : Nat} (hd : d < z.cps.toList.length) : ∃ c, atI z.cps.toList (d : Int) = some c ∧ c ∈ lettersS.cps.toList :=
  ⟨_, atI_nat (List.getElem?_eq_getElem hd), of_decide_eq_true (List.all_eq_true.mp hz _ (List.getElem_mem hd))⟩
theorem pw_of : ∀ (l : List Str) (p : Str), risingS p l = true → (∀ q ∈ l, ¬ kb q p) ∧ l.Pairwise fun p q => ¬ kb q p
  | [], _, _ => ⟨(fun q h => by cases h), List.Pairwise.nil⟩
  | x :: r, p, h => by
    have h1 : (!ltCps x.cps.toList p.cps.toList && risingS x r) = true := h
    rw [Bool.and_eq_true] at h1
    obtain ⟨h2, h3⟩ := h1
    obtain ⟨i1, i2⟩ := pw_of r x h3
    have hx : ¬ kb x p := fun z => by
      rw [ltCps_eq, decide_eq_true (show x.cps.toList < p.cps.toList from z)] at h2
      cases h2
    refine ⟨fun q hq => ?_, List.pairwise_cons.mpr ⟨i1, i2⟩⟩
    rcases List.mem_cons.mp hq with rfl | hq
    · exact hx
    · intro z
      exact List.not_lt.mpr (List.le_trans (List.not_lt.mp hx) (List.not_lt.mp (i1 q hq))) z
theorem sorted_pw {l : List Str} (h : sortedS l = true) : l.Pairwise fun p q => ¬ kb q p := by
  cases l with
  | nil => exact List.Pairwise.nil
  | cons x r => exact List.pairwise_cons.mpr (pw_of r x h)
section
variable {P : Program} {w : World} {K : PySem.W.Frag} {mg : Str → Option Value} {base : Heap} {A : Ad} {f : Addr} {fd : FuncData}
abbrev s__law_key : Stmt := tp 52
theorem sc__law_key : FnScope ["_law_state", "_law_letters", "_law_choice", "_law_key_here", "_law_k"] ["_law_state"] (defScope s__law_key) := ⟨rfl, rfl, rfl, by decide +kernel, rfl, by decide +kernel, by decide +kernel⟩
abbrev ps__law_key : List Str := ["_law_state"]
abbrev sl__law_key : List Str := ["_law_state", "_law_letters", "_law_choice", "_law_key_here", "_law_k"]
theorem ok__law_key (F : FnP K "_law_key" "_law_key" s__law_key f fd) (T : Txt K mg A) (O__law_draw : OkF P w K mg base CX0 1 "_law_draw" ps__law_draw spDraw) : FnOk P w K mg base CX0 2 f fd ps__law_key spLKey := by
  refine F.ok sc__law_key (fun vs H Q E h => ?_) (fun cdv A' outer s0 H vs Q E hr h => ?_)
  · obtain ⟨a, b, rfl, _⟩ := h
    rfl
  · obtain ⟨a, b, rfl, hst, q⟩ := h
    refine ⟨_, PSs.nox (pss_cons (ps_set (i := 1) sc__law_key.nd rfl (Or.inl rfl) pe_str)
        (pss_cons (ps_set (i := 2) sc__law_key.nd rfl (Or.inl rfl) (pe_f O__law_draw (hr.mono (by decide)) pass0 (pa_cons (pv 0) (pa_cons pe_int pa_nil))))
        (pss_cons (ps_if (pt_cmpR op_eq (pv 2) pe_int (nomark _))
          (pss_one (ps_ret (pe_ix ix_str pe_str (pe_f O__law_draw (hr.mono (by decide)) pass0 (pa_cons (pv 0) (pa_cons pe_int pa_nil))) (fun _ _ => rfl))))
          (pss_nil))
        (pss_cons (ps_if (pt_cmpR op_eq (pv 2) pe_int (nomark _))
          (pss_one (ps_ret (pe_op op_add_str (pe_ix ix_str pe_str (pe_f O__law_draw (hr.mono (by decide)) pass0 (pa_cons (pv 0) (pa_cons pe_int pa_nil))) (fun _ _ => rfl)) (pe_ix ix_str pe_str (pe_f O__law_draw (hr.mono (by decide)) pass0 (pa_cons (pv 0) (pa_cons pe_int pa_nil))) (fun _ _ => rfl)))))
          (pss_nil))
        (pss_cons (ps_set (i := 3) sc__law_key.nd rfl (Or.inl rfl) pe_str)
        (pss_cons (ps_for PassesOwn.never rfl (pi_range1 (by rfl) T.range (pa_cons (pe_op op_add pe_int (pe_f O__law_draw (hr.mono (by decide)) pass0 (pa_cons (pv 0) (pa_cons pe_int pa_nil)))) pa_nil)) (pg_name (i := 4) sc__law_key.nd rfl (Or.inl rfl))
          (pss_one (ps_set (i := 3) sc__law_key.nd rfl (Or.inl rfl) (pe_op op_add_str (pv 3) (pe_ix ix_str (pv 1) (pe_f O__law_draw (hr.mono (by decide)) pass0 (pa_cons (pv 0) (pa_cons pe_int pa_nil))) (fun _ _ => rfl))))))
        (pss_one (ps_ret (pv 3))))))))), ?_⟩
    refine ⟨_, rfl, a, b, _, rfl, by decide, by decide, hst, fun H1 c hc e1 st1 => ?_⟩
    refine ⟨_, rfl, rfl, _, rfl, iteB (fun _ => ?_) fun _ => ?_⟩
    · refine ⟨_, rfl, a, b, _, rfl, by decide, by decide, st1, fun H2 x hx e2 st2 => ?_⟩
      obtain ⟨s, h1, h2⟩ := pick_at (z := "abcdefghij") (by decide +kernel) (d := x) (by show x < 10; omega)
      exact ⟨_, _, s, rfl, rfl, (by decide +kernel), h1, q _ _ (e1.trans e2) st2 ⟨(by show 1 ≤ 1; decide), (by show 1 ≤ 8; decide), lt_one h2⟩⟩
    · refine ⟨_, rfl, rfl, _, rfl, iteB (fun _ => ?_) fun _ => ?_⟩
      · refine ⟨_, rfl, a, b, _, rfl, by decide, by decide, st1, fun H2 x hx e2 st2 => ?_⟩
        obtain ⟨s, h1, h2⟩ := pick_at (z := "ab0z") (by decide +kernel) (d := x) (by show x < 4; omega)
        refine ⟨_, _, s, rfl, rfl, (by decide +kernel), h1, _, rfl, a, b, _, rfl, by decide, by decide, st2, fun H3 y hy e3 st3 => ?_⟩
        obtain ⟨s', h3, h4⟩ := pick_at (z := "ab9") (by decide +kernel) (d := y) (by show y < 3; omega)
        refine ⟨_, _, s', rfl, rfl, (by decide +kernel), h3, _, _, rfl, rfl, (by show 1 + 1 ≤ sizeLine; decide), q _ _ ((e1.trans e2).trans e3) st3 ⟨(by show 1 ≤ 2; decide), (by show 2 ≤ 8; decide), lt_app (lt_one h2) (lt_one h4)⟩⟩
      · refine ⟨_, rfl, a, b, _, rfl, by decide, by decide, st1, fun H2 n hn e2 st2 => ?_⟩
        refine ⟨_, _, rfl, rfl, _, rfl, by omega, by omega, ?_⟩
        have hcount : (1 + (n : Int)).toNat = n + 1 := by omega
        rw [hcount]
        refine for_range (lo := 0) (n := n + 1) (fun i σ H' => ∃ k z, σ = [some (.ref a), some (.str lettersS), some (.int (c : Int)), some (.str k), z] ∧ k.length = i ∧ LtOk k ∧ Ext [a] H H' ∧ StAt H' a b) ⟨"", none, rfl, by decide +kernel, (fun c h => by cases h), e1.trans e2, st2⟩ ?_ ?_
        · rintro i σ H3 hi ⟨k, z, rfl, hk, hlt, e3, st3⟩
          refine ⟨_, rfl, _, rfl, _, rfl, a, b, _, rfl, by decide, by decide, st3, fun H4 y hy e4 st4 => ?_⟩
          obtain ⟨s', h3, h4⟩ := pick_at (z := lettersS) (by decide +kernel) (d := y) (by show y < 36; omega)
          refine ⟨_, _, s', rfl, rfl, (by decide +kernel), h3, _, _, rfl, rfl, smallS (by show k.length + 1 ≤ 3000; omega), k ++ ⟨#[s']⟩, some (.int (0 + (i : Int))), rfl, ?_, lt_app hlt (lt_one h4), e3.trans e4, st4⟩
          rw [app_len, hk]
          rfl
        · rintro σ H3 ⟨k, z, rfl, hk, hlt, e3, st3⟩
          exact ⟨_, rfl, q _ _ e3 st3 ⟨by omega, by omega, hlt⟩⟩
abbrev s__law_row : Stmt := tp 53
theorem sc__law_row : FnScope ["_law_state", "_law_k"] ["_law_state"] (defScope s__law_row) := ⟨rfl, rfl, rfl, by decide +kernel, rfl, by decide +kernel, by decide +kernel⟩
abbrev ps__law_row : List Str := ["_law_state"]
abbrev sl__law_row : List Str := ["_law_state", "_law_k"]
theorem ok__law_row (F : FnP K "_law_row" "_law_row" s__law_row f fd) (T : Txt K mg A) (O__law_draw : OkF P w K mg base CX0 1 "_law_draw" ps__law_draw spDraw) : FnOk P w K mg base CX0 2 f fd ps__law_row spLRow := by
  refine F.ok sc__law_row (fun vs H Q E h => ?_) (fun cdv A' outer s0 H vs Q E hr h => ?_)
  · obtain ⟨a, b, rfl, _⟩ := h
    rfl
  · obtain ⟨a, b, rfl, hst, q⟩ := h
    refine ⟨_, PSs.nox (pss_one (ps_ret (pe_callTy call_tuple_of (by rfl) T.tuple (by decide +kernel) (pa_cons (pe_lc (own := [("_law_k", 1)]) (g := gName 1) rfl sc__law_row.nd (pi_range1 (by rfl) T.range (pa_cons (pe_op op_add pe_int (pe_f O__law_draw (hr.mono (by decide)) pass0 (pa_cons (pv 0) (pa_cons pe_int pa_nil)))) pa_nil)) (blkOk_by (own := [("_law_k", 1)]) (N := ["_law_state", "_law_k"]) (sc := defScope s__law_row) (by decide +kernel)) (fun _ _ _ _ _ => pg_name (i := 1) sc__law_row.nd rfl (Or.inl rfl)) (fun _ _ _ _ _ => pts_nil) (fun _ _ _ _ _ => (pe_f O__law_draw (hr.mono (by decide)) pass0 (pa_cons (pv 0) (pa_cons (pe_ix (ixL K) (pe_lst (pa_cons pe_int (pa_cons pe_int pa_nil))) (pe_f O__law_draw (hr.mono (by decide)) pass0 (pa_cons (pv 0) (pa_cons pe_int pa_nil))) (fun _ _ => rfl)) pa_nil))))) pa_nil)))), ?_⟩
    refine ⟨_, rfl, a, b, _, rfl, by decide, by decide, hst, fun H1 n hn e1 st1 => ?_⟩
    refine ⟨_, _, rfl, rfl, _, rfl, by omega, by omega, fun D hD => ?_⟩
    have hcount : (1 + (n : Int)).toNat = n + 1 := by omega
    rw [hcount]
    have hDa : D ≠ a := by
      obtain ⟨_, _, _, _, h, _⟩ := st1
      exact none_ne hD h
    have hbD : b ≠ D := by
      obtain ⟨_, _, _, ns', _, h8⟩ := st1
      exact fun z => none_ne hD h8 z.symm
    have e2 : Ext [] H1 (upd H1 D (.lst [])) := Ext.new hD
    refine lc_range (lo := 0) (n := n + 1) (fun i H' => Ext [a] H1 H' ∧ StAt H' a b ∧ ∃ ns : List Int, H' D = some (.lst (ns.map V.int)) ∧ ns.length = i ∧ ∀ z ∈ ns, 0 ≤ z ∧ z ≤ 65535) ⟨e2.of, st1.ext0 e2, [], upd_same, rfl, (fun z h => by cases h)⟩ ?_ ?_
    · rintro i H3 hi ⟨e3, st3, ns, h1, h2, h3⟩
      refine ⟨rfl, ?_⟩
      refine ⟨_, rfl, (by show 2 ≤ sizeLine; decide), fun p hp => ?_⟩
      have e4 : Ext [] H3 (upd H3 p (.lst [.int 4, .int 65536])) := Ext.new hp
      have hpa : p ≠ a := by
        obtain ⟨_, _, _, _, h, _⟩ := st3
        exact none_ne hp h
      refine ⟨_, rfl, a, b, _, rfl, by decide, by decide, st3.ext0 e4, fun H5 y hy e5 st5 => ?_⟩
      have hp5 := e5.lst (upd_same (H := H3) (a := p)) (by simpa using hpa)
      obtain ⟨lim, hlim, hl0, hl1⟩ : ∃ lim : Int, ([V.int 4, V.int 65536] : List V)[y]? = some (.int lim) ∧ 0 < lim ∧ lim ≤ 65536 := by
        match y, hy with
        | 0, _ => exact ⟨4, rfl, by decide, by decide⟩
        | 1, _ => exact ⟨65536, rfl, by decide, by decide⟩
        | n + 2, h => omega
      refine ⟨p, _, _, _, rfl, rfl, SqL.of hp5, atI_nat hlim, a, b, lim, rfl, hl0, by omega, st5, fun H6 d hd e6 st6 => ?_⟩
      have e36 : Ext [a] H3 H6 := (e4.of.trans e5).trans e6
      have h6 := e36.lst h1 (by simpa using hDa)
      have e7 : Ext [D] H6 (upd H6 D (.lst (ns.map V.int ++ [.int (d : Int)]))) := Ext.wrL h6 List.mem_cons_self
      refine ⟨_, h6, smallT (by rw [List.length_map]; omega), (e3.trans e36).then e7 (fun b hb => .inr (by rw [List.mem_singleton.mp hb]; exact hD)), st6.ext e7 (by simpa using hDa.symm) (by simpa using hbD), ns ++ [(d : Int)], by rw [upd_same, List.map_append]; rfl, by rw [List.length_append, h2]; rfl, fun z hz => ?_⟩
      · rcases List.mem_append.mp hz with z1 | z1
        · exact h3 z z1
        · rw [List.mem_singleton.mp z1]
          omega
    · rintro H3 ⟨e3, st3, ns, h1, h2, h3⟩
      refine ⟨D, _, rfl, .inl ⟨SqL.of h1, fun p hp => ?_⟩⟩
      have e4 : Ext [] H3 (upd H3 p (.tup (ns.map V.int))) := Ext.new hp
      exact q _ _ ns ((e1.trans e3).trans e4.of) (st3.ext0 e4) ⟨p, rfl, upd_same⟩ ⟨by omega, by omega, h3⟩
end
end RR
end
section
set_option Elab.async false
set_option linter.all false
set_option maxRecDepth 100000
set_option maxHeartbeats 4000000
/-! Tables, answers. -/
namespace RR
open PySem PySem.Spec PyProof.Rows L2
/-- a dict of keys and rows -/
structure KvOk (H : Hp) (kvs : List (L2.Key × V)) : Prop where
  nd : (kvs.map (·.1)).Nodup
  ok : ∀ p ∈ kvs, ∃ k r, p.1 = Sum.inr k ∧ KeyOk k ∧ RowAt H p.2 r ∧ RowOk r
theorem KvOk.ext {S : List Addr} {H H' : Hp} (e : Ext S H H') {kvs : List (L2.Key × V)} (h : KvOk H kvs) : KvOk H' kvs := ⟨h.nd, fun p hp => by
  obtain ⟨k, r, h1, h2, h3, h4⟩ := h.ok p hp
  exact ⟨k, r, h1, h2, h3.ext e, h4⟩⟩
theorem KvOk.put {H : Hp} {kvs : List (L2.Key × V)} (h : KvOk H kvs) {k : Str} {v : V} {r : List Int} (hk : KeyOk k) (hv : RowAt H v r) (hr : RowOk r) : KvOk H (putK kvs (Sum.inr k) v) := by
  by_cases c : (kvs.any fun kv => decide (kv.1 = Sum.inr k)) = true
  · unfold putK
    rw [if_pos c]
    refine ⟨?_, fun p hp => ?_⟩
    · have e : (kvs.map fun kv => if kv.1 = (Sum.inr k : L2.Key) then (kv.1, v) else kv).map (·.1) = kvs.map (·.1) := by
        rw [List.map_map]
        refine List.map_congr_left fun p _ => ?_
        show (if p.1 = Sum.inr k then (p.1, v) else p).1 = p.1
        split <;> rfl
      rw [e]
      exact h.nd
    · obtain ⟨p0, hp0, rfl⟩ := List.mem_map.mp hp
      by_cases z : p0.1 = Sum.inr k
      · simp only [if_pos z]
        exact ⟨k, r, z, hk, hv, hr⟩
      · simp only [if_neg z]
        exact h.ok p0 hp0
  · have hn : valV kvs (Sum.inr k) = none := by
      rw [valV_any] at c
      cases q : valV kvs (Sum.inr k) with
      | none => rfl
      | some v => rw [q] at c; exact absurd rfl c
    refine ⟨nd_putK v h.nd hn, fun p hp => ?_⟩
    rw [putK_new v hn] at hp
    rcases List.mem_append.mp hp with z | z
    · exact h.ok p z
    · rw [List.mem_singleton.mp z]
      exact ⟨k, r, rfl, hk, hv, hr⟩
def strK : L2.Key → Str
  | .inr k => k
  | .inl _ => ""
theorem KvOk.keys {H : Hp} {kvs : List (L2.Key × V)} (h : KvOk H kvs) : kvs.map (·.1) = (kvs.map fun p => strK p.1).map Sum.inr := by
  rw [List.map_map]
  refine List.map_congr_left fun p hp => ?_
  obtain ⟨k, r, e, _⟩ := h.ok p hp
  show p.1 = Sum.inr (strK p.1)
  rw [e]
  rfl
theorem KvOk.get {H : Hp} {kvs : List (L2.Key × V)} (h : KvOk H kvs) {k : Str} (hk : k ∈ kvs.map fun p => strK p.1) : ∃ v r, valV kvs (Sum.inr k) = some v ∧ KeyOk k ∧ RowAt H v r ∧ RowOk r := by
  obtain ⟨p, hp, rfl⟩ := List.mem_map.mp hk
  obtain ⟨k, r, e, h2, h3, h4⟩ := h.ok p hp
  have e2 : strK p.1 = k := by rw [e]; rfl
  rw [e2]
  have hany : (kvs.any fun kv => decide (kv.1 = (Sum.inr k : L2.Key))) = true := List.any_eq_true.mpr ⟨p, hp, decide_eq_true e⟩
  rw [valV_any] at hany
  obtain ⟨v, hv⟩ := Option.isSome_iff_exists.mp hany
  unfold valV at hv ⊢
  obtain ⟨p', hp', rfl⟩ := Option.map_eq_some_iff.mp hv
  have hm := List.mem_of_find?_eq_some hp'
  obtain ⟨k', r', e', g2, g3, g4⟩ := h.ok p' hm
  exact ⟨_, r', hv, h2, g3, g4⟩
theorem up_of {t : Tab} (h : (t.map (·.1)).Pairwise fun p q => ¬ kb q p) (hn : (t.map (·.1)).Nodup) : Up t := by
  have h2 : (t.map (·.1)).Pairwise fun p q => kb p q := by
    refine List.Pairwise.imp₂ (R := fun p q => ¬ kb q p) (S := fun p q => p ≠ q) (fun p q h1 h2 => ?_) h hn
    by_cases c : kb p q
    · exact c
    · exact absurd (kb_tri c h1) h2
  exact List.pairwise_map.mp h2
def spTable : Sp := fun vs H Q _ => ∃ a b, vs = [.ref a, .int 12] ∧ StAt H a b ∧ ∀ (H' : Hp) p tab, Ext [a] H H' → StAt H' a b → H p = none → LsAt PrAt H' p tab → Up tab → TabOk tab → tab.length ≤ 12 → Q (.ref p) H'
def spLAns : Sp := fun vs H Q _ => ∃ t tab qv key most, vs = [.ref t, qv] ∧ LsAt PrAt H t tab ∧ tab.length ≤ 1000 ∧ QuAt H qv key ((most : Nat) : Int) ∧ ∀ (H' : Hp) p, Ext [] H H' → H p = none → LsAt PrAt H' p ((behind key tab).take most) → Q (.ref p) H'
def spAOf : Sp := fun vs H Q _ => ∃ v t, vs = [v] ∧ ToAt H v t ∧ ∀ (H' : Hp) p, Ext [] H H' → LsAt PrAt H' p t.more → Q (.ref p) H'
def spUp : Sp := fun vs H Q _ => ∃ t tab, vs = [.ref t] ∧ LsAt PrAt H t tab ∧ TabOk tab ∧ tab.length < 64 ∧ ∀ (H' : Hp) b, Ext [] H H' → (b = true → Lax tab) → Q (.bl b) H'
section
variable {P : Program} {w : World} {K : PySem.W.Frag} {mg : Str → Option Value} {base : Heap} {A : Ad} {f : Addr} {fd : FuncData}
abbrev s__law_answer_of : Stmt := tp 65
theorem sc__law_answer_of : FnScope ["_law_told"] ["_law_told"] (defScope s__law_answer_of) := ⟨rfl, rfl, rfl, by decide +kernel, rfl, by decide +kernel, by decide +kernel⟩
abbrev ps__law_answer_of : List Str := ["_law_told"]
abbrev sl__law_answer_of : List Str := ["_law_told"]
theorem ok__law_answer_of (F : FnP K "_law_answer_of" "_law_answer_of" s__law_answer_of f fd) (T : Txt K mg A) : FnOk P w K mg base CX0 1 f fd ps__law_answer_of spAOf := by
  refine F.ok sc__law_answer_of (fun vs H Q E h => ?_) (fun cdv A' outer s0 H vs Q E hr h => ?_)
  · obtain ⟨v, t, rfl, _⟩ := h
    rfl
  · obtain ⟨v, t, rfl, ht, q⟩ := h
    refine ⟨_, PSs.nox (pss_cons (ps_if (pt_cmpR op_eq (pe_ix ix_tup (pv 0) pe_int (fun _ _ => rfl)) pe_str (nomark _))
          (pss_one (ps_ret (pe_ix ix_tup (pv 0) pe_int (fun _ _ => rfl))))
          (pss_nil))
        (pss_one (ps_ret (pe_lst pa_nil)))), ?_⟩
    cases t with
    | ans f =>
      obtain ⟨a, l, rfl, ha, hl⟩ := ht
      refine ⟨_, rfl, a, _, _, _, rfl, rfl, SqT.of ha, rfl, rfl, _, rfl, iteY (sdecT _) ?_⟩
      exact ⟨_, rfl, a, _, _, _, rfl, rfl, SqT.of ha, rfl, q _ _ (Ext.refl _ _) hl⟩
    | ref wd n =>
      obtain ⟨a, rfl, ha⟩ := ht
      refine ⟨_, rfl, a, _, _, _, rfl, rfl, SqT.of ha, rfl, rfl, _, rfl, iteN (sdec (by decide +kernel)) ?_⟩
      exact ⟨Nat.zero_le _, fun p hp => q _ p (Ext.new hp) ⟨[], upd_same, trivial⟩⟩
abbrev s__law_answer : Stmt := tp 57
theorem sc__law_answer : FnScope ["_law_table_here", "_law_query", "_law_name", "_law_pair", "_law_found"] ["_law_table_here", "_law_query"] (defScope s__law_answer) := ⟨rfl, rfl, rfl, by decide +kernel, rfl, by decide +kernel, by decide +kernel⟩
abbrev ps__law_answer : List Str := ["_law_table_here", "_law_query"]
abbrev sl__law_answer : List Str := ["_law_table_here", "_law_query", "_law_name", "_law_pair", "_law_found"]
theorem ok__law_answer (F : FnP K "_law_answer" "_law_answer" s__law_answer f fd) (T : Txt K mg A) : FnOk P w K mg base CX0 1 f fd ps__law_answer spLAns := by
  refine F.ok sc__law_answer (fun vs H Q E h => ?_) (fun cdv A' outer s0 H vs Q E hr h => ?_)
  · obtain ⟨t, tab, qv, key, most, rfl, _⟩ := h
    rfl
  · obtain ⟨t, tab, qv, key, most, rfl, ⟨us, ht, hA⟩, hl, ⟨qa, rfl, hq⟩, q⟩ := h
    refine ⟨_, PSs.nox (pss_cons (ps_set (i := 2) sc__law_answer.nd rfl (Or.inl rfl) (pe_ix ix_tup (pv 1) pe_int (fun _ _ => rfl)))
      (pss_cons (ps_if (pt_cmpR op_eq (pv 2) pe_str (nomark _)) pss_never pss_nil)
      (pss_cons (ps_if (pt_cmpR op_eq (pv 2) pe_str (nomark _)) pss_never pss_nil)
      (pss_cons (ps_if (pt_cmpR op_eq (pv 2) pe_str (nomark _))
          (pss_cons (ps_setLc (i := 4) (own := [("_law_pair", 3)]) (g := gName 3) rfl sc__law_answer.nd rfl rfl (sw_true rfl rfl rfl (by decide +kernel)) (pi_list (pv 0)) (blkOk_by (own := [("_law_pair", 3)]) (N := ["_law_table_here", "_law_query", "_law_name", "_law_pair", "_law_found"]) (sc := defScope s__law_answer) (by decide +kernel)) (fun _ _ _ _ _ => pg_name (i := 3) sc__law_answer.nd rfl (Or.inl rfl)) (fun _ _ _ _ _ => (pts_one (pt_cmpR op_gt_str (pe_ix (ixT K) (pv 3) pe_int (fun _ _ => rfl)) (pe_ix (ixT K) (pv 1) pe_int (fun _ _ => rfl)) (nomark _)))) (fun _ _ _ _ _ => (pv 3)))
          (pss_one (ps_ret (pe_slice sl_list (pv 4) po_none (po_some (pe_ix ix_tup (pv 1) pe_int (fun _ _ => rfl)))))))
          pss_nil) pss_never)))), ?_⟩
    have hlen := hA.length
    refine ⟨_, rfl, qa, _, _, _, rfl, rfl, SqT.of hq, rfl, ?_⟩
    refine ⟨_, rfl, rfl, _, rfl, iteN (sdec (by decide +kernel)) ?_⟩
    refine ⟨_, rfl, rfl, _, rfl, iteN (sdec (by decide +kernel)) ?_⟩
    refine ⟨_, rfl, rfl, _, rfl, iteY (sdecT _) ?_⟩
    refine ⟨_, rfl, t, rfl, ⟨_, SqL.of ht⟩, fun D hD => ?_⟩
    have hDt : D ≠ t := none_ne hD ht
    refine lc_list (K := K) (a := t) (xs := us) (fun i H' => Ext [] H H' ∧ LsAt PrAt H' D (behind key (tab.take i))) ⟨Ext.new hD, [], upd_same, trivial⟩ (fun i H' _ ⟨e, _⟩ => SqL.of (e.lst ht (by simp))) ?_ ?_
    · rintro i y H1 hi ⟨e1, vs1, h1, h2⟩
      obtain ⟨p, hp, pa, rv, rfl, hpa, hrow⟩ := hA.getV hi
      refine ⟨rfl, ?_⟩
      have hq1 := SqT.of (K := K) (e1.tup hq)
      refine ⟨_, rfl, pa, _, _, _, rfl, rfl, SqT.of (e1.tup hpa), rfl, _, rfl, qa, _, _, _, rfl, rfl, hq1, rfl, _, _, rfl, rfl, _, rfl, ?_⟩
      have hb : behind key (tab.take (i + 1)) = if kb key p.1 then behind key (tab.take i) ++ [p] else behind key (tab.take i) := by
        rw [take_next hp]
        unfold behind
        rw [List.filter_append]
        split
        · rename_i c; rw [List.filter_cons_of_pos (by simpa using c)]; rfl
        · rename_i c; rw [List.filter_cons_of_neg (by simpa using c), List.filter_nil, List.append_nil]
      refine iteD (fun c => ?_) fun c => ?_
      · have hn : D ∉ ([] : List Addr) := fun z => nomatch z
        have e2 : Ext [D] H1 (upd H1 D (.lst (vs1 ++ [.ref pa]))) := Ext.wrL h1 List.mem_cons_self
        refine ⟨_, rfl, vs1, h1, ?_, e1.then e2 (one_new hD), ?_⟩
        · rw [h2.length]
          have : (behind key (tab.take i)).length ≤ tab.length := Nat.le_trans (List.length_filter_le _ _) (by rw [List.length_take]; omega)
          exact smallT (by omega)
        · rw [hb, if_pos (show kb key p.1 from c)]
          exact ⟨_, upd_same, (h2.imp fun _ _ => PrAt.ext e2).app (A2.one ⟨pa, rv, rfl, e2.tup (e1.tup hpa), (hrow.ext e1).ext e2⟩)⟩
      · refine ⟨e1, ?_⟩
        rw [hb, if_neg (show ¬ kb key p.1 from c)]
        exact ⟨vs1, h1, h2⟩
    · rintro H1 ⟨e1, vs1, h1, h2⟩
      rw [hlen, List.take_length] at h2
      have hq1 := SqT.of (K := K) (e1.tup hq)
      refine ⟨_, rfl, _, rfl, qa, _, _, _, rfl, rfl, hq1, rfl, _, rfl, D, vs1, rfl, SqL.of h1, fun p hp => ?_⟩
      rw [cut_take]
      have e2 : Ext [] H1 (upd H1 p (.lst (vs1.take most))) := Ext.new hp
      exact q _ p (e1.trans e2) (e1.dom _ hp) ⟨_, upd_same, (h2.take most).imp fun _ _ => PrAt.ext e2⟩
abbrev s__law_is_up : Stmt := tp 66
theorem sc__law_is_up : FnScope ["_law_rows", "_law_pair"] ["_law_rows"] (defScope s__law_is_up) := ⟨rfl, rfl, rfl, by decide +kernel, rfl, by decide +kernel, by decide +kernel⟩
abbrev ps__law_is_up : List Str := ["_law_rows"]
abbrev sl__law_is_up : List Str := ["_law_rows", "_law_pair"]
theorem ok__law_is_up (F : FnP K "_law_is_up" "_law_is_up" s__law_is_up f fd) (T : Txt K mg A) : FnOk P w K mg base CX0 1 f fd ps__law_is_up spUp := by
  refine F.ok sc__law_is_up (fun vs H Q E h => ?_) (fun cdv A' outer s0 H vs Q E hr h => ?_)
  · obtain ⟨t, tab, rfl, _⟩ := h
    rfl
  · obtain ⟨t, tab, rfl, ⟨us, ht, hA⟩, hok, h64, q⟩ := h
    refine ⟨_, PSs.nox (pss_one (ps_ret (pe_cmpR (op_eqD hr.units) (pe_lc (own := [("_law_pair", 1)]) (g := gName 1) rfl sc__law_is_up.nd (pi_list (pv 0)) (blkOk_by (own := [("_law_pair", 1)]) (N := ["_law_rows", "_law_pair"]) (sc := defScope s__law_is_up) (by decide +kernel)) (fun _ _ _ _ _ => pg_name (i := 1) sc__law_is_up.nd rfl (Or.inl rfl)) (fun _ _ _ _ _ => pts_nil) (fun _ _ _ _ _ => (pe_ix (ixT K) (pv 1) pe_int (fun _ _ => rfl)))) (pe_callB (cr_sortW rfl) (by rfl) T.sorted (by decide +kernel) (pa_cons (pe_callTy (cr_setW rfl) (by rfl) T.set (by decide +kernel) (pa_cons (pe_lc (own := [("_law_pair", 1)]) (g := gName 1) rfl sc__law_is_up.nd (pi_list (pv 0)) (blkOk_by (own := [("_law_pair", 1)]) (N := ["_law_rows", "_law_pair"]) (sc := defScope s__law_is_up) (by decide +kernel)) (fun _ _ _ _ _ => pg_name (i := 1) sc__law_is_up.nd rfl (Or.inl rfl)) (fun _ _ _ _ _ => pts_nil) (fun _ _ _ _ _ => (pe_ix (ixT K) (pv 1) pe_int (fun _ _ => rfl)))) pa_nil)) pa_nil)) (nomark _)))), ?_⟩
    have hlen := hA.length
    have keys : ∀ (H0 : Hp) (D : Addr) (σ : L2.St) (Qd : Hp → Prop), Ext [] H H0 → H0 D = none → (∀ H1, Ext [] H0 H1 → H1 D = some (.lst ((tab.map (·.1)).map V.str)) → Qd H1) →
        ∃ W : Nat → Nat → Hp → Prop, (∃ m, W 0 m (upd H0 D (.lst []))) ∧ ∀ i m H, W i m H →
          ((Itl K t).stop i H ∧ Qd H) ∨ ((Itl K t).go i H ∧ ∃ Nx : Hp → Prop, (∀ H', Nx H' → ∃ m', m' < m ∧ W (i + 1) m' H') ∧ ∀ x H', (Itl K t).yld i H x H' → gName 1 x (wipe [some (V.ref t), none] [1]) H' fun σ2 H2 => wipe σ2 [1] = wipe [some (V.ref t), none] [1] ∧ tYes σ2 H2 fun b H3 =>
            if b = true then tOp (rIxT K) (tVar 1) (tC (.int 0)) σ2 H3 fun y H4 => ∃ acc, H4 D = some (.lst acc) ∧ acc.length < sizeLine ∧ Nx (upd H4 D (.lst (acc ++ [y]))) else Nx H3) := by
      intro H0 D σ Qd e0 hD hQ
      refine lc_list (K := K) (a := t) (xs := us) (fun i H' => Ext [] H0 H' ∧ H' D = some (.lst (((tab.map (·.1)).take i).map V.str))) ⟨Ext.new hD, upd_same⟩ (fun i H' _ ⟨e, _⟩ => SqL.of ((e0.trans e).lst ht (by simp))) ?_ ?_
      · rintro i y H1 hi ⟨e1, h1⟩
        obtain ⟨p, hp, pa, rv, rfl, hpa, hrow⟩ := hA.getV hi
        refine ⟨rfl, ?_⟩
        refine ⟨_, rfl, pa, _, _, _, rfl, rfl, SqT.of ((e0.trans e1).tup hpa), rfl, _, h1, ?_, e1.then (S' := [D]) (Ext.wrL h1 List.mem_cons_self) (one_new hD), ?_⟩
        · rw [List.length_map, List.length_take, List.length_map]
          exact smallT (by omega)
        · have hp2 : (tab.map (·.1))[i]? = some p.1 := by rw [List.getElem?_map, hp]; rfl
          rw [upd_same, take_next hp2, List.map_append]
          rfl
      · rintro H1 ⟨e1, h1⟩
        rw [hlen, List.take_of_length_le (by rw [List.length_map]; exact Nat.le_refl _)] at h1
        exact hQ H1 e1 h1
    have hsok : ∀ x ∈ tab.map (·.1), SOk x := fun x hx => by
      obtain ⟨p, hp, rfl⟩ := List.mem_map.mp hx
      exact key_sok (hok p hp).1
    refine ⟨_, rfl, t, rfl, ⟨_, SqL.of ht⟩, fun D hD => keys H D [] _ (Ext.refl _ _) hD fun H1 e1 h1 => ?_⟩
    refine ⟨_, rfl, t, rfl, ⟨_, SqL.of (e1.lst ht (by simp))⟩, fun D2 hD2 => keys H1 D2 [] _ e1 hD2 fun H2 e2 h2 => ?_⟩
    refine ⟨D2, tab.map (·.1), rfl, SqL.of h2, by rw [List.length_map]; exact h64, hsok, fun S hS => ?_⟩
    have e3 : Ext [] H2 (upd H2 S (SetWO w S (tab.map (·.1)).length)) := Ext.new hS
    refine ⟨S, _, rfl, upd_same, by rw [List.length_map]; exact h64, fun ys p hys hyl hyok hp => ?_⟩
    have e4 := e3.new2 (o := .lst (ys.map V.str)) hp
    have h3 := (e2.trans e4).lst h1 (by simp)
    refine ⟨_, _, .lst (SqL.of h3) (dpStrs _), .lst (SqL.of upd_same) (dpStrs _), dxS.list.shaped hsok, dxS.list.shaped hyok, ?_⟩
    rw [dxS.list.eqv]
    refine q _ _ ((e1.trans e2).trans e4) fun hb => ?_
    have he := of_decide_eq_true hb
    rw [← he] at hys
    exact List.pairwise_map.mp (sorted_pw hys)
abbrev s__law_table : Stmt := tp 54
theorem sc__law_table : FnScope ["_law_state", "_law_most", "_law_rows", "_law_k", "_law_key_here"] ["_law_state", "_law_most"] (defScope s__law_table) := ⟨rfl, rfl, rfl, by decide +kernel, rfl, by decide +kernel, by decide +kernel⟩
abbrev ps__law_table : List Str := ["_law_state", "_law_most"]
abbrev sl__law_table : List Str := ["_law_state", "_law_most", "_law_rows", "_law_k", "_law_key_here"]
theorem ok__law_table (F : FnP K "_law_table" "_law_table" s__law_table f fd) (T : Txt K mg A) (O__law_draw : OkF P w K mg base CX0 1 "_law_draw" ps__law_draw spDraw) (O__law_key : OkF P w K mg base CX0 2 "_law_key" ps__law_key spLKey) (O__law_row : OkF P w K mg base CX0 2 "_law_row" ps__law_row spLRow) : FnOk P w K mg base CX0 3 f fd ps__law_table spTable := by
  refine F.ok sc__law_table (fun vs H Q E h => ?_) (fun cdv A' outer s0 H vs Q E hr h => ?_)
  · obtain ⟨a, b, rfl, _⟩ := h
    rfl
  · obtain ⟨a, b, rfl, hst, q⟩ := h
    refine ⟨_, PSs.nox (pss_cons (ps_set (i := 2) sc__law_table.nd rfl (Or.inr rfl) pe_dnewK)
        (pss_cons (ps_for PassesOwn.never rfl (pi_range1 (by rfl) T.range (pa_cons (pe_f O__law_draw (hr.mono (by decide)) pass0 (pa_cons (pv 0) (pa_cons (pe_op op_add (pv 1) pe_int) pa_nil))) pa_nil)) (pg_name (i := 3) sc__law_table.nd rfl (Or.inl rfl))
          (pss_cons (ps_set (i := 4) sc__law_table.nd rfl (Or.inl rfl) (pe_f O__law_key (hr.mono (by decide)) pass0 (pa_cons (pv 0) pa_nil)))
          (pss_one (ps_dput (hu_of hr) (pv 2) (pv 4) (pe_f O__law_row (hr.mono (by decide)) pass0 (pa_cons (pv 0) pa_nil)) rfl))))
        (pss_one (ps_ret (pe_lc (own := [("_law_key_here", 4)]) (g := gName 4) rfl sc__law_table.nd (pi_list (pe_callB (call_sortedD rfl) (by rfl) T.sorted (by decide +kernel) (pa_cons (pv 2) pa_nil))) (blkOk_by (own := [("_law_key_here", 4)]) (N := ["_law_state", "_law_most", "_law_rows", "_law_k", "_law_key_here"]) (sc := defScope s__law_table) (by decide +kernel)) (fun _ _ _ _ _ => pg_name (i := 4) sc__law_table.nd rfl (Or.inl rfl)) (fun _ _ _ _ _ => pts_nil) (fun _ _ _ _ _ => (pe_tup (pa_cons (pv 4) (pa_cons (pe_dget (hu_of hr) (pv 2) (pv 4) (fun _ _ => rfl)) pa_nil))))))))), ?_⟩
    intro d hd
    have hda : d ≠ a := by
      obtain ⟨_, _, _, _, h, _⟩ := hst
      exact none_ne hd h
    have hdb : b ≠ d := by
      obtain ⟨_, _, _, _, _, h⟩ := hst
      exact (none_ne hd h).symm
    have e0 : Ext [] H (upd H d (.dK [])) := Ext.new hd
    refine ⟨_, rfl, _, rfl, _, _, rfl, rfl, a, b, 13, rfl, by decide, by decide, hst.ext0 e0, fun H1 n hn e1 st1 => ?_⟩
    refine ⟨_, rfl, by omega, by omega, ?_⟩
    rw [Int.toNat_natCast]
    have hd1 := e1.dk (upd_same (H := H) (a := d) (o := .dK [])) (by simpa using hda)
    refine for_range (lo := 0) (n := n) (fun i σ H' => Ext [a] H H' ∧ StAt H' a b ∧ ∃ kvs z3 z4, σ = [some (.ref a), some (.int 12), some (.ref d), z3, z4] ∧ H' d = some (.dK kvs) ∧ KvOk H' kvs ∧ kvs.length ≤ i) ⟨e0.of.trans e1, st1, [], none, none, rfl, hd1, ⟨List.nodup_nil, fun p hp => by cases hp⟩, Nat.le_refl _⟩ ?_ ?_
    · rintro i σ H2 hi ⟨e2, st2, kvs, z3, z4, rfl, h1, h2, h3⟩
      refine ⟨_, rfl, a, b, rfl, st2, fun H3 k e3 st3 hk => ?_⟩
      refine ⟨_, rfl, a, b, rfl, st3, fun H4 v r e4 st4 hv hr => ?_⟩
      have h5 := e4.dk (e3.dk h1 (by simpa using hda)) (by simpa using hda)
      have hok4 := (h2.ext e3).ext e4
      have e5 : Ext [d] H4 (upd H4 d (.dK (putK kvs (Sum.inr k) v))) := Ext.wr h5 List.mem_cons_self (fun z => z) (fun _ z => nomatch z)
      refine ⟨_, rfl, _, rfl, d, _, rfl, DPut.k (k := Sum.inr k) h5 (smallT (by omega)), ((e2.trans e3).trans e4).then e5 (fun b hb => .inr (by rw [List.mem_singleton.mp hb]; exact hd)), st4.ext e5 (by simpa using hda.symm) (by simpa using hdb), _, _, _, rfl, upd_same, (hok4.put hk hv hr).ext e5, ?_⟩
      have := length_putK kvs (Sum.inr k : L2.Key) v
      omega
    · rintro σ H2 ⟨e2, st2, kvs, z3, z4, rfl, h1, h2, h3⟩
      have hkl : (kvs.map fun p => strK p.1).length = kvs.length := List.length_map ..
      refine ⟨_, rfl, d, kvs, _, rfl, .inl h1, h2.keys, by omega, fun ys p pm srt hp => ?_⟩
      have hyl : ys.length = kvs.length := by rw [pm.length_eq, hkl]
      have hyn : ys.Nodup := by
        refine pm.nodup_iff.mpr ?_
        have := h2.nd
        rw [h2.keys] at this
        exact List.Pairwise.of_map Sum.inr (fun a b h e => h (congrArg Sum.inr e)) this
      refine ⟨p, rfl, ⟨_, SqL.of upd_same⟩, fun D hD => ?_⟩
      have e3 : Ext [] H2 (upd H2 p (.lst (ys.map V.str))) := Ext.new hp
      refine lc_list (K := K) (a := p) (xs := ys.map V.str) (fun i H' => Ext [] (upd H2 p (.lst (ys.map V.str))) H' ∧ ∃ tab, LsAt PrAt H' D tab ∧ tab.map (·.1) = ys.take i ∧ TabOk tab) ⟨Ext.new hD, [], ⟨[], upd_same, trivial⟩, rfl, fun p hp => by cases hp⟩ (fun i H' _ ⟨e, _⟩ => SqL.of (e.lst upd_same (by simp))) ?_ ?_
      · rintro i y H3 hi ⟨e4, tab, ⟨vs, h4, h5⟩, h6, h7⟩
        rw [List.getElem?_map] at hi
        cases hc : ys[i]? with
        | none => rw [hc] at hi; cases hi
        | some k =>
          rw [hc] at hi
          obtain rfl : V.str k = y := Option.some.inj hi
          obtain ⟨v, r, hv, hk, hr1, hr2⟩ := h2.get (pm.mem_iff.mp (List.mem_of_getElem? hc))
          have h8 := e4.dk (e3.dk h1 (by simp)) (by simp)
          refine ⟨rfl, ?_⟩
          refine ⟨_, rfl, _, rfl, _, rfl, d, v, rfl, ?_, (by show 2 ≤ sizeLine; decide), fun t ht => ?_⟩
          · rw [← hv]
            exact DGet.k (k := Sum.inr k) h8
          · have e5 : Ext [] H3 (upd H3 t (.tup [.str k, v])) := Ext.new ht
            have h9 := e5.lst h4 (by simp)
            have e6 : Ext [D] (upd H3 t (.tup [.str k, v])) (upd (upd H3 t (.tup [.str k, v])) D (.lst (vs ++ [.ref t]))) := Ext.wrL h9 List.mem_cons_self
            have e7 : Ext [D] H3 _ := e5.of.trans e6
            have hl : tab.length = (ys.take i).length := by rw [← h6, List.length_map]
            rw [List.length_take] at hl
            refine ⟨vs, h9, smallT (by rw [h5.length]; omega), (e4.trans e5).then e6 (one_new hD), tab ++ [(k, r)], ⟨_, upd_same, (h5.imp fun _ _ => PrAt.ext e7).app (A2.one ⟨t, v, rfl, e6.tup upd_same, RowAt.ext ((e3.of.trans e4.of).trans e7) hr1⟩)⟩, ?_, fun p hp => ?_⟩
            · rw [List.map_append, h6, take_next hc]
              rfl
            · rcases List.mem_append.mp hp with z | z
              · exact h7 p z
              · rw [List.mem_singleton.mp z]
                exact ⟨hk, hr2⟩
      · rintro H3 ⟨e4, tab, h4, h6, h7⟩
        rw [List.length_map, List.take_length] at h6
        have e5 := e3.trans e4
        refine q H3 D tab (e2.trans e5.of) (st2.ext0 e5) ?_ h4 (up_of (by rw [h6]; exact sorted_pw srt) (by rw [h6]; exact hyn)) h7 ?_
        · exact e2.dom _ (e3.dom _ hD)
        · have : tab.length = ys.length := by rw [← h6, List.length_map]
          omega
end
end RR
end
section
set_option Elab.async false
set_option linter.all false
set_option maxRecDepth 100000
set_option maxHeartbeats 4000000
/-! Certificates with drawn changes. -/
namespace RR
open PySem PySem.Spec PyProof.Rows L2
theorem new_at {H : Hp} {p : Addr} {o : HO} (_ : H p = none) : (upd H p o) p = some o := upd_same
def spTLk : Sp := fun vs H Q _ => ∃ a b v l, vs = [.ref a, v] ∧ StAt H a b ∧ LkAt H v l ∧ LkOk l ∧ ∀ (H' : Hp) v' l', Ext [a] H H' → StAt H' a b → LkAt H' v' l' → LkOk l' → Q v' H'
def spTEn : Sp := fun vs H Q _ => ∃ a b v e, vs = [.ref a, v] ∧ StAt H a b ∧ EnAt H v e ∧ EnOk e ∧ ∀ (H' : Hp) v' e', Ext [a] H H' → StAt H' a b → EnAt H' v' e' → EnOk e' → Q v' H'
def spTur : Sp := fun vs H Q _ => ∃ a b c o cert oth, vs = [.ref a, .ref c, .ref o] ∧ StAt H a b ∧ LsAt EnAt H c cert ∧ c ≠ a ∧ (∀ e ∈ cert, EnOk e) ∧ LsAt EnAt H o oth ∧ o ≠ a ∧ (∀ e ∈ oth, EnOk e) ∧ cert.length ≤ 100 ∧ oth.length ≤ 100 ∧
  ∀ (H' : Hp) p res, Ext [a] H H' → StAt H' a b → H p = none → LsAt EnAt H' p res → (∀ e ∈ res, EnOk e) → res.length ≤ cert.length + 2 → Q (.ref p) H'
section
variable {P : Program} {w : World} {K : PySem.W.Frag} {mg : Str → Option Value} {base : Heap} {A : Ad} {f : Addr} {fd : FuncData}
abbrev s__law_turned_link : Stmt := tp 62
theorem sc__law_turned_link : FnScope ["_law_state", "_law_link_here", "_law_some", "_law_more"] ["_law_state", "_law_link_here"] (defScope s__law_turned_link) := ⟨rfl, rfl, rfl, by decide +kernel, rfl, by decide +kernel, by decide +kernel⟩
abbrev ps__law_turned_link : List Str := ["_law_state", "_law_link_here"]
abbrev sl__law_turned_link : List Str := ["_law_state", "_law_link_here", "_law_some", "_law_more"]
theorem ok__law_turned_link (F : FnP K "_law_turned_link" "_law_turned_link" s__law_turned_link f fd) (T : Txt K mg A) (O__law_draw : OkF P w K mg base CX0 1 "_law_draw" ps__law_draw spDraw) : FnOk P w K mg base CX0 2 f fd ps__law_turned_link spTLk := by
  refine F.ok sc__law_turned_link (fun vs H Q E h => ?_) (fun cdv A' outer s0 H vs Q E hr h => ?_)
  · obtain ⟨a, b, v, l, rfl, _⟩ := h
    rfl
  · obtain ⟨a, b, v, l, rfl, hst, ⟨la, lb, rfl, h1, h2⟩, hok, q⟩ := h
    refine ⟨_, PSs.nox (pss_cons (ps_set (i := 2) sc__law_turned_link.nd rfl (Or.inl rfl) (pe_f O__law_draw (hr.mono (by decide)) pass0 (pa_cons (pv 0) (pa_cons pe_int pa_nil))))
        (pss_cons (ps_set (i := 3) sc__law_turned_link.nd rfl (Or.inl rfl) (pe_op op_catT (pe_tup (pa_cons (pe_op op_add (pe_ix ix_tup (pe_ix ix_tup (pv 1) pe_int (fun _ _ => rfl)) pe_int (fun _ _ => rfl)) pe_int) pa_nil)) (pe_slice sl_tupW (pe_ix ix_tup (pv 1) pe_int (fun _ _ => rfl)) (po_some pe_int) po_none)))
        (pss_one (ps_ret (pe_ix ix_list (pe_lst (pa_cons (pe_tup (pa_cons (pe_op op_add (pe_ix ix_tup (pv 1) pe_int (fun _ _ => rfl)) pe_int) (pa_cons (pe_ix ix_tup (pv 1) pe_int (fun _ _ => rfl)) (pa_cons (pe_ix ix_tup (pv 1) pe_int (fun _ _ => rfl)) pa_nil)))) (pa_cons (pe_tup (pa_cons (pe_ix ix_tup (pv 1) pe_int (fun _ _ => rfl)) (pa_cons (pe_op op_add (pe_ix ix_tup (pv 1) pe_int (fun _ _ => rfl)) pe_int) (pa_cons (pe_ix ix_tup (pv 1) pe_int (fun _ _ => rfl)) pa_nil)))) (pa_cons (pe_tup (pa_cons (pv 2) (pa_cons (pe_ix ix_tup (pv 1) pe_int (fun _ _ => rfl)) (pa_cons (pe_ix ix_tup (pv 1) pe_int (fun _ _ => rfl)) pa_nil)))) (pa_cons (pe_tup (pa_cons (pe_ix ix_tup (pv 1) pe_int (fun _ _ => rfl)) (pa_cons (pe_ix ix_tup (pv 1) pe_int (fun _ _ => rfl)) (pa_cons (pv 3) pa_nil)))) (pa_cons (pe_tup (pa_cons (pv 2) (pa_cons pe_int (pa_cons (pe_tup (pa_cons pe_int (pa_cons pe_int (pa_cons pe_int pa_nil)))) pa_nil)))) (pa_cons (pv 1) pa_nil))))))) (pe_f O__law_draw (hr.mono (by decide)) pass0 (pa_cons (pv 0) (pa_cons pe_int pa_nil))) (fun _ _ => rfl)))))), ?_⟩
    obtain ⟨k1, k2, k3, k4, k5⟩ := id hok
    refine ⟨_, rfl, a, b, _, rfl, by decide, by decide, hst, fun H1 d hd e1 st1 => ?_⟩
    have t1 := SqT.of (K := K) (e1.tup h1)
    have t2 := SqT.of (K := K) (e1.tup h2)
    refine ⟨_, rfl, la, _, _, _, rfl, rfl, t1, rfl, lb, _, _, _, rfl, rfl, t2, rfl, _, _, rfl, rfl, (by show 1 ≤ sizeLine; decide), fun p hp => ?_⟩
    have e2 := Ext.new (S := ([] : List Addr)) (o := .tup [.int (l.s0 + 1)]) hp
    have t3 := SqT.of (K := K) (e2.tup (e1.tup h1))
    have t4 := SqT.of (K := K) (e2.tup (e1.tup h2))
    refine ⟨_, rfl, la, _, _, _, rfl, rfl, t3, rfl, _, rfl, lb, _, rfl, t4, (fun z => nomatch z.1), fun _ p2 hp2 => ?_⟩
    have e3 := e2.new2 (o := .tup [.int l.s1, .int l.s2]) hp2
    refine ⟨p, p2, _, _, rfl, rfl, SqT.of ((Ext.new (S := []) hp2).tup upd_same), SqT.of upd_same, (fun z => nomatch z), (by show 3 ≤ sizeLine; decide), (fun z => nomatch z), fun _ p3 hp3 => ?_⟩
    have e4 := e3.new2 (o := .tup [.int (l.s0 + 1), .int l.s1, .int l.s2]) hp3
    have g3 := new_at (o := .tup [.int (l.s0 + 1), .int l.s1, .int l.s2]) hp3
    have e02 := e1.trans e4.of
    have m1 := e02.tup h1
    have m2 := e02.tup h2
    refine ⟨_, rfl, la, _, _, _, rfl, rfl, SqT.of m1, rfl, _, _, rfl, rfl, _, rfl, la, _, _, _, rfl, rfl, SqT.of m1, rfl, _, rfl, la, _, _, _, rfl, rfl, SqT.of m1, rfl, (by show 3 ≤ sizeLine; decide), fun x0 y0 => ?_⟩
    have f0 := Ext.new (S := ([] : List Addr)) (o := (.tup [.int (l.d + 1), .int l.c, .ref lb])) y0
    have g0 := new_at (o := (.tup [.int (l.d + 1), .int l.c, .ref lb])) y0
    have m1 := f0.tup m1
    refine ⟨_, rfl, la, _, _, _, rfl, rfl, SqT.of m1, rfl, _, rfl, la, _, _, _, rfl, rfl, SqT.of m1, rfl, _, _, rfl, rfl, _, rfl, la, _, _, _, rfl, rfl, SqT.of m1, rfl, (by show 3 ≤ sizeLine; decide), fun x1 y1 => ?_⟩
    have f1 := Ext.new (S := ([] : List Addr)) (o := (.tup [.int l.d, .int (l.c + 1), .ref lb])) y1
    have g1 := new_at (o := (.tup [.int l.d, .int (l.c + 1), .ref lb])) y1
    have m1 := f1.tup m1
    refine ⟨_, rfl, _, rfl, la, _, _, _, rfl, rfl, SqT.of m1, rfl, _, rfl, la, _, _, _, rfl, rfl, SqT.of m1, rfl, (by show 3 ≤ sizeLine; decide), fun x2 y2 => ?_⟩
    have f2 := Ext.new (S := ([] : List Addr)) (o := (.tup [.int (d : Int), .int l.c, .ref lb])) y2
    have g2 := new_at (o := (.tup [.int (d : Int), .int l.c, .ref lb])) y2
    have m1 := f2.tup m1
    refine ⟨_, rfl, la, _, _, _, rfl, rfl, SqT.of m1, rfl, _, rfl, la, _, _, _, rfl, rfl, SqT.of m1, rfl, _, rfl, (by show 3 ≤ sizeLine; decide), fun x3 y3 => ?_⟩
    have f3 := Ext.new (S := ([] : List Addr)) (o := (.tup [.int l.d, .int l.c, .ref p3])) y3
    have g33 := new_at (o := (.tup [.int l.d, .int l.c, .ref p3])) y3
    refine ⟨_, rfl, (by show 3 ≤ sizeLine; decide), fun x4 y4 => ?_⟩
    have f4 := Ext.new (S := ([] : List Addr)) (o := (.tup [.int 0, .int 0, .int 0])) y4
    have g4 := new_at (o := (.tup [.int 0, .int 0, .int 0])) y4
    refine ⟨(by show 3 ≤ sizeLine; decide), fun x5 y5 => ?_⟩
    have f5 := Ext.new (S := ([] : List Addr)) (o := (.tup [.int (d : Int), .int 0, .ref x4])) y5
    have g5 := new_at (o := (.tup [.int (d : Int), .int 0, .ref x4])) y5
    refine ⟨_, rfl, (by show 6 ≤ sizeLine; decide), fun ls hls => ?_⟩
    have f6 := Ext.new (S := ([] : List Addr)) (o := (.lst [.ref x0, .ref x1, .ref x2, .ref x3, .ref x5, .ref la])) hls
    have g6 := new_at (o := (.lst [.ref x0, .ref x1, .ref x2, .ref x3, .ref x5, .ref la])) hls
    have e39 := ((((f1.trans f2).trans f3).trans f4).trans f5).trans f6
    have e49 := (((f2.trans f3).trans f4).trans f5).trans f6
    have e59 := ((f3.trans f4).trans f5).trans f6
    have e29 := f0.trans e39
    have e09 := e02.trans e29.of
    have st9 := st1.ext0 (e4.trans e29)
    have hla : ls ≠ a := by
      have st8 := st1.ext0 (e4.trans (f0.trans ((((f1.trans f2).trans f3).trans f4).trans f5)))
      obtain ⟨_, _, _, _, h, _⟩ := st8
      exact none_ne hls h
    refine ⟨_, rfl, a, b, _, rfl, by decide, by decide, st9, fun H10 n hn e10 st10 => ?_⟩
    have e010 := e09.trans e10
    have hl10 := e10.lst g6 (by simpa using hla)
    have t2' := e010.tup h2
    obtain ⟨vv, hv, l', hl', hk'⟩ : ∃ vv, ([V.ref x0, .ref x1, .ref x2, .ref x3, .ref x5, .ref la] : List V)[n]? = some vv ∧ ∃ l', LkAt H10 vv l' ∧ LkOk l' := by
      match n, hn with
      | 0, _ => exact ⟨_, rfl, ⟨l.d + 1, l.c, l.s0, l.s1, l.s2⟩, ⟨x0, lb, rfl, e10.tup (e39.tup g0), t2'⟩, by show 0 ≤ l.d + 1; omega, k2, k3, k4, k5⟩
      | 1, _ => exact ⟨_, rfl, ⟨l.d, l.c + 1, l.s0, l.s1, l.s2⟩, ⟨x1, lb, rfl, e10.tup (e49.tup g1), t2'⟩, k1, by show 0 ≤ l.c + 1; omega, k3, k4, k5⟩
      | 2, _ => exact ⟨_, rfl, ⟨d, l.c, l.s0, l.s1, l.s2⟩, ⟨x2, lb, rfl, e10.tup (e59.tup g2), t2'⟩, by show 0 ≤ (d : Int); omega, k2, k3, k4, k5⟩
      | 3, _ => exact ⟨_, rfl, ⟨l.d, l.c, l.s0 + 1, l.s1, l.s2⟩, ⟨x3, p3, rfl, e10.tup (((f4.trans f5).trans f6).tup g33), e10.tup (e29.tup g3)⟩, k1, k2, by show 0 ≤ l.s0 + 1; omega, k4, k5⟩
      | 4, _ => exact ⟨_, rfl, ⟨d, 0, 0, 0, 0⟩, ⟨x5, x4, rfl, e10.tup (f6.tup g5), e10.tup ((f5.trans f6).tup g4)⟩, by show 0 ≤ (d : Int); omega, Int.le_refl 0, Int.le_refl 0, Int.le_refl 0, Int.le_refl 0⟩
      | 5, _ => exact ⟨_, rfl, l, ⟨la, lb, rfl, e010.tup h1, t2'⟩, hok⟩
      | n + 6, h => omega
    exact ⟨ls, _, _, vv, rfl, rfl, SqL.of hl10, atI_nat hv, q _ _ l' e010 st10 hl' hk'⟩
abbrev s__law_turned_entry : Stmt := tp 63
theorem sc__law_turned_entry : FnScope ["_law_state", "_law_entry", "_law_key_here", "_law_row_here", "_law_left", "_law_right", "_law_choice"] ["_law_state", "_law_entry"] (defScope s__law_turned_entry) := ⟨rfl, rfl, rfl, by decide +kernel, rfl, by decide +kernel, by decide +kernel⟩
abbrev ps__law_turned_entry : List Str := ["_law_state", "_law_entry"]
abbrev sl__law_turned_entry : List Str := ["_law_state", "_law_entry", "_law_key_here", "_law_row_here", "_law_left", "_law_right", "_law_choice"]
theorem ok__law_turned_entry (F : FnP K "_law_turned_entry" "_law_turned_entry" s__law_turned_entry f fd) (T : Txt K mg A) (O__law_draw : OkF P w K mg base CX0 1 "_law_draw" ps__law_draw spDraw) (O__law_key : OkF P w K mg base CX0 2 "_law_key" ps__law_key spLKey) (O__law_row : OkF P w K mg base CX0 2 "_law_row" ps__law_row spLRow)
    (O__law_turned_link : OkF P w K mg base CX0 2 "_law_turned_link" ps__law_turned_link spTLk) : FnOk P w K mg base CX0 3 f fd ps__law_turned_entry spTEn := by
  refine F.ok sc__law_turned_entry (fun vs H Q E h => ?_) (fun cdv A' outer s0 H vs Q E hr h => ?_)
  · obtain ⟨a, b, v, l, rfl, _⟩ := h
    rfl
  · obtain ⟨a, b, v, e, rfl, hst, ⟨ea, rv, lv, mv, rfl, he, hrow, hl, hm⟩, hok, q⟩ := h
    refine ⟨_, PSs.nox (pss_cons (ps_asg (pv 1) (pg_tup (by rfl) (pgs_cons (pg_name (i := 2) sc__law_turned_entry.nd rfl (Or.inl rfl)) (pgs_cons (pg_name (i := 3) sc__law_turned_entry.nd rfl (Or.inl rfl)) (pgs_cons (pg_name (i := 4) sc__law_turned_entry.nd rfl (Or.inl rfl)) (pgs_cons (pg_name (i := 5) sc__law_turned_entry.nd rfl (Or.inl rfl)) pgs_nil))))))
        (pss_cons (ps_set (i := 6) sc__law_turned_entry.nd rfl (Or.inl rfl) (pe_f O__law_draw (hr.mono (by decide)) pass0 (pa_cons (pv 0) (pa_cons pe_int pa_nil))))
        (pss_cons (ps_if (pt_cmpR op_eq (pv 6) pe_int (nomark _))
          (pss_one (ps_ret (pe_tup (pa_cons (pe_f O__law_key (hr.mono (by decide)) pass0 (pa_cons (pv 0) pa_nil)) (pa_cons (pv 3) (pa_cons (pv 4) (pa_cons (pv 5) pa_nil)))))))
          (pss_nil))
        (pss_cons (ps_if (pt_cmpR op_eq (pv 6) pe_int (nomark _))
          (pss_one (ps_ret (pe_tup (pa_cons (pv 2) (pa_cons (pe_f O__law_row (hr.mono (by decide)) pass0 (pa_cons (pv 0) pa_nil)) (pa_cons (pv 4) (pa_cons (pv 5) pa_nil)))))))
          (pss_nil))
        (pss_cons (ps_if (pt_cmpR op_eq (pv 6) pe_int (nomark _))
          (pss_one (ps_ret (pe_tup (pa_cons (pv 2) (pa_cons (pv 3) (pa_cons (pe_f O__law_turned_link (hr.mono (by decide)) pass0 (pa_cons (pv 0) (pa_cons (pv 4) pa_nil))) (pa_cons (pv 5) pa_nil)))))))
          (pss_nil))
        (pss_cons (ps_if (pt_cmpR op_eq (pv 6) pe_int (nomark _))
          (pss_one (ps_ret (pe_tup (pa_cons (pv 2) (pa_cons (pv 3) (pa_cons (pv 4) (pa_cons (pe_f O__law_turned_link (hr.mono (by decide)) pass0 (pa_cons (pv 0) (pa_cons (pv 5) pa_nil))) pa_nil)))))))
          (pss_nil))
        (pss_cons (ps_if (pt_cmpR op_eq (pv 6) pe_int (nomark _))
          (pss_one (ps_ret (pe_tup (pa_cons (pv 2) (pa_cons (pv 3) (pa_cons (pv 5) (pa_cons (pv 4) pa_nil)))))))
          (pss_nil))
        (pss_one (ps_ret (pe_tup (pa_cons (pv 2) (pa_cons (pe_op op_catT (pe_slice sl_tupW (pv 3) po_none (po_some pe_int)) (pe_slice sl_tupW (pv 3) po_none (po_some pe_int))) (pa_cons (pv 4) (pa_cons (pv 5) pa_nil)))))))))))))), ?_⟩
    refine ⟨_, rfl, ea, _, rfl, SqT.of he, rfl, _, _, rfl, _, _, rfl, _, _, rfl, _, _, rfl, rfl, ?_⟩
    refine ⟨_, rfl, a, b, _, rfl, by decide, by decide, hst, fun H1 d hd e1 st1 => ?_⟩
    have fin : ∀ (H2 : Hp) (k : Str) (rv' lv' mv' : V) (e' : En), Ext [a] H1 H2 → StAt H2 a b → e'.key = k → RowAt H2 rv' e'.row → LkAt H2 lv' e'.l → LkAt H2 mv' e'.r → EnOk e' → ([V.str k, rv', lv', mv']).length ≤ sizeLine ∧ ∀ p, H2 p = none → Q (.ref p) (upd H2 p (.tup [.str k, rv', lv', mv'])) := by
      intro H2 k rv' lv' mv' e' x2 st2 h1 h2 h3 h4 h5
      refine ⟨(by show 4 ≤ sizeLine; decide), fun p hp => ?_⟩
      have x3 := Ext.new (S := ([] : List Addr)) (o := .tup [.str k, rv', lv', mv']) hp
      exact q _ _ e' ((e1.trans x2).trans x3.of) (st2.ext0 x3) ⟨p, rv', lv', mv', rfl, by rw [h1]; exact upd_same, h2.ext x3, h3.ext x3, h4.ext x3⟩ h5
    refine ⟨_, rfl, rfl, _, rfl, iteB (fun _ => ?_) fun _ => ?_⟩
    · refine ⟨_, rfl, a, b, rfl, st1, fun H2 k x2 st2 hk => ⟨_, rfl, _, rfl, _, rfl, ?_⟩⟩
      have x := e1.trans x2
      exact fin H2 k rv lv mv ⟨k, e.row, e.l, e.r⟩ x2 st2 rfl (hrow.ext x) (hl.ext x) (hm.ext x) ⟨hk, hok.row, hok.l, hok.r⟩
    · refine ⟨_, rfl, rfl, _, rfl, iteB (fun _ => ?_) fun _ => ?_⟩
      · refine ⟨_, rfl, _, rfl, a, b, rfl, st1, fun H2 v2 r2 x2 st2 hr2 hok2 => ⟨_, rfl, _, rfl, ?_⟩⟩
        have x := e1.trans x2
        exact fin H2 e.key v2 lv mv ⟨e.key, r2, e.l, e.r⟩ x2 st2 rfl hr2 (hl.ext x) (hm.ext x) ⟨hok.key, hok2, hok.l, hok.r⟩
      · refine ⟨_, rfl, rfl, _, rfl, iteB (fun _ => ?_) fun _ => ?_⟩
        · refine ⟨_, rfl, _, rfl, _, rfl, _, rfl, a, b, lv, e.l, rfl, st1, hl.ext e1, hok.l, fun H2 v2 l2 x2 st2 hl2 hok2 => ⟨_, rfl, ?_⟩⟩
          have x := e1.trans x2
          exact fin H2 e.key rv v2 mv ⟨e.key, e.row, l2, e.r⟩ x2 st2 rfl (hrow.ext x) hl2 (hm.ext x) ⟨hok.key, hok.row, hok2, hok.r⟩
        · refine ⟨_, rfl, rfl, _, rfl, iteB (fun _ => ?_) fun _ => ?_⟩
          · refine ⟨_, rfl, _, rfl, _, rfl, _, rfl, _, rfl, a, b, mv, e.r, rfl, st1, hm.ext e1, hok.r, fun H2 v2 l2 x2 st2 hl2 hok2 => ?_⟩
            have x := e1.trans x2
            exact fin H2 e.key rv lv v2 ⟨e.key, e.row, e.l, l2⟩ x2 st2 rfl (hrow.ext x) (hl.ext x) hl2 ⟨hok.key, hok.row, hok.l, hok2⟩
          · refine ⟨_, rfl, rfl, _, rfl, iteB (fun _ => ?_) fun _ => ?_⟩
            · refine ⟨_, rfl, _, rfl, _, rfl, _, rfl, ?_⟩
              exact fin H1 e.key rv mv lv ⟨e.key, e.row, e.r, e.l⟩ (Ext.refl _ _) st1 rfl (hrow.ext e1) (hm.ext e1) (hl.ext e1) ⟨hok.key, hok.row, hok.r, hok.l⟩
            · have hok1 := hok.row
              obtain ⟨ra, rfl, hra⟩ := hrow.ext e1
              have fin5 : ∀ (H2 : Hp) (p : Addr) (r2 : List Int), Ext [] H1 H2 → H2 p = none → RowOk r2 → ([V.str e.key, V.ref p, lv, mv]).length ≤ sizeLine ∧ ∀ z, (upd H2 p (.tup (r2.map V.int))) z = none → Q (.ref z) (upd (upd H2 p (.tup (r2.map V.int))) z (.tup [.str e.key, .ref p, lv, mv])) := by
                intro H2 p r2 x2 hp h2
                have x3 := x2.new2 (o := .tup (r2.map V.int)) hp
                have x := e1.trans x3.of
                exact fin _ e.key (.ref p) lv mv ⟨e.key, r2, e.l, e.r⟩ x3.of (st1.ext0 x3) rfl ⟨p, rfl, upd_same⟩ (hl.ext x) (hm.ext x) ⟨hok.key, h2, hok.l, hok.r⟩
              match hrr : e.row, hok1 with
              | [x], ⟨_, _, hx⟩ =>
                rw [hrr] at hra
                have hx0 := hx x (by simp)
                refine ⟨_, rfl, _, rfl, _, rfl, ra, [.int x], rfl, SqT.of hra, (fun _ => ?_), fun z => absurd ⟨rfl, rfl⟩ z⟩
                refine ⟨_, rfl, _, rfl, ra, [.int x], rfl, SqT.of hra, (fun _ => ?_), fun z => absurd ⟨rfl, rfl⟩ z⟩
                refine ⟨ra, ra, _, _, rfl, rfl, SqT.of hra, SqT.of hra, (fun z => nomatch z), (by show 2 ≤ sizeLine; decide), (fun z => nomatch z), fun _ p hp => ⟨_, rfl, _, rfl, ?_⟩⟩
                exact fin5 H1 p [x, x] (Ext.refl _ _) hp ⟨(by simp), (by simp), fun n hn => by
                  have : n = x := by simpa using hn
                  rw [this]; exact hx0⟩
              | [x, y], ⟨_, _, hx⟩ =>
                rw [hrr] at hra
                refine ⟨_, rfl, _, rfl, _, rfl, ra, [.int x, .int y], rfl, SqT.of hra, (fun z => absurd z.2 (by show ¬ (1 : Nat) = 2; decide)), fun _ p hp => ?_⟩
                have x2 := Ext.new (S := ([] : List Addr)) (o := .tup [.int x]) hp
                refine ⟨_, rfl, _, rfl, ra, [.int x, .int y], rfl, SqT.of (x2.tup hra), (fun _ => ?_), fun z => absurd ⟨rfl, rfl⟩ z⟩
                refine ⟨p, ra, _, _, rfl, rfl, SqT.of upd_same, SqT.of (x2.tup hra), (fun z => nomatch z), (by show 3 ≤ sizeLine; decide), (fun z => nomatch z), fun _ p2 hp2 => ⟨_, rfl, _, rfl, ?_⟩⟩
                exact fin5 _ p2 [x, x, y] x2 hp2 ⟨(by simp), (by simp), fun n hn => hx n (by
                  simp only [List.mem_cons, List.not_mem_nil, or_false] at hn ⊢
                  omega)⟩
              | [x, y, z], ⟨_, _, hx⟩ =>
                rw [hrr] at hra
                refine ⟨_, rfl, _, rfl, _, rfl, ra, [.int x, .int y, .int z], rfl, SqT.of hra, (fun z => absurd z.2 (by show ¬ (1 : Nat) = 3; decide)), fun _ p hp => ?_⟩
                have x2 := Ext.new (S := ([] : List Addr)) (o := .tup [.int x]) hp
                refine ⟨_, rfl, _, rfl, ra, [.int x, .int y, .int z], rfl, SqT.of (x2.tup hra), (fun z => absurd z.2 (by show ¬ (2 : Nat) = 3; decide)), fun _ p3 hp3 => ?_⟩
                have x3 := x2.new2 (o := .tup [.int x, .int y]) hp3
                refine ⟨p, p3, _, _, rfl, rfl, SqT.of ((Ext.new (S := []) hp3).tup upd_same), SqT.of upd_same, (fun z => nomatch z), (by show 3 ≤ sizeLine; decide), (fun z => nomatch z), fun _ p2 hp2 => ⟨_, rfl, _, rfl, ?_⟩⟩
                exact fin5 _ p2 [x, x, y] x3 hp2 ⟨(by simp), (by simp), fun n hn => hx n (by
                  simp only [List.mem_cons, List.not_mem_nil, or_false] at hn ⊢
                  omega)⟩
              | [], ⟨h, _⟩ => exact absurd h (by decide)
              | _ :: _ :: _ :: _ :: _, ⟨_, h, _⟩ => exact absurd h (by simp only [List.length_cons]; omega)
abbrev s__law_turned : Stmt := tp 64
theorem sc__law_turned : FnScope ["_law_state", "_law_certificate", "_law_others", "_law_made", "_law_k", "_law_choice", "_law_at"] ["_law_state", "_law_certificate", "_law_others"] (defScope s__law_turned) := ⟨rfl, rfl, rfl, by decide +kernel, rfl, by decide +kernel, by decide +kernel⟩
abbrev ps__law_turned : List Str := ["_law_state", "_law_certificate", "_law_others"]
abbrev sl__law_turned : List Str := ["_law_state", "_law_certificate", "_law_others", "_law_made", "_law_k", "_law_choice", "_law_at"]
theorem ok__law_turned (F : FnP K "_law_turned" "_law_turned" s__law_turned f fd) (T : Txt K mg A) (O__law_draw : OkF P w K mg base CX0 1 "_law_draw" ps__law_draw spDraw) (O__law_turned_entry : OkF P w K mg base CX0 3 "_law_turned_entry" ps__law_turned_entry spTEn) : FnOk P w K mg base CX0 4 f fd ps__law_turned spTur := by
  refine F.ok sc__law_turned (fun vs H Q E h => ?_) (fun cdv A' outer s0 H vs Q E hr h => ?_)
  · obtain ⟨a, b, c, o, cert, oth, rfl, _⟩ := h
    rfl
  · obtain ⟨a, b, c, o, cert, oth, rfl, hst, ⟨cvs, hc, hcA⟩, hca, hcok, ⟨ovs, ho, hoA⟩, hoa, hook, h100, ho100, q⟩ := h
    refine ⟨_, PSs.nox (pss_cons (ps_set (i := 3) sc__law_turned.nd rfl (Or.inl rfl) (pe_callTy call_list_of (by rfl) T.list (by decide +kernel) (pa_cons (pv 1) pa_nil)))
        (pss_cons (ps_for PassesOwn.never rfl (pi_range1 (by rfl) T.range (pa_cons (pe_op op_add pe_int (pe_f O__law_draw (hr.mono (by decide)) pass0 (pa_cons (pv 0) (pa_cons pe_int pa_nil)))) pa_nil)) (pg_name (i := 4) sc__law_turned.nd rfl (Or.inl rfl))
          (pss_cons (ps_set (i := 5) sc__law_turned.nd rfl (Or.inl rfl) (pe_f O__law_draw (hr.mono (by decide)) pass0 (pa_cons (pv 0) (pa_cons pe_int pa_nil))))
          (pss_cons (ps_set (i := 6) sc__law_turned.nd rfl (Or.inl rfl) (pe_f O__law_draw (hr.mono (by decide)) pass0 (pa_cons (pv 0) (pa_cons (pe_op op_add (pe_callB call_len_seq (by rfl) T.len PySem.boot_len (pa_cons (pv 3) pa_nil)) pe_int) pa_nil))))
          (pss_one (ps_if (pt_cmpR op_eq (pv 5) pe_int (nomark _))
            (pss_one (ps_set (i := 3) sc__law_turned.nd rfl (Or.inl rfl) (pe_op op_cat (pe_slice sl_list (pv 3) po_none (po_some (pv 6))) (pe_slice sl_list (pv 3) (po_some (pe_op op_add (pv 6) pe_int)) po_none))))
            (pss_one (ps_if (PW.pt (pw_and (pt_cmpR op_eq (pv 5) pe_int (nomark _)) (pw_and1 (pt_cmpR op_gt (pe_callB call_len_seq (by rfl) T.len PySem.boot_len (pa_cons (pv 2) pa_nil)) pe_int (nomark _)))))
              (pss_one (ps_set (i := 3) sc__law_turned.nd rfl (Or.inl rfl) (pe_op op_cat (pe_op op_cat (pe_slice sl_list (pv 3) po_none (po_some (pv 6))) (pe_lst (pa_cons (pe_ix ix_list (pv 2) (pe_f O__law_draw (hr.mono (by decide)) pass0 (pa_cons (pv 0) (pa_cons (pe_callB call_len_seq (by rfl) T.len PySem.boot_len (pa_cons (pv 2) pa_nil)) pa_nil))) (fun _ _ => rfl)) pa_nil))) (pe_slice sl_list (pv 3) (po_some (pe_op op_add (pv 6) (pe_f O__law_draw (hr.mono (by decide)) pass0 (pa_cons (pv 0) (pa_cons pe_int pa_nil))))) po_none))))
              (pss_one (ps_if (pt_cmpR op_eq (pv 5) pe_int (nomark _))
                (pss_one (ps_set (i := 3) sc__law_turned.nd rfl (Or.inl rfl) (pe_op op_cat (pe_op op_cat (pe_slice sl_list (pv 3) po_none (po_some (pv 6))) (pe_slice sl_list (pv 3) (po_some (pv 6)) (po_some (pe_op op_add (pv 6) pe_int)))) (pe_slice sl_list (pv 3) (po_some (pv 6)) po_none))))
                (pss_one (ps_if (pt_cmpR op_eq (pv 5) pe_int (nomark _))
                  (pss_one (ps_set (i := 3) sc__law_turned.nd rfl (Or.inl rfl) (pe_op op_cat (pe_slice sl_list (pv 3) (po_some (pv 6)) po_none) (pe_slice sl_list (pv 3) po_none (po_some (pv 6))))))
                  (pss_one (ps_if (pt_cmpR op_lt (pv 6) (pe_callB call_len_seq (by rfl) T.len PySem.boot_len (pa_cons (pv 3) pa_nil)) (nomark _))
                    (pss_one (ps_asg (pe_f O__law_turned_entry (hr.mono (by decide)) pass0 (pa_cons (pv 0) (pa_cons (pe_ix ix_list (pv 3) (pv 6) (fun _ _ => rfl)) pa_nil))) (pg_sub (pv 3) (pv 6) set_list)))
                    (pss_nil))))))))))))))
        (pss_one (ps_ret (pv 3))))), ?_⟩
    refine ⟨_, rfl, c, cvs, rfl, .inl (SqL.of hc), fun m hm => ?_⟩
    have e0 := Ext.new (S := ([] : List Addr)) (o := .lst cvs) hm
    have hma : m ≠ a := by
      obtain ⟨_, _, _, _, h, _⟩ := hst
      exact none_ne hm h
    refine ⟨_, rfl, a, b, _, rfl, by decide, by decide, hst.ext0 e0, fun H1 n hn e1 st1 => ⟨_, _, rfl, rfl, _, rfl, by omega, by omega, ?_⟩⟩
    have hcount : (1 + (n : Int)).toNat = n + 1 := by omega
    rw [hcount]
    have e01 := e0.of.trans e1
    refine for_range (lo := 0) (n := n + 1) (fun i σ H' => Ext [a] H H' ∧ StAt H' a b ∧ ∃ m res z4 z5 z6, σ = [some (.ref a), some (.ref c), some (.ref o), some (.ref m), z4, z5, z6] ∧ H m = none ∧ LsAt EnAt H' m res ∧ (∀ e ∈ res, EnOk e) ∧ res.length ≤ cert.length + i) ⟨e01, st1, m, cert, none, none, none, rfl, hm, ⟨cvs, e1.lst upd_same (by simpa using hma), hcA.imp fun _ _ => EnAt.ext e01⟩, hcok, Nat.le_refl _⟩ ?_ ?_
    · rintro i σ H2 hi ⟨e2, st2, m, res, z4, z5, z6, rfl, hm, ⟨mvs, hm2, hmA⟩, hrok, hrl⟩
      have hma : m ≠ a := by
        obtain ⟨_, _, _, _, h, _⟩ := hst
        exact none_ne hm h
      have hmb : b ≠ m := by
        obtain ⟨_, _, _, _, _, h⟩ := hst
        exact (none_ne hm h).symm
      have hml := hmA.length
      refine ⟨_, rfl, a, b, _, rfl, by decide, by decide, st2, fun H3 ch hch e3 st3 => ?_⟩
      have hm3 := e3.lst hm2 (by simpa using hma)
      refine ⟨_, rfl, _, rfl, m, _, rfl, .inl (SqL.of hm3), _, _, rfl, rfl, a, b, (mvs.length : Int) + 1, rfl, by omega, by omega, st3, fun H4 at_ hat e4 st4 => ?_⟩
      have hm4 := e4.lst hm3 (by simpa using hma)
      have e24 := (e2.trans e3).trans e4
      have hmA4 := hmA.imp fun v e h => EnAt.ext (e3.trans e4) h
      have keep : ∀ (H5 H6 : Hp) (m' : Addr) (vs' : List V) (res' : List En) (σ' : L2.St), (∃ y4 y5 y6, σ' = [some (.ref a), some (.ref c), some (.ref o), some (.ref m'), y4, y5, y6]) → Ext [a] H4 H5 → StAt H5 a b → H5 m' = none → H6 = upd H5 m' (.lst vs') → A2 (EnAt H5) vs' res' → (∀ e ∈ res', EnOk e) → res'.length ≤ cert.length + (i + 1) →
          Ext [a] H H6 ∧ StAt H6 a b ∧ ∃ m res z4 z5 z6, σ' = [some (.ref a), some (.ref c), some (.ref o), some (.ref m), z4, z5, z6] ∧ H m = none ∧ LsAt EnAt H6 m res ∧ (∀ e ∈ res, EnOk e) ∧ res.length ≤ cert.length + (i + 1) := by
        rintro H5 H6 m' vs' res' σ' ⟨y4, y5, y6, rfl⟩ x5 st5 hm' rfl hA' hok' hl'
        have x6 := Ext.new (S := ([] : List Addr)) (o := .lst vs') hm'
        exact ⟨(e24.trans x5).trans x6.of, st5.ext0 x6, m', res', y4, y5, y6, rfl, e24.dom _ (x5.dom _ hm'), ⟨vs', upd_same, hA'.imp fun _ _ => EnAt.ext x6⟩, hok', hl'⟩
      have tk : ∀ e ∈ res.take at_, EnOk e := fun e he => hrok e (List.mem_of_mem_take he)
      have dk : ∀ k, ∀ e ∈ res.drop k, EnOk e := fun k e he => hrok e (List.mem_of_mem_drop he)
      refine ⟨_, rfl, rfl, _, rfl, iteB (fun _ => ?_) fun _ => ?_⟩
      · refine ⟨_, rfl, _, rfl, _, rfl, m, mvs, rfl, SqL.of hm4, fun p1 hp1 => ?_⟩
        rw [cut_take]
        have x1 := Ext.new (S := ([] : List Addr)) (o := .lst (mvs.take at_)) hp1
        refine ⟨_, rfl, _, rfl, _, _, rfl, rfl, _, rfl, m, mvs, rfl, SqL.of (x1.lst hm4 (by simp)), fun p2 hp2 => ?_⟩
        rw [nat1, cut_drop]
        have x2 := x1.new2 (o := .lst (mvs.drop (at_ + 1))) hp2
        refine ⟨p1, p2, _, _, rfl, rfl, (Ext.new (S := []) hp2).lst upd_same (by simp), upd_same, ?_, fun p3 hp3 => ?_⟩
        · rw [List.length_take, List.length_drop]
          exact smallS (by omega)
        · refine keep _ _ p3 _ (res.take at_ ++ res.drop (at_ + 1)) _ ⟨_, _, _, rfl⟩ x2.of (st4.ext0 x2) hp3 rfl ((hmA4.take _).app (hmA4.drop _) |>.imp fun _ _ => EnAt.ext x2) (fun e he => (List.mem_append.mp he).elim (tk e) (dk _ e)) ?_
          rw [List.length_append, List.length_take, List.length_drop]
          omega
      · refine ⟨_, rfl, rfl, _, rfl, iteB (fun _ => ⟨_, rfl, o, _, rfl, .inl (SqL.of (e24.lst ho (by simpa using hoa))), _, _, rfl, rfl, _, rfl, iteD (fun hpos => ?main) fun _ => ?r1⟩) fun _ => ?r2⟩
        case main =>
          refine ⟨_, rfl, _, rfl, _, rfl, m, mvs, rfl, SqL.of hm4, fun p1 hp1 => ?_⟩
          rw [cut_take]
          have x1 := Ext.new (S := ([] : List Addr)) (o := .lst (mvs.take at_)) hp1
          have ho5 := x1.lst (e24.lst ho (by simpa using hoa)) (by simp)
          have hp1a : p1 ≠ a := by
            obtain ⟨_, _, _, _, h, _⟩ := st4
            exact none_ne hp1 h
          refine ⟨_, rfl, _, rfl, _, rfl, o, _, rfl, .inl (SqL.of ho5), a, b, (ovs.length : Int), rfl, hpos, ?_, st4.ext0 x1, fun H6 k hk x6 st6 => ?_⟩
          · rw [hoA.length]; omega
          · have hko : k < oth.length := by rw [← hoA.length]; omega
            obtain ⟨oe, hoe⟩ : ∃ oe, oth[k]? = some oe := ⟨_, List.getElem?_eq_getElem hko⟩
            obtain ⟨ov, hov, hoen⟩ := hoA.get hoe
            have x16 := x1.of.trans x6
            refine ⟨o, ovs, _, ov, rfl, rfl, SqL.of (x6.lst ho5 (by simpa using hoa)), atI_nat hov, (by show 1 ≤ sizeLine; decide), fun p2 hp2 => ?_⟩
            have x7 := Ext.new (S := ([] : List Addr)) (o := .lst [ov]) hp2
            have hp16 := x6.lst (new_at (o := .lst (mvs.take at_)) hp1) (by simpa using hp1a)
            refine ⟨p1, p2, _, _, rfl, rfl, x7.lst hp16 (by simp), upd_same, ?_, fun p3 hp3 => ?_⟩
            · rw [List.length_take]
              exact smallS (by show _ + 1 ≤ _; omega)
            · have x8 := x7.new2 (o := .lst (mvs.take at_ ++ [ov])) hp3
              have hp3a : p3 ≠ a := by
                obtain ⟨_, _, _, _, h, _⟩ := st6.ext0 x7
                exact none_ne hp3 h
              refine ⟨_, rfl, _, rfl, _, rfl, a, b, _, rfl, by decide, by decide, st6.ext0 x8, fun H9 d2 hd2 x9 st9 => ?_⟩
              have x19 := (x16.trans x8.of).trans x9
              refine ⟨_, _, rfl, rfl, _, rfl, m, mvs, rfl, SqL.of (x19.lst hm4 (by simpa using hma)), fun p4 hp4 => ?_⟩
              have e5 : ((at_ : Int) + (d2 : Int)) = ((at_ + d2 : Nat) : Int) := by omega
              rw [e5, cut_drop]
              have x10 := Ext.new (S := ([] : List Addr)) (o := .lst (mvs.drop (at_ + d2))) hp4
              have x110 := x19.trans x10.of
              refine ⟨p3, p4, _, _, rfl, rfl, x10.lst (x9.lst (new_at (o := .lst (mvs.take at_ ++ [ov])) hp3) (by simpa using hp3a)) (by simp), upd_same, ?_, fun p5 hp5 => ?_⟩
              · rw [List.length_append, List.length_take, List.length_drop]
                exact smallS (by show _ + 1 + _ ≤ _; omega)
              · refine keep _ _ p5 _ (res.take at_ ++ [oe] ++ res.drop (at_ + d2)) _ ⟨_, _, _, rfl⟩ x110 (st9.ext0 x10) hp5 rfl (((hmA4.take _).imp fun _ _ => EnAt.ext x110).app (A2.one (EnAt.ext x110 (EnAt.ext e24 hoen))) |>.app ((hmA4.drop _).imp fun _ _ => EnAt.ext x110)) (fun e he => ?_) ?_
                · rcases List.mem_append.mp he with he | he
                  · rcases List.mem_append.mp he with he | he
                    · exact tk e he
                    · rw [List.mem_singleton.mp he]
                      exact hook _ (List.mem_of_getElem? hoe)
                  · exact dk _ e he
                · rw [List.length_append, List.length_append, List.length_take, List.length_drop, List.length_singleton]
                  omega
        case r1 | r2 =>
          refine ⟨_, rfl, rfl, _, rfl, iteB (fun _ => ?_) fun _ => ?_⟩
          · refine ⟨_, rfl, _, rfl, _, rfl, m, mvs, rfl, SqL.of hm4, fun p1 hp1 => ?_⟩
            rw [cut_take]
            have x1 := Ext.new (S := ([] : List Addr)) (o := .lst (mvs.take at_)) hp1
            refine ⟨_, rfl, _, rfl, _, rfl, _, rfl, _, _, rfl, rfl, _, rfl, m, mvs, rfl, SqL.of (x1.lst hm4 (by simp)), fun p2 hp2 => ?_⟩
            rw [cut_one]
            have x2 := x1.new2 (o := .lst ((mvs.drop at_).take 1)) hp2
            refine ⟨p1, p2, _, _, rfl, rfl, (Ext.new (S := []) hp2).lst upd_same (by simp), upd_same, ?_, fun p3 hp3 => ?_⟩
            · rw [List.length_take, List.length_take, List.length_drop]
              exact smallS (by omega)
            · have x3 := x2.new2 (o := .lst (mvs.take at_ ++ (mvs.drop at_).take 1)) hp3
              refine ⟨_, rfl, _, rfl, _, rfl, m, mvs, rfl, SqL.of (x3.lst hm4 (by simp)), fun p4 hp4 => ?_⟩
              rw [cut_drop]
              have x4 := x3.new2 (o := .lst (mvs.drop at_)) hp4
              refine ⟨p3, p4, _, _, rfl, rfl, (Ext.new (S := []) hp4).lst upd_same (by simp), upd_same, ?_, fun p5 hp5 => ?_⟩
              · rw [List.length_append, List.length_take, List.length_take, List.length_drop]
                exact smallS (by omega)
              · refine keep _ _ p5 _ (res.take at_ ++ (res.drop at_).take 1 ++ res.drop at_) _ ⟨_, _, _, rfl⟩ x4.of (st4.ext0 x4) hp5 rfl ((((hmA4.take _).app ((hmA4.drop _).take _)).app (hmA4.drop _)).imp fun _ _ => EnAt.ext x4) (fun e he => ?_) ?_
                · rcases List.mem_append.mp he with he | he
                  · rcases List.mem_append.mp he with he | he
                    · exact tk e he
                    · exact dk _ e (List.mem_of_mem_take he)
                  · exact dk _ e he
                · rw [List.length_append, List.length_append, List.length_take, List.length_take, List.length_drop]
                  omega
          · refine ⟨_, rfl, rfl, _, rfl, iteB (fun _ => ?_) fun _ => ?_⟩
            · refine ⟨_, rfl, _, rfl, _, rfl, m, mvs, rfl, SqL.of hm4, fun p1 hp1 => ?_⟩
              rw [cut_drop]
              have x1 := Ext.new (S := ([] : List Addr)) (o := .lst (mvs.drop at_)) hp1
              refine ⟨_, rfl, _, rfl, _, rfl, m, mvs, rfl, SqL.of (x1.lst hm4 (by simp)), fun p2 hp2 => ?_⟩
              rw [cut_take]
              have x2 := x1.new2 (o := .lst (mvs.take at_)) hp2
              refine ⟨p1, p2, _, _, rfl, rfl, (Ext.new (S := []) hp2).lst upd_same (by simp), upd_same, ?_, fun p3 hp3 => ?_⟩
              · rw [List.length_take, List.length_drop]
                exact smallS (by omega)
              · refine keep _ _ p3 _ (res.drop at_ ++ res.take at_) _ ⟨_, _, _, rfl⟩ x2.of (st4.ext0 x2) hp3 rfl ((hmA4.drop _).app (hmA4.take _) |>.imp fun _ _ => EnAt.ext x2) (fun e he => (List.mem_append.mp he).elim (dk _ e) (tk e)) ?_
                rw [List.length_append, List.length_take, List.length_drop]
                omega
            · refine ⟨_, rfl, _, rfl, m, _, rfl, .inl (SqL.of hm4), _, _, rfl, rfl, _, rfl, iteD (fun hlt => ?_) fun _ => ?_⟩
              · have hlt' : at_ < res.length := by omega
                obtain ⟨re, hre⟩ : ∃ re, res[at_]? = some re := ⟨_, List.getElem?_eq_getElem hlt'⟩
                obtain ⟨rv, hrv, hren⟩ := hmA4.get hre
                refine ⟨_, rfl, _, rfl, _, rfl, m, mvs, _, rv, rfl, rfl, SqL.of hm4, atI_nat hrv, a, b, rv, re, rfl, st4, hren, hrok _ (List.mem_of_getElem? hre), fun H5 v' e' x5 st5 hen hok' => ?_⟩
                have hm5 := x5.lst hm4 (by simpa using hma)
                have hix : ixN mvs.length (at_ : Int) = some at_ := by
                  unfold ixN
                  rw [if_pos (by omega), if_pos (by omega), Int.toNat_natCast]
                have x6 : Ext [m] H5 (upd H5 m (.lst (mvs.set at_ v'))) := Ext.wrL hm5 List.mem_cons_self
                refine ⟨_, rfl, _, rfl, m, mvs, _, at_, rfl, rfl, hm5, hix, (e24.trans x5).then x6 (fun b hb => .inr (by rw [List.mem_singleton.mp hb]; exact hm)), st5.ext x6 (by simpa using hma.symm) (by simpa using hmb), m, res.set at_ e', _, _, _, rfl, hm, ⟨_, upd_same, ((hmA4.imp fun _ _ => EnAt.ext x5).set at_ hen).imp fun _ _ => EnAt.ext x6⟩, fun e he => ?_, by rw [List.length_set]; omega⟩
                rcases List.mem_or_eq_of_mem_set he with he | he
                · exact hrok e he
                · rw [he]; exact hok'
              · exact ⟨e24, st4, m, res, _, _, _, rfl, hm, ⟨mvs, hm4, hmA4⟩, hrok, by omega⟩
    · rintro σ H2 ⟨e2, st2, m, res, z4, z5, z6, rfl, hm, hl, hrok, hrl⟩
      exact ⟨_, rfl, q H2 m res e2 st2 hm hl hrok (by omega)⟩
end
end RR
end
section
set_option Elab.async false
set_option linter.all false
set_option maxRecDepth 100000
set_option maxHeartbeats 4000000
/-! Pages; the law's world. -/
namespace RR
open PySem PySem.Spec PyProof.Rows L2
theorem kb_empty {k : Str} (h : 1 ≤ k.length) : kb "" k := by
  show ("" : Str).cps.toList < k.cps.toList
  have e : ("" : Str).cps.toList = [] := rfl
  rw [e]
  have hl : k.cps.toList.length = k.length := Array.length_toList
  cases hk : k.cps.toList with
  | nil => rw [hk] at hl; simp at hl; omega
  | cons a r => exact List.nil_lt_cons a r
theorem filter_all {α : Type} {p : α → Bool} {l : List α} (h : ∀ a ∈ l, p a = true) : l.filter p = l := List.filter_eq_self.mpr h
theorem behind_all {key : Str} {t : Tab} (h : ∀ q ∈ t, kb key q.1) : behind key t = t := filter_all fun q hq => decide_eq_true (h q hq)
theorem behind_drop {t : Tab} (hu : Up t) (hok : TabOk t) (m : Nat) : behind (lastK (t.take m)) t = t.drop m := by
  have e0 : t = t.take m ++ t.drop m := (List.take_append_drop m t).symm
  have key : ∀ key, behind key t = behind key (t.take m) ++ behind key (t.drop m) := fun key => by
    unfold behind
    rw [← List.filter_append, List.take_append_drop]
  by_cases hne : t.take m = []
  · have hl : lastK (t.take m) = "" := by rw [hne]; rfl
    rw [key, hl, hne, behind_all (t := t.drop m) fun q hq => kb_empty (hok q (List.mem_of_mem_drop hq)).1.1]
    rfl
  · obtain ⟨init, p, hi⟩ : ∃ init p, t.take m = init ++ [p] := ⟨(t.take m).dropLast, (t.take m).getLast hne, (List.dropLast_concat_getLast hne).symm⟩
    have hl : lastK (t.take m) = p.1 := by
      rw [hi]
      unfold lastK
      rw [List.getLast?_append]
      rfl
    have hu2 : Up (init ++ p :: t.drop m) := by
      have : init ++ p :: t.drop m = t := by
        have h9 := List.take_append_drop m t
        rw [hi] at h9
        simpa using h9
      rw [this]
      exact hu
    obtain ⟨_, _, h3, h4⟩ := up_parts hu2
    rw [key, hl, hi]
    have h5 : behind p.1 (init ++ [p]) = [] := behind_none fun q hq => by
      rcases List.mem_append.mp hq with hq | hq
      · exact kb_asymm (h3 q hq)
      · rw [List.mem_singleton.mp hq]
        exact kb_irrefl _
    rw [h5, behind_all h4]
    rfl
theorem kn_ents (u : Ru) (key : Str) (most : Nat) : ∀ (n : Nat) (t : Tr) (s s' : List En) (f f' : Tab), TabOk t.rows → walk (Kn u) key most n s t f = some (.ok (s', f')) → ∃ new, s' = s ++ new ∧ (∀ e ∈ new, EnOk e) ∧ new.length ≤ t.rows.length := by
  intro n
  induction n with
  | zero => intro t s s' f f' _ h; cases h
  | succ n ih =>
    intro t s s' f f' hok h
    rw [walk_succ] at h
    by_cases h0 : (Kn u).cnt t = 0 ∨ most ≤ f.length
    · rw [if_pos h0] at h
      cases h
      exact ⟨[], by simp, (fun e he => by cases he), Nat.zero_le _⟩
    · rw [if_neg h0] at h
      cases t with
      | leaf => exact absurd (.inl rfl) h0
      | node k r a b =>
        simp only [show (Kn u).opn s (Tr.node k r a b) = .ok (s ++ [Tr.en u k r a b], k, r, a, b) from rfl] at h
        have hen := (Tr.en_ok u _ hok).2 k r a b rfl
        have ha : TabOk a.rows := fun p hp => hok p (List.mem_append_left _ hp)
        have hb : TabOk b.rows := fun p hp => hok p (List.mem_append_right _ (List.mem_cons_of_mem _ hp))
        have hrl : (Tr.node k r a b).rows.length = a.rows.length + b.rows.length + 1 := by
          show (a.rows ++ (k, r) :: b.rows).length = _
          rw [List.length_append, List.length_cons]
          omega
        by_cases hk : kb key k
        · rw [if_pos hk] at h
          cases h1 : walk (Kn u) key most n (s ++ [Tr.en u k r a b]) a f with
          | none => rw [h1] at h; cases h
          | some v =>
            cases v with
            | error e => rw [h1] at h; cases h
            | ok v =>
              obtain ⟨s2, f2⟩ := v
              rw [h1] at h
              simp only at h
              obtain ⟨n1, e1, o1, l1⟩ := ih a _ s2 f f2 ha h1
              obtain ⟨n2, e2, o2, l2⟩ := ih b s2 s' _ f' hb h
              refine ⟨[Tr.en u k r a b] ++ n1 ++ n2, by rw [e2, e1]; simp only [List.append_assoc], fun e he => ?_, ?_⟩
              · rcases List.mem_append.mp he with he | he
                · rcases List.mem_append.mp he with he | he
                  · rw [List.mem_singleton.mp he]; exact hen
                  · exact o1 e he
                · exact o2 e he
              · rw [List.length_append, List.length_append, List.length_singleton]
                omega
        · rw [if_neg hk] at h
          obtain ⟨n2, e2, o2, l2⟩ := ih b _ s' _ f' hb h
          refine ⟨[Tr.en u k r a b] ++ n2, by rw [e2]; simp only [List.append_assoc], fun e he => ?_, ?_⟩
          · rcases List.mem_append.mp he with he | he
            · rw [List.mem_singleton.mp he]; exact hen
            · exact o2 e he
          · rw [List.length_append, List.length_singleton]
            omega
/-- an honest page -/
theorem page (u : Ru) {t : Tab} (hu : Up t) (hok : TabOk t) (h18 : t.length ≤ 16) (m n : Nat) :
    ∃ es, walk (Kn u) (lastK (t.take m)) n 20 ([] : List En) (tr t) [] = some (.ok (es, (t.drop m).take n)) ∧ (∀ e ∈ es, EnOk e) ∧ List.length es ≤ t.length ∧ readT u ((tr t).lk u) (lastK (t.take m)) n es = .ans ((t.drop m).take n) := by
  have hrows := tr_rows t
  obtain ⟨es, hw⟩ := kn_walk u (lastK (t.take m)) n 20 (tr t) [] [] (Nat.lt_of_le_of_lt (ht_rows _) (by rw [hrows]; omega)) (by rw [hrows]; exact hu) (Nat.zero_le _)
  rw [List.nil_append, List.nil_append, hrows, behind_drop hu hok] at hw
  obtain ⟨new, e1, e2, e3⟩ := kn_ents u _ _ _ _ _ _ _ _ (by rw [hrows]; exact hok) hw
  rw [List.nil_append] at e1
  subst e1
  rw [hrows] at e3
  have hg := (kn_gv u _ _ _ _ _ _ _ _ hw).2 es [] (by rw [List.append_nil])
  refine ⟨es, hw, e2, e3, ?_⟩
  obtain ⟨r, hr, _⟩ := gv_walk u es (lastK (t.take m)) n (es.length + 2) 0 ((tr t).lk u) [] (Nat.zero_le _) (by omega)
  have hr2 := walk_mono (Gv u es) _ _ _ 20 _ _ _ _ (by omega) hr
  have hg2 : walk (Gv u es) (lastK (t.take m)) n 20 (0 : Nat) ((tr t).lk u) [] = some (.ok (es.length, (t.drop m).take n)) := hg
  have e4 : r = .ok (es.length, (t.drop m).take n) := Option.some.inj (hr2.symm.trans hg2)
  unfold readT
  rw [hr, e4]
  show (if es.length < es.length then _ else _) = _
  rw [if_neg (Nat.lt_irrefl _)]
theorem take_page (t : Tab) (m n : Nat) : t.take m ++ (t.drop m).take n = t.take (m + n) := by rw [List.take_add]
/-! ### what stands while the law goes -/
structure LW (A : Ad) (B : Tbs) (u : Ru) (n : Nat) (tab : Tab) (a b t : Addr) (rv hv : V) (H : Hp) : Prop where
  st : StAt H a b
  ru : RuAt H rv u
  tb : LsAt PrAt H t tab
  hd : LkAt H hv ((tr tab).lk u)
  ts : Tabs B H
theorem LW.ext {A : Ad} {B : Tbs} {u : Ru} {n : Nat} {tab : Tab} {a b t : Addr} {rv hv : V} {S : List Addr} {H H' : Hp} (e : Ext S H H') (ha : a ∉ S) (hb : b ∉ S) (ht : t ∉ S) (h : LW A B u n tab a b t rv hv H) : LW A B u n tab a b t rv hv H' :=
  ⟨h.st.ext e ha hb, h.ru.ext e, h.tb.pr e ht, h.hd.ext e, h.ts.ext e⟩
theorem LW.ext0 {A : Ad} {B : Tbs} {u : Ru} {n : Nat} {tab : Tab} {a b t : Addr} {rv hv : V} {H H' : Hp} (e : Ext [] H H') (h : LW A B u n tab a b t rv hv H) : LW A B u n tab a b t rv hv H' := h.ext e (fun z => nomatch z) (fun z => nomatch z) (fun z => nomatch z)
theorem LW.extA {A : Ad} {B : Tbs} {u : Ru} {n : Nat} {tab : Tab} {a b t : Addr} {rv hv : V} {H H' : Hp} (e : Ext [a] H H') (hs : StAt H' a b) (ht : t ≠ a) (h : LW A B u n tab a b t rv hv H) : LW A B u n tab a b t rv hv H' :=
  ⟨hs, h.ru.ext e, h.tb.pr e (by simpa using ht), h.hd.ext e, h.ts.ext e⟩
theorem nin3 {p x y z : Addr} (h1 : p ≠ x) (h2 : p ≠ y) (h3 : p ≠ z) : p ∉ [x, y, z] := by
  simp only [List.mem_cons, List.not_mem_nil, or_false, not_or]
  exact ⟨h1, h2, h3⟩
theorem nin1 {p x : Addr} (h1 : p ≠ x) : p ∉ [x] := by simpa using h1
theorem LsAt.some {α : Type} {R : Hp → V → α → Prop} {H : Hp} {p : Addr} {xs : List α} (h : LsAt R H p xs) : ∃ o, H p = some o := let ⟨vs, h, _⟩ := h; ⟨_, h⟩
theorem LsAt.ne {α : Type} {R : Hp → V → α → Prop} {H : Hp} {p q : Addr} {xs : List α} (h : LsAt R H p xs) (hq : H q = none) : p ≠ q := let ⟨vs, h, _⟩ := h; ne_of_none h hq
theorem StAt.ne1 {H : Hp} {a b q : Addr} (h : StAt H a b) (hq : H q = none) : a ≠ q := let ⟨_, _, _, _, h, _⟩ := h; ne_of_none h hq
theorem StAt.ne2 {H : Hp} {a b q : Addr} (h : StAt H a b) (hq : H q = none) : b ≠ q := let ⟨_, _, _, _, _, h⟩ := h; ne_of_none h hq
theorem CoAt.ne1 {A : Ad} {u : Ru} {l : Lk} {n : Nat} {c ro q : Addr} {H : Hp} {tab : Tab} (h : CoAt A u l n c ro H tab) (hq : H q = none) : c ≠ q := let ⟨_, _, _, h, _⟩ := h; ne_of_none h hq
theorem CoAt.ne2 {A : Ad} {u : Ru} {l : Lk} {n : Nat} {c ro q : Addr} {H : Hp} {tab : Tab} (h : CoAt A u l n c ro H tab) (hq : H q = none) : ro ≠ q := let ⟨_, _, _, _, _, _, h⟩ := h; h.ne hq
theorem tr_c (u : Ru) (tab : Tab) : ((tr tab).lk u).c = (tab.length : Int) := by rw [Tr.c_rows, tr_rows]
theorem tab_sok {t : Tab} (h : TabOk t) : ∀ p ∈ t, SOk p.1 := fun p hp => key_sok (h p hp).1
theorem lastK_sok {t : Tab} (h : TabOk t) : SOk (lastK t) := by
  unfold lastK
  cases e : t.getLast? with
  | none => decide +kernel
  | some p => exact key_sok (h p (List.mem_of_getLast? e)).1
def spLaw (K : PySem.W.Frag) (B : Tbs) : Sp := fun vs H Q _ => ∃ (s : Addr) (ns : List Int), vs = [.ref s] ∧ SqL K H s (ns.map V.int) ∧ ns.length ≤ 63 ∧ Tabs B H ∧ ∀ H', Q (.bl true) H'
theorem CoAt.ins {A : Ad} {u : Ru} {l : Lk} {n : Nat} {c ro : Addr} {H : Hp} {tab : Tab} (h : CoAt A u l n c ro H tab) : ∃ dx fs, H c = some (.ins A.copy dx fs) ∧ fs.lookup ("wanted" : Str) = none ∧ fs.lookup ("add" : Str) = none ∧ fs.lookup ("rows" : Str) = none ∧ fs.lookup ("is_whole" : Str) = none :=
  let ⟨dx, rv, hv, h1, _⟩ := h; ⟨dx, _, h1, copyF_wanted, copyF_add, copyF_mrows, copyF_whole⟩
theorem tIf_of {t : TT} {ta tb : TE} {σ : L2.St} {H : Hp} {Q : VK} (v : V) (h : ∀ Q' : VK, Q' v H → tIf t ta tb σ H Q') (hq : Q v H) : tIf t ta tb σ H Q := h Q hq
def tIfC (t : TT) (ta tb : TE) : TE := fun σ H Q => ∃ v, (∀ Q' : VK, Q' v H → tIf t ta tb σ H Q') ∧ Q v H
theorem pe_ifC {X : Cx} {c a b : Expr} {tA : TT} {ta tb : TE} {pos : Pos} (hc : PT X c tA) (ha : PE X a ta) (hb : PE X b tb) : PE X (.IfExp c a b pos) (tIfC tA ta tb) :=
  ⟨fun pins s σ H Q I ⟨v, h, hq⟩ => (pe_ifExp hc ha hb).run pins s σ H Q I (h Q hq)⟩
theorem cut2 (xs : List V) : cutV xs none (some 2) = xs.take 2 := cut_take xs 2
theorem take_len (t : Tab) (m : Nat) : t.take (t.take m).length = t.take m := by
  rw [List.length_take]
  by_cases h : m ≤ t.length
  · rw [Nat.min_eq_left h]
  · rw [Nat.min_eq_right (by omega), List.take_of_length_le (Nat.le_refl _), List.take_of_length_le (by omega)]
theorem neE {α : Type} [DecidableEq α] (a : α) : (!decide (a = a)) = false := by rw [decide_eq_true rfl]; rfl
end RR
end
section
set_option Elab.async false
set_option linter.all false
set_option maxRecDepth 100000
set_option maxHeartbeats 8000000
/-! The law. -/
namespace RR
open PySem PySem.Spec PyProof.Rows L2
section
variable {P : Program} {w : World} {K : PySem.W.Frag} {mg : Str → Option Value} {base : Heap} {A : Ad} {f : Addr} {fd : FuncData}
abbrev s_law : Stmt := tp 67
theorem sc_law : FnScope ["_law_script", "_law_state", "_law_rule_here", "_law_table_here", "_law_head", "_law_size", "_law_copy", "_law_k", "_law_before", "_law_query", "_law_honest", "_law_given", "_law_due", "_law_made", "_law_other", "_law_j", "_law_whole", "_law_told", "_law_spoilt"] ["_law_script"] (defScope s_law) := ⟨rfl, rfl, rfl, by decide +kernel, rfl, by decide +kernel, by decide +kernel⟩
abbrev ps_law : List Str := ["_law_script"]
abbrev sl_law : List Str := ["_law_script", "_law_state", "_law_rule_here", "_law_table_here", "_law_head", "_law_size", "_law_copy", "_law_k", "_law_before", "_law_query", "_law_honest", "_law_given", "_law_due", "_law_made", "_law_other", "_law_j", "_law_whole", "_law_told", "_law_spoilt"]
theorem ok_law {B : Tbs} (F : FnP K "law" "law" s_law f fd) (T : Txt K mg A) (O__law_rule : OkF P w K mg base CX0 2 "_law_rule" ps__law_rule spRule) (O__law_table : OkF P w K mg base CX0 3 "_law_table" ps__law_table spTable) (O__law_tree : OkF P w K mg base CX0 47 "_law_tree" ps__law_tree (spLTree 40))
    (O__law_draw : OkF P w K mg base CX0 1 "_law_draw" ps__law_draw spDraw) (I_Copy : OkI P w K mg base CX0 1 "Copy" A.copy ps_Copy___init__ (spCopyI A.copy)) (M_Copy_rows : OkM P w K mg base CX0 1 A.copy "rows" ps_Copy_rows (spRows A)) (M_Copy_wanted : OkM P w K mg base CX0 1 A.copy "wanted" ps_Copy_wanted (spWanted A))
    (M_Copy_add : OkM P w K mg base CX0 34 A.copy "add" ps_Copy_add (spAdd A B)) (M_Copy_is_whole : OkM P w K mg base CX0 49 A.copy "is_whole" ps_Copy_is_whole (spWhole A)) (O_answered : OkF P w K mg base CX0 48 "answered" ps_answered (spAns A)) (O__law_turned : OkF P w K mg base CX0 4 "_law_turned" ps__law_turned spTur)
    (O_read : OkF P w K mg base CX0 33 "read" ps_read (spRead B)) (O__law_answer_of : OkF P w K mg base CX0 1 "_law_answer_of" ps__law_answer_of spAOf) (O__law_answer : OkF P w K mg base CX0 1 "_law_answer" ps__law_answer spLAns) (O__law_is_up : OkF P w K mg base CX0 1 "_law_is_up" ps__law_is_up spUp) :
    FnOk P w K mg base CX0 50 f fd ps_law (spLaw K B) := by
  refine F.ok sc_law (fun vs H Q E h => ?_) (fun cdv A' outer s0 H vs Q E hr h => ?_)
  · obtain ⟨s, ns, rfl, _⟩ := h
    rfl
  · obtain ⟨s, ns, rfl, hS, h63, hts, q⟩ := h
    refine ⟨_, PSs.nox (pss_cons (ps_set (i := 1) sc_law.nd rfl (Or.inl rfl) (pe_lst (pa_cons pe_int (pa_cons pe_int (pa_cons (pe_callTy call_list_of (by rfl) T.list (by decide +kernel) (pa_cons (pv 0) pa_nil)) (pa_cons pe_int pa_nil))))))
        (pss_cons (ps_set (i := 2) sc_law.nd rfl (Or.inl rfl) (pe_f O__law_rule (hr.mono (by decide)) pass0 (pa_cons (pv 1) pa_nil)))
        (pss_cons (ps_set (i := 3) sc_law.nd rfl (Or.inl rfl) (pe_f O__law_table (hr.mono (by decide)) pass0 (pa_cons (pv 1) (pa_cons pe_int pa_nil))))
        (pss_cons (ps_set (i := 4) sc_law.nd rfl (Or.inl rfl) (pe_ix ix_list (pe_f O__law_tree (hr.mono (by decide)) pass0 (pa_cons (pv 2) (pa_cons (pv 3) pa_nil))) pe_int (fun _ _ => rfl)))
        (pss_cons (ps_set (i := 5) sc_law.nd rfl (Or.inl rfl) (pe_op op_add pe_int (pe_f O__law_draw (hr.mono (by decide)) pass0 (pa_cons (pv 1) (pa_cons pe_int pa_nil)))))
        (pss_cons (ps_set (i := 6) sc_law.nd rfl (Or.inl rfl) (pe_c I_Copy (hr.mono (by decide)) pass0 (pa_cons (pv 2) (pa_cons (pv 4) (pa_cons (pv 5) pa_nil)))))
        (pss_cons (ps_for PassesOwn.never rfl (pi_range1 (by rfl) T.range (pa_cons pe_int pa_nil)) (pg_name (i := 7) sc_law.nd rfl (Or.inl rfl))
          (pss_cons (ps_set (i := 8) sc_law.nd rfl (Or.inl rfl) (pe_m0 T.copy M_Copy_rows (hr.mono (by decide)) pass0 (pv 6)))
          (pss_cons (ps_if (pt_cmpR (op_neD hr.units) (pv 8) (pe_slice sl_list (pv 3) po_none (po_some (pe_callB call_len_seq (by rfl) T.len PySem.boot_len (pa_cons (pv 8) pa_nil)))) (nomark _))
            (pss_one (ps_ret pe_bl))
            (pss_nil))
          (pss_cons (ps_if (pt_cmpR op_eq (pe_callB call_len_seq (by rfl) T.len PySem.boot_len (pa_cons (pv 8) pa_nil)) (pe_callB call_len_seq (by rfl) T.len PySem.boot_len (pa_cons (pv 3) pa_nil)) (nomark _))
            (pss_one (ps_ret (pe_and (pe_cmpR op_isN (pe_m0 T.copy M_Copy_wanted (hr.mono (by decide)) pass0 (pv 6)) pe_non (nomark _)) (pe_and (pe_cmpR op_isN (pe_m T.copy M_Copy_add (hr.mono (by decide)) pass0 (pv 6) (pa_cons (pe_lst pa_nil) pa_nil)) pe_non (nomark _)) (pe_and (pe_cmpR op_isBl (pe_m0 T.copy M_Copy_is_whole (hr.mono (by decide)) pass0 (pv 6)) pe_bl (nomark _)) (pe_one (pe_cmpR (op_eqD hr.units) (pe_m0 T.copy M_Copy_rows (hr.mono (by decide)) pass0 (pv 6)) (pv 3) (nomark _))))))))
            (pss_nil))
          (pss_cons (ps_set (i := 9) sc_law.nd rfl (Or.inl rfl) (pe_tup (pa_cons pe_str (pa_cons (pe_ifC (pt_cmpR op_gt (pe_callB call_len_seq (by rfl) T.len PySem.boot_len (pa_cons (pv 8) pa_nil)) pe_int (nomark _)) (pe_ix ix_tup (pe_ix ix_list (pv 8) (pe_un un_neg pe_int) (fun _ _ => rfl)) pe_int (fun _ _ => rfl)) pe_str) (pa_cons (pv 5) pa_nil)))))
          (pss_cons (ps_if (PW.pt (pw_or (pt_cmpR (op_neD hr.units) (pe_m0 T.copy M_Copy_wanted (hr.mono (by decide)) pass0 (pv 6)) (pv 9) (nomark _)) (pw_or1 (pt_cmpR op_notBl (pe_m0 T.copy M_Copy_is_whole (hr.mono (by decide)) pass0 (pv 6)) pe_bl (nomark _)))))
            (pss_one (ps_ret pe_bl))
            (pss_nil))
          (pss_cons (ps_set (i := 10) sc_law.nd rfl (Or.inl rfl) (pe_ix ix_tup (pe_f O_answered (hr.mono (by decide)) pass0 (pa_cons (pv 2) (pa_cons (pe_callTy call_list_of (by rfl) T.list (by decide +kernel) (pa_cons (pv 3) pa_nil)) (pa_cons (pv 9) pa_nil)))) pe_int (fun _ _ => rfl)))
          (pss_cons (ps_set (i := 11) sc_law.nd rfl (Or.inl rfl) (pe_f O__law_turned (hr.mono (by decide)) pass0 (pa_cons (pv 1) (pa_cons (pv 10) (pa_cons (pe_slice sl_list (pv 10) po_none (po_some pe_int)) pa_nil)))))
          (pss_cons (ps_set (i := 12) sc_law.nd rfl (Or.inl rfl) (pe_f O_read (hr.mono (by decide)) pass0 (pa_cons (pv 2) (pa_cons (pv 4) (pa_cons (pv 9) (pa_cons (pe_callTy call_list_of (by rfl) T.list (by decide +kernel) (pa_cons (pv 11) pa_nil)) pa_nil))))))
          (pss_cut (ps_if (PW.pt (pw_and (pt_cmpR op_eq (pe_ix ix_tup (pv 12) pe_int (fun _ _ => rfl)) pe_str (nomark _)) (pw_and1 (PW.pt (pw_or (pt_cmpR (op_neD hr.units) (pe_m T.copy M_Copy_add (hr.mono (by decide)) pass0 (pv 6) (pa_cons (pe_callTy call_list_of (by rfl) T.list (by decide +kernel) (pa_cons (pv 11) pa_nil)) pa_nil)) (pv 12) (nomark _)) (pw_or1 (pt_cmpR (op_neD hr.units) (pe_m0 T.copy M_Copy_rows (hr.mono (by decide)) pass0 (pv 6)) (pv 8) (nomark _))))))))
            (pss_one (ps_ret pe_bl))
            (pss_nil))
          (pss_cons (ps_set (i := 13) sc_law.nd rfl (Or.inl rfl) (pe_op op_cat (pv 8) (pe_f O__law_answer_of (hr.mono (by decide)) pass0 (pa_cons (pv 12) pa_nil))))
          (pss_cut (ps_if (PW.pt (pw_and (pt_cmpR op_eq (pe_ix ix_tup (pv 12) pe_int (fun _ _ => rfl)) pe_str (nomark _)) (pw_and (pt_cmpR (op_neD hr.units) (pe_slice sl_list (pv 13) (po_some (pe_callB call_len_seq (by rfl) T.len PySem.boot_len (pa_cons (pv 8) pa_nil))) po_none) (pe_f O__law_answer (hr.mono (by decide)) pass0 (pa_cons (pv 3) (pa_cons (pv 9) pa_nil))) (nomark _)) (pw_and1 (pt_val (pe_f O__law_is_up (hr.mono (by decide)) pass0 (pa_cons (pv 13) pa_nil)))))))
            (pss_cons (ps_set (i := 14) sc_law.nd rfl (Or.inl rfl) (pe_c I_Copy (hr.mono (by decide)) pass0 (pa_cons (pv 2) (pa_cons (pv 4) (pa_cons (pv 5) pa_nil)))))
            (pss_cons (ps_for PassesOwn.never rfl (pi_range1 (by rfl) T.range (pa_cons (pv 7) pa_nil)) (pg_name (i := 15) sc_law.nd rfl (Or.inl rfl))
              (pss_one (ps_expr (pe_m T.copy M_Copy_add (hr.mono (by decide)) pass0 (pv 14) (pa_cons (pe_ix ix_tup (pe_f O_answered (hr.mono (by decide)) pass0 (pa_cons (pv 2) (pa_cons (pe_callTy call_list_of (by rfl) T.list (by decide +kernel) (pa_cons (pv 3) pa_nil)) (pa_cons (pe_m0 T.copy M_Copy_wanted (hr.mono (by decide)) pass0 (pv 14)) pa_nil)))) pe_int (fun _ _ => rfl)) pa_nil)))))
            (pss_cons (ps_if (PW.pt (pw_or (pt_cmpR (op_neD hr.units) (pe_m T.copy M_Copy_add (hr.mono (by decide)) pass0 (pv 14) (pa_cons (pe_callTy call_list_of (by rfl) T.list (by decide +kernel) (pa_cons (pv 11) pa_nil)) pa_nil)) (pv 12) (nomark _)) (pw_or1 (pt_cmpR (op_neD hr.units) (pe_m0 T.copy M_Copy_rows (hr.mono (by decide)) pass0 (pv 14)) (pv 13) (nomark _)))))
              (pss_one (ps_ret pe_bl))
              (pss_nil))
            (pss_cut (ps_set (i := 16) sc_law.nd rfl (Or.inl rfl) (pe_and (pe_cmpR op_eq (pe_callB call_len_seq (by rfl) T.len PySem.boot_len (pa_cons (pv 13) pa_nil)) (pe_ix ix_tup (pv 4) pe_int (fun _ _ => rfl)) (nomark _)) (pe_one (pe_cmpR (op_eqD hr.units) (pe_ix ix_list (pe_f O__law_tree (hr.mono (by decide)) pass0 (pa_cons (pv 2) (pa_cons (pv 13) pa_nil))) pe_int (fun _ _ => rfl)) (pv 4) (nomark _)))))
            (pss_cons (ps_if (pt_cmpR op_ne (pe_m0 T.copy M_Copy_is_whole (hr.mono (by decide)) pass0 (pv 14)) (pv 16) (nomark _))
              (pss_one (ps_ret pe_bl))
              (pss_nil))
            (pss_one (ps_if (PW.pt (pw_and (pt_cmpR op_ge (pe_callB call_len_seq (by rfl) T.len PySem.boot_len (pa_cons (pv 13) pa_nil)) (pe_ix ix_tup (pv 4) pe_int (fun _ _ => rfl)) (nomark _)) (pw_and1 (PW.pt (pw_or (pt_cmpR op_notN (pe_m0 T.copy M_Copy_wanted (hr.mono (by decide)) pass0 (pv 14)) pe_non (nomark _)) (pw_or (pt_cmpR op_notN (pe_m T.copy M_Copy_add (hr.mono (by decide)) pass0 (pv 14) (pa_cons (pe_lst pa_nil) pa_nil)) pe_non (nomark _)) (pw_or1 (pt_cmpR (op_neD hr.units) (pe_m0 T.copy M_Copy_rows (hr.mono (by decide)) pass0 (pv 14)) (pv 13) (nomark _)))))))))
              (pss_one (ps_ret pe_bl))
              (pss_nil))))))))
            (pss_nil))
          (pss_cons (ps_set (i := 17) sc_law.nd rfl (Or.inl rfl) (pe_m T.copy M_Copy_add (hr.mono (by decide)) pass0 (pv 6) (pa_cons (pe_callTy call_list_of (by rfl) T.list (by decide +kernel) (pa_cons (pv 10) pa_nil)) pa_nil)))
          (pss_cons (ps_if (pt_cmpR (op_neD hr.units) (pv 17) (pe_tup (pa_cons pe_str (pa_cons (pe_f O__law_answer (hr.mono (by decide)) pass0 (pa_cons (pv 3) (pa_cons (pv 9) pa_nil))) pa_nil))) (nomark _))
            (pss_one (ps_ret pe_bl))
            (pss_nil))
          (pss_cons (ps_expr (pe_bm PySem.F.plainAttrs_list PySem.F.slot_list_append PySem.F.type_list_append mt_append (pe_ix ix_tup (pv 17) pe_int (fun _ _ => rfl)) (pa_cons pe_non pa_nil)))
          (pss_cons (ps_set (i := 18) sc_law.nd rfl (Or.inl rfl) (pe_m0 T.copy M_Copy_rows (hr.mono (by decide)) pass0 (pv 6)))
          (pss_one (ps_expr (pe_bm PySem.F.plainAttrs_list PySem.F.slot_list_append PySem.F.type_list_append mt_append (pv 18) (pa_cons pe_non pa_nil))))))))))))))))))))
        (pss_one (ps_ret pe_bl))))))))), ?_⟩
    -- the state, the rule, the table, the head, the size, the copy
    refine ⟨_, rfl, s, _, rfl, .inl hS, fun b hb => ⟨(by show 4 ≤ sizeLine; decide), fun a ha => ?_⟩⟩
    have x0 := (Ext.new (S := ([] : List Addr)) (o := .lst (ns.map V.int)) hb).new2 (o := .lst [.int 0, .int 0, .ref b, .int 1]) ha
    have st0 : StAt (upd (upd H b (.lst (ns.map V.int))) a (.lst [.int 0, .int 0, .ref b, .int 1])) a b := ⟨0, 0, 1, ns, upd_same, by rw [upd_ne (none_ne ha upd_same).symm, upd_same]⟩
    refine ⟨_, rfl, a, b, rfl, st0, fun H1 rv u e1 st1 ru1 => ?_⟩
    refine ⟨_, rfl, a, b, rfl, st1, fun H2 t tab e2 st2 ht tb2 hup hok h12 => ?_⟩
    have hta : t ≠ a := (st1.ne1 ht).symm
    have hbt : b ≠ t := st1.ne2 ht
    refine ⟨_, rfl, _, rfl, rv, u, t, tab, rfl, ru1.ext e2, tb2, hok, by omega, by omega, fun H3 tp hv rest e3 htp hhv => ⟨tp, _, _, _, rfl, rfl, SqL.of htp, at0 _ _, ?_⟩⟩
    have ts3 : Tabs B H3 := ((hts.ext x0).ext (e1.trans e2)).ext e3
    have lw3 : LW A B u 0 tab a b t rv hv H3 := ⟨st2.ext0 e3, (ru1.ext e2).ext e3, tb2.pr e3 (by simp), hhv, ts3⟩
    refine ⟨_, rfl, a, b, 5, rfl, by decide, by decide, lw3.st, fun H4 d hd e4 st4 => ⟨_, _, rfl, rfl, ?_⟩⟩
    obtain ⟨n, hn, hn5⟩ : ∃ n : Nat, (1 + (d : Int)) = ((n : Nat) : Int) ∧ 1 ≤ n ∧ n ≤ 5 := ⟨1 + d, by omega, by omega, by omega⟩
    have lw4 : LW A B u n tab a b t rv hv H4 := let z := lw3.extA e4 st4 hta; ⟨z.st, z.ru, z.tb, z.hd, z.ts⟩
    show tSeq _ _ _ (List.set _ 5 (some (V.int (1 + (d : Int))))) H4
    rw [hn]
    refine ⟨_, rfl, _, rfl, _, rfl, ?_⟩
    intro c dc hc hdc nec
    refine ⟨c, dc, rv, hv, _, rfl, upd_same, fun H5 ro hro h1 h2 h3 => ⟨rfl, ?_⟩⟩
    have e5 : Ext [] H4 H5 := Ext.made2 hc hdc nec hro h1 h2 h3
    have hro4 : H4 ro = none := (upd_dom (upd_dom hro).1).1
    have hac : a ≠ c := lw4.st.ne1 hc
    have hbc : b ≠ c := lw4.st.ne2 hc
    have htc : t ≠ c := lw4.tb.ne hc
    have har : a ≠ ro := lw4.st.ne1 hro4
    have hbr : b ≠ ro := lw4.st.ne2 hro4
    have htr : t ≠ ro := lw4.tb.ne hro4
    have lw5 := lw4.ext0 e5
    have co5 : CoAt A u ((tr tab).lk u) n c ro H5 [] := ⟨dc, rv, hv, h3, lw5.ru, lw5.hd, [], h2, trivial⟩
    refine ⟨14, rfl, by decide, by decide, for_range (lo := 0) (n := 14) (fun k σ H' => (∃ z7 z8 z9 z10 z11 z12 z13 z14 z15 z16 z17 z18, σ = [some (.ref s), some (.ref a), some rv, some (.ref t), some hv, some (.int (n : Int)), some (.ref c), z7, z8, z9, z10, z11, z12, z13, z14, z15, z16, z17, z18]) ∧
      LW A B u n tab a b t rv hv H' ∧ CoAt A u ((tr tab).lk u) n c ro H' (tab.take (k * n)) ∧ ∀ j, j < k → j * n < tab.length) ⟨⟨none, none, none, none, none, none, none, none, none, none, none, none, rfl⟩, lw5, by rw [Nat.zero_mul]; exact co5, fun j hj => absurd hj (Nat.not_lt_zero _)⟩ ?_ ?_⟩
    · rintro k σ H0 hk ⟨⟨z7, z8, z9, z10, z11, z12, z13, z14, z15, z16, z17, z18, rfl⟩, lw, co, hbefore⟩
      have hRok : TabOk (tab.take (k * n)) := hok.take _
      have hRl : (tab.take (k * n)).length ≤ 12 := by rw [List.length_take]; omega
      have hlc := tr_c u tab
      generalize hR : tab.take (k * n) = R at co hRok hRl
      -- before
      obtain ⟨dx1, fs1, hi1, w1, a1, r1, i1⟩ := co.ins
      refine ⟨_, rfl, c, dx1, fs1, rfl, hi1, r1, u, _, n, c, ro, R, rfl, co, fun H1 bl e1 hbl0 hB => ?_⟩
      have habl := lw.st.ne1 hbl0
      have hcbl := co.ne1 hbl0
      have hrbl := co.ne2 hbl0
      have lw := lw.ext0 e1
      have co := co.ext e1 (by simp) (by simp)
      obtain ⟨bvs, hb1, hb2⟩ := id hB
      obtain ⟨us, ht1, ht2⟩ := id lw.tb
      have hbl2 := hb2.length
      refine ⟨_, rfl, _, rfl, _, rfl, bl, _, rfl, .inl (SqL.of hb1), _, rfl, t, us, rfl, SqL.of ht1, fun p1 hp1 => ?_⟩
      rw [cut_take]
      have e2 := Ext.new (S := ([] : List Addr)) (o := .lst (us.take bvs.length)) hp1
      have hRt : tab.take bvs.length = R := by rw [hbl2, ← hR, take_len]
      have hcut : LsAt PrAt (upd H1 p1 (.lst (us.take bvs.length))) p1 R := ⟨_, upd_same, by
        have := ht2.take bvs.length
        rw [hRt] at this
        exact this.imp fun _ _ => PrAt.ext e2⟩
      have lw := lw.ext0 e2
      have co := co.ext e2 (by simp) (by simp)
      have hB := hB.pr e2 (by simp)
      refine ⟨_, _, hB.dp, hcut.dp, dxT.shaped (tab_sok hRok), dxT.shaped (tab_sok hRok), _, rfl, ?_⟩
      rw [dxT.eqv]
      refine iteN (neE R) ?_
      -- whole?
      obtain ⟨dx1, fs1, hi1, w1, a1, r1, i1⟩ := co.ins
      obtain ⟨bvs2, hb3, hb4⟩ := id hB
      obtain ⟨us2, ht3, ht4⟩ := id lw.tb
      have hbl3 := hb4.length
      have htl3 := ht4.length
      have hRlax : Lax R := by rw [← hR]; exact hup.lax.take _
      refine ⟨_, rfl, bl, _, rfl, .inl (SqL.of hb3), _, rfl, t, _, rfl, .inl (SqL.of ht3), rfl, _, rfl, iteD (fun cf => ?_) fun cf => ?_⟩
      · have cf' : (bvs2.length : Int) = (us2.length : Int) := V.int.inj cf
        have hRf : R = tab := by
          have h9 : R.length = tab.length := by omega
          rw [← hR] at h9 ⊢
          rw [List.length_take] at h9
          exact List.take_of_length_le (by omega)
        have hle : ((tr tab).lk u).c ≤ ((R.length : Nat) : Int) := by rw [hlc, hRf]; exact Int.le_refl _
        refine ⟨_, rfl, c, dx1, fs1, rfl, hi1, w1, u, _, n, c, ro, R, rfl, co, fun _ => ?_, fun z => absurd hle z⟩
        refine ⟨rfl, _, rfl, iteY (decide_eq_true rfl) ?_⟩
        refine ⟨_, rfl, c, dx1, fs1, rfl, hi1, a1, Nat.zero_le _, fun ca hca => ?_⟩
        have e3 := Ext.new (S := ([] : List Addr)) (o := .lst []) hca
        have lw := lw.ext0 e3
        have hcr := (co.ne2 hca).symm
        have co := co.ext e3 (by simp) (by simp)
        refine ⟨u, _, n, c, ro, R, ca, [], rfl, co, ⟨[], upd_same, trivial⟩, hcr, (fun e he => by cases he), Nat.zero_le _, lw.ts, by omega, by omega, fun _ => ?_, fun z => absurd hle z⟩
        refine ⟨rfl, _, rfl, iteY (decide_eq_true rfl) ?_⟩
        obtain ⟨dx2, fs2, hi2, w2, a2, r2, i2⟩ := co.ins
        refine ⟨_, rfl, c, dx2, fs2, rfl, hi2, i2, u, _, n, c, ro, R, rfl, co, hRlax, hRok, by omega, fun H3 e4 => ?_⟩
        have hw : decide ((R.length : Int) = ((tr tab).lk u).c ∧ (tr R).lk u = (tr tab).lk u) = true := decide_eq_true ⟨by rw [hlc, hRf], by rw [hRf]⟩
        rw [hw]
        refine ⟨_, _, rfl, rfl, _, rfl, iteY (decide_eq_true rfl) ?_⟩
        have lw := lw.ext0 e4
        have co := co.ext e4 (by simp) (by simp)
        obtain ⟨dx3, fs3, hi3, w3, a3, r3, i3⟩ := co.ins
        refine ⟨_, rfl, c, dx3, fs3, rfl, hi3, r3, u, _, n, c, ro, R, rfl, co, fun H4 p4 e5 hp4 hl4 => ?_⟩
        have lw := lw.ext0 e5
        refine ⟨_, rfl, _, _, hl4.dp, lw.tb.dp, dxT.shaped (tab_sok hRok), dxT.shaped (tab_sok hok), ?_⟩
        rw [dxT.eqv, decide_eq_true hRf]
        exact q _
      -- the query
      have hRne : R.length ≠ tab.length := fun z => cf (by rw [hbl3, htl3, z])
      have hRlt : k * n < tab.length := by
        rw [← hR, List.length_take] at hRne
        omega
      have hRlen : R.length = k * n := by rw [← hR, List.length_take]; omega
      have hgt : ¬ ((tr tab).lk u).c ≤ ((R.length : Nat) : Int) := by rw [hlc]; omega
      refine ⟨.str (lastK R), fun Q' hq => ?_, ?_⟩
      · refine ⟨_, rfl, bl, _, rfl, .inl (SqL.of hb3), _, _, rfl, rfl, _, rfl, iteD (fun c0 => ?_) fun c0 => ?_⟩
        · have hRn : R ≠ [] := fun z => by rw [z] at hbl3; rw [hbl3] at c0; exact absurd c0 (by decide)
          obtain ⟨v, va, rv2, g1, rfl, g2⟩ := lastK_at hb4 hRn
          exact ⟨_, rfl, _, rfl, bl, _, _, _, rfl, rfl, SqL.of hb3, g1, va, _, _, _, rfl, rfl, SqT.of g2, rfl, hq⟩
        · have hRn : R = [] := List.eq_nil_of_length_eq_zero (by omega)
          have e : lastK R = "" := by rw [hRn]; rfl
          rw [e] at hq
          exact hq
      refine ⟨_, rfl, (by show 3 ≤ sizeLine; decide), fun qa hqa => ?_⟩
      have e3 := Ext.new (S := ([] : List Addr)) (o := .tup [.str "next", .str (lastK R), .int (n : Int)]) hqa
      have hq1 : QuAt (upd (upd H1 p1 (.lst (us.take bvs.length))) qa (.tup [.str "next", .str (lastK R), .int (n : Int)])) (.ref qa) (lastK R) (n : Int) := ⟨qa, rfl, upd_same⟩
      have lw := lw.ext0 e3
      have co := co.ext e3 (by simp) (by simp)
      have hB := hB.pr e3 (by simp)
      have hsk : SOk (lastK R) := lastK_sok hRok
      -- wanted, is_whole
      obtain ⟨dx2, fs2, hi2, w2, a2, r2, i2⟩ := co.ins
      refine ⟨_, rfl, c, dx2, fs2, rfl, hi2, w2, u, _, n, c, ro, R, rfl, co, fun z => absurd z hgt, fun _ H3 v e4 hwq => ?_⟩
      have hq2 := hq1.ext e4
      refine ⟨_, rfl, _, _, hwq.dp, hq2.dp, dxQ.shaped hsk, dxQ.shaped hsk, _, rfl, ?_⟩
      rw [dxQ.eqv]
      refine iteN (neE _) ?_
      have lw := lw.ext0 e4
      have co := co.ext e4 (by simp) (by simp)
      have hB := hB.pr e4 (by simp)
      obtain ⟨dx3, fs3, hi3, w3, a3, r3, i3⟩ := co.ins
      refine ⟨_, rfl, c, dx3, fs3, rfl, hi3, i3, u, _, n, c, ro, R, rfl, co, hRlax, hRok, by omega, fun H4 e5 => ?_⟩
      have hw : decide ((R.length : Int) = ((tr tab).lk u).c ∧ (tr R).lk u = (tr tab).lk u) = false := decide_eq_false fun z => hgt (by rw [← z.1]; exact Int.le_refl _)
      rw [hw]
      refine ⟨_, _, rfl, rfl, _, rfl, iteN (neE _) ?_⟩
      have lw := lw.ext0 e5
      have co := co.ext e5 (by simp) (by simp)
      have hB := hB.pr e5 (by simp)
      have hq3 := hq2.ext e5
      -- the honest page
      obtain ⟨es, hwk, heok, hel, hrd⟩ := page u hup hok (by omega) (k * n) n
      rw [hR] at hwk hrd
      obtain ⟨us4, ht5, ht6⟩ := id lw.tb
      refine ⟨_, rfl, _, rfl, t, us4, rfl, .inl (SqL.of ht5), fun p5 hp5 => ?_⟩
      have e6 := Ext.new (S := ([] : List Addr)) (o := .lst us4) hp5
      have lw := lw.ext0 e6
      have co := co.ext e6 (by simp) (by simp)
      have hB := hB.pr e6 (by simp)
      have hq4 := hq3.ext e6
      refine ⟨_, rfl, rv, u, p5, tab, .ref qa, lastK R, n, es, _, rfl, lw.ru, ⟨us4, upd_same, ht6.imp fun _ _ => PrAt.ext e6⟩, hup.lax, hok, by omega, hq4, by omega, hwk, fun H5' aa fa ea e7 haa hfa hea hea0 => ?_⟩
      have hae := lw.st.ne1 hea0
      have hce := co.ne1 hea0
      have hre := co.ne2 hea0
      have lw := lw.ext0 e7
      have co := co.ext e7 (by simp) (by simp)
      have hB := hB.pr e7 (by simp)
      have hq5 := hq4.ext e7
      refine ⟨aa, _, _, _, rfl, rfl, SqT.of haa, rfl, ?_⟩
      -- the given entries
      obtain ⟨evs, he1, he2⟩ := id hea
      refine ⟨_, rfl, _, rfl, _, rfl, _, rfl, ea, evs, rfl, SqL.of he1, fun o ho => ?_⟩
      rw [cut2]
      have e8 := Ext.new (S := ([] : List Addr)) (o := .lst (evs.take 2)) ho
      have hao := lw.st.ne1 ho
      have lw := lw.ext0 e8
      have co := co.ext e8 (by simp) (by simp)
      have hB := hB.pr e8 (by simp)
      have hq6 := hq5.ext e8
      have hea := hea.en e8 (by simp)
      refine ⟨a, b, ea, o, es, es.take 2, rfl, lw.st, hea, hae.symm, heok, ⟨_, upd_same, (he2.take 2).imp fun _ _ => EnAt.ext e8⟩, hao.symm, fun e he => heok e (List.mem_of_mem_take he), by omega, by rw [List.length_take]; omega, fun H7 g res e9 st9 hg0 hgl hgok hglen => ?_⟩
      have lw := lw.extA e9 st9 hta
      have hag := hg0
      have hcg := co.ne1 hg0
      have hrg := co.ne2 hg0
      have hbg := hB.ne hg0
      have heg := hea.ne hg0
      have co := co.ext e9 (nin1 hac.symm) (nin1 har.symm)
      have hB := hB.pr e9 (nin1 habl.symm)
      have hq7 := hq6.ext e9
      have hea := hea.en e9 (nin1 hae.symm)
      -- what is due
      obtain ⟨gvs, hg1, hg2⟩ := id hgl
      refine ⟨_, rfl, _, rfl, _, rfl, _, rfl, g, gvs, rfl, .inl (SqL.of hg1), fun gc hgc => ?_⟩
      have e10 := Ext.new (S := ([] : List Addr)) (o := .lst gvs) hgc
      have hacg := lw.st.ne1 hgc
      have hbcg := lw.st.ne2 hgc
      have htcg := lw.tb.ne hgc
      have hccg := co.ne1 hgc
      have hrcg := co.ne2 hgc
      have hbcg2 := hB.ne hgc
      have hecg := hea.ne hgc
      have hgcg := hgl.ne hgc
      have lw := lw.ext0 e10
      refine ⟨rv, hv, .ref qa, gc, u, _, lastK R, n, res, rfl, lw.ru, lw.hd, hq7.ext e10, ⟨gvs, upd_same, hg2.imp fun _ _ => EnAt.ext e10⟩, hgok, by omega, lw.ts, by omega, fun H8 dv e11 hD => ?_⟩
      have e12 := e10.of.trans e11
      have lw := lw.ext e11 (nin1 hacg) (nin1 hbcg) (nin1 htcg)
      have co := co.ext e12 (nin1 hccg) (nin1 hrcg)
      have hB := hB.pr e12 (nin1 hbcg2)
      have hq8 := hq7.ext e12
      have hea := hea.en e12 (nin1 hecg)
      have hgl := hgl.en e12 (nin1 hgcg)
      generalize hDD : readT u ((tr tab).lk u) (lastK R) n res = D at hD
      have hDn : ∀ f, D = .ans f → f.length ≤ n ∧ TabOk f := fun f hf => readT_ans hgok (hDD.trans hf)
      have hDok : ToOk D := by
        cases hDc : D with
        | ans f => exact tab_sok (hDn f hDc).2
        | ref _ _ => trivial
      have hDat := hD.at
      -- the first test
      refine ⟨fun σ H' => (∃ z13 z14 z15 z16 z17 z18, σ = [some (.ref s), some (.ref a), some rv, some (.ref t), some hv, some (.int (n : Int)), some (.ref c), some (.int (0 + (k : Int))), some (.ref bl), some (.ref qa), some (.ref ea), some (.ref g), some dv, z13, z14, z15, z16, z17, z18]) ∧
        LW A B u n tab a b t rv hv H' ∧ CoAt A u ((tr tab).lk u) n c ro H' R ∧ LsAt PrAt H' bl R ∧ LsAt EnAt H' ea es ∧ LsAt EnAt H' g res ∧ ToAt H' dv D ∧ QuAt H' (.ref qa) (lastK R) (n : Int), ?_, ?_⟩
      · cases D with
        | ans f =>
          obtain ⟨da, dl, rfl, hd1, hd2, _⟩ := id hD
          refine ⟨_, rfl, da, _, _, _, rfl, rfl, SqT.of hd1, rfl, rfl, _, rfl, iteN (sdec (by decide +kernel)) ?_⟩
          exact ⟨⟨_, _, _, _, _, _, rfl⟩, lw, co, hB, hea, hgl, hDat, hq8⟩
        | ref wd m =>
          obtain ⟨da, rfl, hd1⟩ := id hD
          refine ⟨_, rfl, da, _, _, _, rfl, rfl, SqT.of hd1, rfl, rfl, _, rfl, iteY (sdecT _) ?_⟩
          obtain ⟨dx4, fs4, hi4, w4, a4, r4, i4⟩ := co.ins
          obtain ⟨gvs2, hg3, hg4⟩ := id hgl
          refine ⟨_, rfl, c, dx4, fs4, rfl, hi4, a4, _, rfl, g, gvs2, rfl, .inl (SqL.of hg3), fun g2 hg20 => ?_⟩
          have e13 := Ext.new (S := ([] : List Addr)) (o := .lst gvs2) hg20
          have n1 := lw.st.ne1 hg20
          have n2 := lw.st.ne2 hg20
          have n3 := lw.tb.ne hg20
          have n4 := co.ne1 hg20
          have n5 := co.ne2 hg20
          have n6 := hB.ne hg20
          have n7 := hea.ne hg20
          have n8 := hgl.ne hg20
          have lw := lw.ext0 e13
          have co := co.ext e13 (by simp) (by simp)
          refine ⟨u, _, n, c, ro, R, g2, res, rfl, co, ⟨gvs2, upd_same, hg4.imp fun _ _ => EnAt.ext e13⟩, n5.symm, hgok, by omega, lw.ts, by omega, by omega, fun z => absurd z hgt, fun _ H9 v2 e14 hv2 co2 => ?_⟩
          rw [hDD] at hv2 co2
          have co2 : CoAt A u ((tr tab).lk u) n c ro H9 R := by
            have : R ++ (Told.ref wd m).more = R := List.append_nil R
            rw [this] at co2
            exact co2
          have e15 := e13.of.trans e14
          have lw := lw.ext e14 (nin3 hac har n1) (nin3 hbc hbr n2) (nin3 htc htr n3)
          have hB := hB.pr e15 (nin3 hcbl.symm hrbl.symm n6)
          have hea := hea.en e15 (nin3 hce.symm hre.symm n7)
          have hgl := hgl.en e15 (nin3 hcg.symm hrg.symm n8)
          have hD9 : ToAt H9 (.ref da) (.ref wd m) := ⟨da, rfl, e15.tup hd1⟩
          refine ⟨_, rfl, _, _, hv2.at.dp, hD9.dp, dxA.shaped (a := .ref wd m) trivial, dxA.shaped (a := .ref wd m) trivial, _, rfl, ?_⟩
          rw [dxA.eqv]
          refine iteN (neE _) ?_
          obtain ⟨dx5, fs5, hi5, w5, a5, r5, i5⟩ := co2.ins
          refine ⟨_, rfl, c, dx5, fs5, rfl, hi5, r5, u, _, n, c, ro, R, rfl, co2, fun H10 p10 e16 hp10 hl10 => ?_⟩
          have hB := hB.pr e16 (by simp)
          refine ⟨_, rfl, _, _, hl10.dp, hB.dp, dxT.shaped (tab_sok hRok), dxT.shaped (tab_sok hRok), _, rfl, ?_⟩
          rw [dxT.eqv]
          refine iteN (neE _) ?_
          exact ⟨⟨_, _, _, _, _, _, rfl⟩, lw.ext0 e16, co2.ext e16 (by simp) (by simp), hB, hea.en e16 (by simp), hgl.en e16 (by simp), ⟨da, rfl, e16.tup (e15.tup hd1)⟩, (hq8.ext e15).ext e16⟩
      · clear lw co hB hea hgl hD hDat hq8
        rintro σ H9 ⟨⟨z13, z14, z15, z16, z17, z18, rfl⟩, lw, co, hB, hea, hgl, hDat, hq8⟩
        -- made
        refine ⟨_, rfl, _, rfl, dv, D, rfl, hDat, fun H10 pA e13 hA => ?_⟩
        have lw := lw.ext0 e13
        have co := co.ext e13 (by simp) (by simp)
        have hB := hB.pr e13 (by simp)
        have hea := hea.en e13 (by simp)
        have hgl := hgl.en e13 (by simp)
        have hq9 := hq8.ext e13
        obtain ⟨bvs5, hb5, hb6⟩ := id hB
        obtain ⟨avs, ha1, ha2⟩ := id hA
        have hml5 := hb6.length
        have haml := ha2.length
        have hmore : D.more.length ≤ n := by
          cases hDc : D with
          | ans f => exact (hDn f hDc).1
          | ref _ _ => exact Nat.zero_le _
        have hmok : TabOk D.more := by
          cases hDc : D with
          | ans f => exact (hDn f hDc).2
          | ref _ _ => exact fun p hp => by cases hp
        refine ⟨bl, pA, _, _, rfl, rfl, hb5, ha1, smallS (by omega), fun ml hml0 => ?_⟩
        have e14 := Ext.new (S := ([] : List Addr)) (o := .lst (bvs5 ++ avs)) hml0
        have hcml := co.ne1 hml0
        have hrml := co.ne2 hml0
        have haml := lw.st.ne1 hml0
        have heml := hea.ne hml0
        have lw := lw.ext0 e14
        have co := co.ext e14 (by simp) (by simp)
        have hB := hB.pr e14 (by simp)
        have hea := hea.en e14 (by simp)
        have hgl := hgl.en e14 (by simp)
        have hq10 := hq9.ext e14
        have hM : LsAt PrAt (upd H10 ml (.lst (bvs5 ++ avs))) ml (R ++ D.more) := ⟨_, upd_same, (hb6.app ha2).imp fun _ _ => PrAt.ext e14⟩
        -- the second test
        refine ⟨fun σ H' => (∃ z14 z15 z16 z17 z18, σ = [some (.ref s), some (.ref a), some rv, some (.ref t), some hv, some (.int (n : Int)), some (.ref c), some (.int (0 + (k : Int))), some (.ref bl), some (.ref qa), some (.ref ea), some (.ref g), some dv, some (.ref ml), z14, z15, z16, z17, z18]) ∧
          LW A B u n tab a b t rv hv H' ∧ CoAt A u ((tr tab).lk u) n c ro H' R ∧ LsAt EnAt H' ea es ∧ QuAt H' (.ref qa) (lastK R) (n : Int), ?_, ?_⟩
        · have hpg : (behind (lastK R) tab).take n = (tab.drop (k * n)).take n := by rw [← hR, behind_drop hup hok]
          have hpok : TabOk ((tab.drop (k * n)).take n) := (hok.drop _).take _
          cases D with
          | ref wd m =>
            obtain ⟨da, rfl, hd1⟩ := id hDat
            refine ⟨_, rfl, da, _, _, _, rfl, rfl, SqT.of (e14.tup (e13.tup hd1)), rfl, rfl, _, rfl, iteN (sdec (by decide +kernel)) ?_⟩
            exact ⟨⟨_, _, _, _, _, rfl⟩, lw, co, hea, hq10⟩
          | ans f =>
            obtain ⟨da, dl, rfl, hd1, hd2⟩ := id hDat
            have hd1 := e14.tup (e13.tup hd1)
            have hd2 := (hd2.pr e13 (by simp)).pr e14 (by simp)
            refine ⟨_, rfl, da, _, _, _, rfl, rfl, SqT.of hd1, rfl, rfl, _, rfl, iteY (sdecT _) ?_⟩
            have hM : LsAt PrAt (upd H10 ml (.lst (bvs5 ++ avs))) ml (R ++ f) := hM
            have hfl : f.length ≤ n := hmore
            have hfok : TabOk f := hmok
            have hMok : TabOk (R ++ f) := fun p hp => (List.mem_append.mp hp).elim (hRok p) (hfok p)
            have hMl : (R ++ f).length ≤ 17 := by rw [List.length_append]; omega
            obtain ⟨bvs6, hb7, hb8⟩ := id hB
            obtain ⟨mvs, hm1, hm2⟩ := id hM
            refine ⟨_, rfl, _, rfl, bl, _, rfl, .inl (SqL.of hb7), _, rfl, ml, mvs, rfl, SqL.of hm1, fun ps hps => ?_⟩
            rw [cut_drop]
            have e15 := Ext.new (S := ([] : List Addr)) (o := .lst (mvs.drop bvs6.length)) hps
            have hS : LsAt PrAt (upd (upd H10 ml (.lst (bvs5 ++ avs))) ps (.lst (mvs.drop bvs6.length))) ps f := ⟨_, upd_same, by
              have h9 := hm2.drop bvs6.length
              have h10 : (R ++ f).drop bvs6.length = f := by rw [hb8.length, List.drop_left]
              rw [h10] at h9
              exact h9.imp fun _ _ => PrAt.ext e15⟩
            have lw := lw.ext0 e15
            have co := co.ext e15 (by simp) (by simp)
            have hea := hea.en e15 (by simp)
            have hgl := hgl.en e15 (by simp)
            have hq11 := hq10.ext e15
            have hM := hM.pr e15 (by simp)
            have hd1 := e15.tup hd1
            have hd2 := hd2.pr e15 (by simp)
            refine ⟨_, rfl, _, rfl, t, tab, .ref qa, lastK R, n, rfl, lw.tb, by omega, hq11, fun H12 pq e16 hpq hlq => ?_⟩
            rw [hpg] at hlq
            have lw := lw.ext0 e16
            have co := co.ext e16 (by simp) (by simp)
            have hea := hea.en e16 (by simp)
            have hgl := hgl.en e16 (by simp)
            have hq12 := hq11.ext e16
            have hM := hM.pr e16 (by simp)
            have hd1 := e16.tup hd1
            have hd2 := hd2.pr e16 (by simp)
            refine ⟨_, _, (hS.pr e16 (by simp)).dp, hlq.dp, dxT.shaped (tab_sok hfok), dxT.shaped (tab_sok hpok), _, rfl, ?_⟩
            rw [dxT.eqv]
            by_cases hfp : f = (tab.drop (k * n)).take n
            · refine iteN (by rw [decide_eq_true hfp]; rfl) ?_
              exact ⟨⟨_, _, _, _, _, rfl⟩, lw, co, hea, hq12⟩
            refine iteY (by rw [decide_eq_false hfp]; rfl) ?_
            refine ⟨_, rfl, ml, _, rfl, hM, hMok, by omega, fun H13 ub e17 hub => ⟨_, rfl, ?_⟩⟩
            have lw := lw.ext0 e17
            have co := co.ext e17 (by simp) (by simp)
            have hea := hea.en e17 (by simp)
            have hgl := hgl.en e17 (by simp)
            have hq13 := hq12.ext e17
            have hM := hM.pr e17 (by simp)
            have hd1 := e17.tup hd1
            have hd2 := hd2.pr e17 (by simp)
            cases ub with
            | false => exact ⟨⟨_, _, _, _, _, rfl⟩, lw, co, hea, hq13⟩
            | true =>
              have hMlax : Lax (R ++ f) := hub rfl
              refine iteY rfl ?_
              -- the other copy
              refine ⟨_, rfl, _, rfl, _, rfl, ?_⟩
              intro oc doc hoc hdoc nedoc
              refine ⟨oc, doc, rv, hv, _, rfl, upd_same, fun H14 roc hroc h1 h2 h3 => ⟨rfl, ?_⟩⟩
              have e18 : Ext [] H13 H14 := Ext.made2 hoc hdoc nedoc hroc h1 h2 h3
              have hroc0 : H13 roc = none := (upd_dom (upd_dom hroc).1).1
              have n1 := lw.st.ne1 hoc
              have n2 := lw.st.ne2 hoc
              have n3 := lw.tb.ne hoc
              have n4 := co.ne1 hoc
              have n5 := co.ne2 hoc
              have n6 := hea.ne hoc
              have n7 := hgl.ne hoc
              have n8 := hM.ne hoc
              have n9 := hd2.ne hoc
              have m1 := lw.st.ne1 hroc0
              have m2 := lw.st.ne2 hroc0
              have m3 := lw.tb.ne hroc0
              have m4 := co.ne1 hroc0
              have m5 := co.ne2 hroc0
              have m6 := hea.ne hroc0
              have m7 := hgl.ne hroc0
              have m8 := hM.ne hroc0
              have m9 := hd2.ne hroc0
              have lw := lw.ext0 e18
              have co := co.ext e18 (by simp) (by simp)
              have hea := hea.en e18 (by simp)
              have hgl := hgl.en e18 (by simp)
              have hq14 := hq13.ext e18
              have hM := hM.pr e18 (by simp)
              have hd1 := e18.tup hd1
              have hd2 := hd2.pr e18 (by simp)
              have oc0 : CoAt A u ((tr tab).lk u) n oc roc H14 [] := ⟨doc, rv, hv, h3, lw.ru, lw.hd, [], h2, trivial⟩
              have hkk : (0 + (k : Int)).toNat = k := by omega
              refine ⟨_, rfl, _, rfl, by omega, by omega, for_range (lo := 0) (n := (0 + (k : Int)).toNat) (fun j σ H' => (∃ z15 z16 z17 z18, σ = [some (.ref s), some (.ref a), some rv, some (.ref t), some hv, some (.int (n : Int)), some (.ref c), some (.int (0 + (k : Int))), some (.ref bl), some (.ref qa), some (.ref ea), some (.ref g), some (.ref da), some (.ref ml), some (.ref oc), z15, z16, z17, z18]) ∧
                LW A B u n tab a b t rv hv H' ∧ CoAt A u ((tr tab).lk u) n c ro H' R ∧ LsAt EnAt H' ea es ∧ LsAt EnAt H' g res ∧ QuAt H' (.ref qa) (lastK R) (n : Int) ∧ LsAt PrAt H' ml (R ++ f) ∧ H' da = some (.tup [.str "answer", .ref dl]) ∧ LsAt PrAt H' dl f ∧ CoAt A u ((tr tab).lk u) n oc roc H' (tab.take (j * n))) ⟨⟨_, _, _, _, rfl⟩, lw, co, hea, hgl, hq14, hM, hd1, hd2, by rw [Nat.zero_mul]; exact oc0⟩ ?_ ?_⟩
              · clear lw co hea hgl hq14 hM hd1 hd2 oc0
                rintro j σ H15 hj ⟨⟨z15, z16, z17, z18, rfl⟩, lw, co, hea, hgl, hq14, hM, hd1, hd2, oco⟩
                have hjn : j * n < tab.length := hbefore j (by omega)
                have hlj : (tab.take (j * n)).length = j * n := by rw [List.length_take]; omega
                have hgtj : ¬ ((tr tab).lk u).c ≤ (((tab.take (j * n)).length : Nat) : Int) := by rw [hlc]; omega
                obtain ⟨es2, hwk2, heok2, hel2, hrd2⟩ := page u hup hok (by omega) (j * n) n
                obtain ⟨dx4, fs4, hi4, w4, a4, r4, i4⟩ := oco.ins
                obtain ⟨us5, ht13, ht14⟩ := id lw.tb
                refine ⟨_, rfl, oc, dx4, fs4, rfl, hi4, a4, _, rfl, _, rfl, t, us5, rfl, .inl (SqL.of ht13), fun p6 hp6 => ?_⟩
                have e19 := Ext.new (S := ([] : List Addr)) (o := .lst us5) hp6
                have hp6l : LsAt PrAt (upd H15 p6 (.lst us5)) p6 tab := ⟨us5, upd_same, ht14.imp fun _ _ => PrAt.ext e19⟩
                have lw := lw.ext0 e19
                have co := co.ext e19 (by simp) (by simp)
                have hea := hea.en e19 (by simp)
                have hgl := hgl.en e19 (by simp)
                have hq14 := hq14.ext e19
                have hM := hM.pr e19 (by simp)
                have hd1 := e19.tup hd1
                have hd2 := hd2.pr e19 (by simp)
                have oco := oco.ext e19 (by simp) (by simp)
                obtain ⟨dx5, fs5, hi5, w5, a5, r5, i5⟩ := oco.ins
                refine ⟨_, rfl, oc, dx5, fs5, rfl, hi5, w5, u, _, n, oc, roc, _, rfl, oco, fun z => absurd z hgtj, fun _ H16 v16 e20 hwq2 => ?_⟩
                have hp6l := hp6l.pr e20 (by simp)
                have lw := lw.ext0 e20
                have co := co.ext e20 (by simp) (by simp)
                have hea := hea.en e20 (by simp)
                have hgl := hgl.en e20 (by simp)
                have hq14 := hq14.ext e20
                have hM := hM.pr e20 (by simp)
                have hd1 := e20.tup hd1
                have hd2 := hd2.pr e20 (by simp)
                have oco := oco.ext e20 (by simp) (by simp)
                refine ⟨rv, u, p6, tab, v16, lastK (tab.take (j * n)), n, es2, _, rfl, lw.ru, hp6l, hup.lax, hok, by omega, hwq2, by omega, hwk2, fun H17 aa2 fa2 ea2 e21 haa2 hfa2 hea2 hea20 => ?_⟩
                have x1 := lw.st.ne1 hea20
                have x2 := lw.st.ne2 hea20
                have x3 := lw.tb.ne hea20
                have x4 := co.ne1 hea20
                have x5 := co.ne2 hea20
                have x6 := hea.ne hea20
                have x7 := hgl.ne hea20
                have x8 := hM.ne hea20
                have x9 := hd2.ne hea20
                have xr := oco.ne2 hea20
                have lw := lw.ext0 e21
                have co := co.ext e21 (by simp) (by simp)
                have hea := hea.en e21 (by simp)
                have hgl := hgl.en e21 (by simp)
                have hq14 := hq14.ext e21
                have hM := hM.pr e21 (by simp)
                have hd1 := e21.tup hd1
                have hd2 := hd2.pr e21 (by simp)
                have oco := oco.ext e21 (by simp) (by simp)
                refine ⟨aa2, _, _, _, rfl, rfl, SqT.of haa2, rfl, ?_⟩
                refine ⟨u, _, n, oc, roc, _, ea2, es2, rfl, oco, hea2, xr.symm, heok2, by omega, lw.ts, by omega, by omega, fun z => absurd z hgtj, fun _ H18 v18 e22 hv18 oco2 => ?_⟩
                rw [hrd2] at oco2
                have e23 : tab.take ((j + 1) * n) = tab.take (j * n) ++ (Told.ans ((tab.drop (j * n)).take n)).more := by
                  show _ = tab.take (j * n) ++ (tab.drop (j * n)).take n
                  rw [take_page, Nat.succ_mul]
                exact ⟨⟨_, _, _, _, rfl⟩, lw.ext e22 (nin3 n1 m1 x1) (nin3 n2 m2 x2) (nin3 n3 m3 x3), co.ext e22 (nin3 n4 m4 x4) (nin3 n5 m5 x5), hea.en e22 (nin3 n6 m6 x6), hgl.en e22 (nin3 n7 m7 x7), hq14.ext e22, hM.pr e22 (nin3 n8 m8 x8), e22.tup hd1, hd2.pr e22 (nin3 n9 m9 x9), by rw [e23]; exact oco2⟩
              · clear lw co hea hgl hq14 hM hd1 hd2 oc0
                rintro σ H15 ⟨⟨z15, z16, z17, z18, rfl⟩, lw, co, hea, hgl, hq14, hM, hd1, hd2, oco⟩
                rw [hkk, hR] at oco
                obtain ⟨dx4, fs4, hi4, w4, a4, r4, i4⟩ := oco.ins
                obtain ⟨gvs2, hg3, hg4⟩ := id hgl
                refine ⟨_, rfl, oc, dx4, fs4, rfl, hi4, a4, _, rfl, g, gvs2, rfl, .inl (SqL.of hg3), fun g2 hg20 => ?_⟩
                have e19 := Ext.new (S := ([] : List Addr)) (o := .lst gvs2) hg20
                have x1 := lw.st.ne1 hg20
                have x2 := lw.st.ne2 hg20
                have x3 := lw.tb.ne hg20
                have x4 := co.ne1 hg20
                have x5 := co.ne2 hg20
                have x6 := hea.ne hg20
                have x8 := hM.ne hg20
                have x9 := hd2.ne hg20
                have xr := oco.ne2 hg20
                have lw := lw.ext0 e19
                have co := co.ext e19 (by simp) (by simp)
                have hea := hea.en e19 (by simp)
                have hq14 := hq14.ext e19
                have hM := hM.pr e19 (by simp)
                have hd1 := e19.tup hd1
                have hd2 := hd2.pr e19 (by simp)
                have oco := oco.ext e19 (by simp) (by simp)
                refine ⟨u, _, n, oc, roc, R, g2, res, rfl, oco, ⟨gvs2, upd_same, hg4.imp fun _ _ => EnAt.ext e19⟩, xr.symm, hgok, by omega, lw.ts, by omega, by omega, fun z => absurd z hgt, fun _ H16 v16 e20 hv16 oco2 => ?_⟩
                rw [hDD] at hv16 oco2
                have oco2 : CoAt A u ((tr tab).lk u) n oc roc H16 (R ++ f) := oco2
                have lw := lw.ext e20 (nin3 n1 m1 x1) (nin3 n2 m2 x2) (nin3 n3 m3 x3)
                have co := co.ext e20 (nin3 n4 m4 x4) (nin3 n5 m5 x5)
                have hea := hea.en e20 (nin3 n6 m6 x6)
                have hq14 := hq14.ext e20
                have hM := hM.pr e20 (nin3 n8 m8 x8)
                have hd1 := e20.tup hd1
                have hd2 := hd2.pr e20 (nin3 n9 m9 x9)
                have hD16 : ToAt H16 (.ref da) (.ans f) := ⟨da, dl, rfl, hd1, hd2⟩
                refine ⟨_, rfl, _, _, hv16.at.dp, hD16.dp, dxA.shaped (a := .ans f) (tab_sok hfok), dxA.shaped (a := .ans f) (tab_sok hfok), _, rfl, ?_⟩
                rw [dxA.eqv]
                refine iteN (neE _) ?_
                obtain ⟨dx5, fs5, hi5, w5, a5, r5, i5⟩ := oco2.ins
                refine ⟨_, rfl, oc, dx5, fs5, rfl, hi5, r5, u, _, n, oc, roc, _, rfl, oco2, fun H17 p17 e21 hp17 hl17 => ?_⟩
                have lw := lw.ext0 e21
                have co := co.ext e21 (by simp) (by simp)
                have hea := hea.en e21 (by simp)
                have hq14 := hq14.ext e21
                have hM := hM.pr e21 (by simp)
                have oco2 := oco2.ext e21 (by simp) (by simp)
                refine ⟨_, rfl, _, _, hl17.dp, hM.dp, dxT.shaped (tab_sok hMok), dxT.shaped (tab_sok hMok), _, rfl, ?_⟩
                rw [dxT.eqv]
                refine iteN (neE _) ?_
                -- whole
                refine ⟨fun σ H' => (∃ z15 z17 z18, σ = [some (.ref s), some (.ref a), some rv, some (.ref t), some hv, some (.int (n : Int)), some (.ref c), some (.int (0 + (k : Int))), some (.ref bl), some (.ref qa), some (.ref ea), some (.ref g), some (.ref da), some (.ref ml), some (.ref oc), z15, some (.bl (decide ((((R ++ f).length : Nat) : Int) = ((tr tab).lk u).c ∧ (tr (R ++ f)).lk u = (tr tab).lk u))), z17, z18]) ∧
                  LW A B u n tab a b t rv hv H' ∧ CoAt A u ((tr tab).lk u) n c ro H' R ∧ LsAt EnAt H' ea es ∧ QuAt H' (.ref qa) (lastK R) (n : Int) ∧ LsAt PrAt H' ml (R ++ f) ∧ CoAt A u ((tr tab).lk u) n oc roc H' (R ++ f), ?_, ?_⟩
                · obtain ⟨mvs3, hm3, hm4⟩ := id hM
                  obtain ⟨h4, h5, hve, hh4, hh5⟩ := id lw.hd
                  have hml3 := hm4.length
                  refine ⟨_, rfl, ml, _, rfl, .inl (SqL.of hm3), _, rfl, h4, _, _, _, hve, rfl, SqT.of hh4, rfl, rfl, _, rfl, iteD (fun cf => ?_) fun cf => ?_⟩
                  · have cf' : (((R ++ f).length : Nat) : Int) = ((tr tab).lk u).c := by rw [← hml3]; exact V.int.inj cf
                    refine ⟨_, rfl, _, rfl, rv, u, ml, _, rfl, lw.ru, hM, hMok, by omega, by omega, fun H18 tp2 lv2 rest2 e22 htp2 hlv2 => ⟨tp2, _, _, _, rfl, rfl, SqL.of htp2, at0 _ _, ?_⟩⟩
                    have lw := lw.ext0 e22
                    refine ⟨_, rfl, _, _, hlv2.dp, lw.hd.dp, dxL.shaped trivial, dxL.shaped trivial, ?_⟩
                    rw [dxL.eqv]
                    have hwh : decide ((tr (R ++ f)).lk u = (tr tab).lk u) = decide ((((R ++ f).length : Nat) : Int) = ((tr tab).lk u).c ∧ (tr (R ++ f)).lk u = (tr tab).lk u) := decide_eq_decide.mpr ⟨fun z => ⟨cf', z⟩, fun z => z.2⟩
                    rw [hwh]
                    exact ⟨⟨_, _, _, rfl⟩, lw, co.ext e22 (by simp) (by simp), hea.en e22 (by simp), hq14.ext e22, hM.pr e22 (by simp), oco2.ext e22 (by simp) (by simp)⟩
                  · have cf' : ¬ (((R ++ f).length : Nat) : Int) = ((tr tab).lk u).c := fun z => cf (by rw [hml3, z])
                    have hwh : false = decide ((((R ++ f).length : Nat) : Int) = ((tr tab).lk u).c ∧ (tr (R ++ f)).lk u = (tr tab).lk u) := (decide_eq_false fun z => cf' z.1).symm
                    rw [hwh]
                    exact ⟨⟨_, _, _, rfl⟩, lw, co, hea, hq14, hM, oco2⟩
                · clear lw co hea hq14 hM oco2
                  rintro σ H18 ⟨⟨z15, z17, z18, rfl⟩, lw, co, hea, hq14, hM, oco2⟩
                  obtain ⟨dx6, fs6, hi6, w6, a6, r6, i6⟩ := oco2.ins
                  refine ⟨_, rfl, oc, dx6, fs6, rfl, hi6, i6, u, _, n, oc, roc, _, rfl, oco2, hMlax, hMok, by omega, fun H19 e22 => ?_⟩
                  refine ⟨_, rfl, rfl, _, rfl, iteN (neE _) ?_⟩
                  have lw := lw.ext0 e22
                  have co := co.ext e22 (by simp) (by simp)
                  have hea := hea.en e22 (by simp)
                  have hq14 := hq14.ext e22
                  have hM := hM.pr e22 (by simp)
                  have oco2 := oco2.ext e22 (by simp) (by simp)
                  obtain ⟨mvs3, hm3, hm4⟩ := id hM
                  obtain ⟨h4, h5, hve, hh4, hh5⟩ := id lw.hd
                  have hml3 := hm4.length
                  refine ⟨_, rfl, ml, _, rfl, .inl (SqL.of hm3), _, rfl, h4, _, _, _, hve, rfl, SqT.of hh4, rfl, _, _, rfl, rfl, _, rfl, iteD (fun cf => ?_) fun cf => ?_⟩
                  · have hle : ((tr tab).lk u).c ≤ (((R ++ f).length : Nat) : Int) := by rw [← hml3]; exact cf
                    obtain ⟨dx7, fs7, hi7, w7, a7, r7, i7⟩ := oco2.ins
                    refine ⟨_, rfl, oc, dx7, fs7, rfl, hi7, w7, u, _, n, oc, roc, _, rfl, oco2, fun _ => ?_, fun z => absurd hle z⟩
                    refine ⟨rfl, _, rfl, iteN (neE _) ?_⟩
                    refine ⟨_, rfl, oc, dx7, fs7, rfl, hi7, a7, Nat.zero_le _, fun ca hca => ?_⟩
                    have e23 := Ext.new (S := ([] : List Addr)) (o := .lst []) hca
                    have lw := lw.ext0 e23
                    have hcr := (oco2.ne2 hca).symm
                    have co := co.ext e23 (by simp) (by simp)
                    have hea := hea.en e23 (by simp)
                    have hq14 := hq14.ext e23
                    have hM := hM.pr e23 (by simp)
                    have oco2 := oco2.ext e23 (by simp) (by simp)
                    refine ⟨u, _, n, oc, roc, _, ca, [], rfl, oco2, ⟨[], upd_same, trivial⟩, hcr, (fun e he => by cases he), Nat.zero_le _, lw.ts, by omega, by omega, fun _ => ?_, fun z => absurd hle z⟩
                    refine ⟨rfl, _, rfl, iteN (neE _) ?_⟩
                    obtain ⟨dx8, fs8, hi8, w8, a8, r8, i8⟩ := oco2.ins
                    refine ⟨_, rfl, oc, dx8, fs8, rfl, hi8, r8, u, _, n, oc, roc, _, rfl, oco2, fun H20 p20 e24 hp20 hl20 => ?_⟩
                    have hM := hM.pr e24 (by simp)
                    refine ⟨_, rfl, _, _, hl20.dp, hM.dp, dxT.shaped (tab_sok hMok), dxT.shaped (tab_sok hMok), _, rfl, ?_⟩
                    rw [dxT.eqv]
                    refine iteN (neE _) ?_
                    exact ⟨⟨_, _, _, _, _, rfl⟩, lw.ext0 e24, co.ext e24 (by simp) (by simp), hea.en e24 (by simp), hq14.ext e24⟩
                  · exact ⟨⟨_, _, _, _, _, rfl⟩, lw, co, hea, hq14⟩
        · clear lw co hB hea hgl hq10 hM
          rintro σ H11 ⟨⟨z14, z15, z16, z17, z18, rfl⟩, lw, co, hea, hq10⟩
          obtain ⟨dx4, fs4, hi4, w4, a4, r4, i4⟩ := co.ins
          obtain ⟨evs2, he3, he4⟩ := id hea
          refine ⟨_, rfl, c, dx4, fs4, rfl, hi4, a4, _, rfl, ea, evs2, rfl, .inl (SqL.of he3), fun g2 hg20 => ?_⟩
          have e15 := Ext.new (S := ([] : List Addr)) (o := .lst evs2) hg20
          have n1 := lw.st.ne1 hg20
          have n2 := lw.st.ne2 hg20
          have n3 := lw.tb.ne hg20
          have n5 := co.ne2 hg20
          have lw := lw.ext0 e15
          have co := co.ext e15 (by simp) (by simp)
          refine ⟨u, _, n, c, ro, R, g2, es, rfl, co, ⟨evs2, upd_same, he4.imp fun _ _ => EnAt.ext e15⟩, n5.symm, heok, by omega, lw.ts, by omega, by omega, fun z => absurd z hgt, fun _ H12 v2 e16 hv2 co2 => ?_⟩
          rw [hrd] at hv2 co2
          obtain ⟨ta, tl, rfl, ht7, ht8, ht9⟩ := id hv2
          have hatl := lw.st.ne1 ht9
          have hbtl := lw.st.ne2 ht9
          have httl := lw.tb.ne ht9
          have hctl := co.ne1 ht9
          have hrtl := co.ne2 ht9
          have lw := lw.ext e16 (nin3 hac har n1) (nin3 hbc hbr n2) (nin3 htc htr n3)
          have hq11 := (hq10.ext e15).ext e16
          have hpg : (behind (lastK R) tab).take n = (tab.drop (k * n)).take n := by rw [← hR, behind_drop hup hok]
          have hpok : TabOk ((tab.drop (k * n)).take n) := (hok.drop _).take _
          refine ⟨_, rfl, _, rfl, _, rfl, t, tab, .ref qa, lastK R, n, rfl, lw.tb, by omega, hq11, fun H13 pq e17 hpq hlq => ⟨(by show 2 ≤ sizeLine; decide), fun tt htt => ?_⟩⟩
          rw [hpg] at hlq
          have e18 := e17.new2 (o := .tup [.str "answer", .ref pq]) htt
          have hTo1 : ToAt (upd H13 tt (.tup [.str "answer", .ref pq])) (.ref ta) (.ans ((tab.drop (k * n)).take n)) := ⟨ta, tl, rfl, e18.tup ht7, ht8.pr e18 (by simp)⟩
          have hTo2 : ToAt (upd H13 tt (.tup [.str "answer", .ref pq])) (.ref tt) (.ans ((tab.drop (k * n)).take n)) := ⟨tt, pq, rfl, upd_same, hlq.pr (Ext.new (S := []) htt) (by simp)⟩
          refine ⟨_, _, hTo1.dp, hTo2.dp, dxA.shaped (a := .ans _) (tab_sok hpok), dxA.shaped (a := .ans _) (tab_sok hpok), _, rfl, ?_⟩
          rw [dxA.eqv]
          refine iteN (neE _) ?_
          have lw := lw.ext0 e18
          have co2 := co2.ext e18 (by simp) (by simp)
          have ht10 := ht8.pr e18 (by simp)
          obtain ⟨tvs, ht11, ht12⟩ := id ht10
          refine ⟨_, rfl, ta, _, _, _, rfl, rfl, SqT.of (e18.tup ht7), rfl, .inl ⟨rfl, _, SqL.of ht11⟩, tl, tvs, _, rfl, rfl, ht11, ?_, ?_⟩
          · rw [ht12.length]
            have : ((tab.drop (k * n)).take n).length ≤ n := by rw [List.length_take]; omega
            exact smallT (by omega)
          have e19 : Ext [tl] (upd H13 tt (.tup [.str "answer", .ref pq])) (upd (upd H13 tt (.tup [.str "answer", .ref pq])) tl (.lst (tvs ++ [.non]))) := Ext.wrL ht11 List.mem_cons_self
          have lw := lw.ext e19 (nin1 hatl) (nin1 hbtl) (nin1 httl)
          have co2 := co2.ext e19 (nin1 hctl) (nin1 hrtl)
          obtain ⟨dx5, fs5, hi5, w5, a5, r5, i5⟩ := co2.ins
          refine ⟨_, rfl, c, dx5, fs5, rfl, hi5, r5, u, _, n, c, ro, _, rfl, co2, fun H14 sp e20 hsp0 hsp => ?_⟩
          have hasp := lw.st.ne1 hsp0
          have hbsp := lw.st.ne2 hsp0
          have htsp := lw.tb.ne hsp0
          have hcsp := co2.ne1 hsp0
          have hrsp := co2.ne2 hsp0
          have lw := lw.ext0 e20
          have co2 := co2.ext e20 (by simp) (by simp)
          obtain ⟨svs, hs1, hs2⟩ := id hsp
          refine ⟨_, rfl, .inl ⟨rfl, _, SqL.of hs1⟩, sp, svs, _, rfl, rfl, hs1, ?_, ?_⟩
          · rw [hs2.length, List.length_append]
            show R.length + ((tab.drop (k * n)).take n).length < _
            have : ((tab.drop (k * n)).take n).length ≤ n := by rw [List.length_take]; omega
            exact smallT (by omega)
          have e21 : Ext [sp] H14 (upd H14 sp (.lst (svs ++ [.non]))) := Ext.wrL hs1 List.mem_cons_self
          have lw := lw.ext e21 (nin1 hasp) (nin1 hbsp) (nin1 htsp)
          have co2 := co2.ext e21 (nin1 hcsp) (nin1 hrsp)
          refine ⟨⟨_, _, _, _, _, _, _, _, _, _, _, _, rfl⟩, lw, ?_, fun j hj => ?_⟩
          · have e22 : tab.take ((k + 1) * n) = R ++ (Told.ans ((tab.drop (k * n)).take n)).more := by
              show _ = R ++ (tab.drop (k * n)).take n
              rw [← hR, take_page, Nat.succ_mul]
            rw [e22]
            exact co2
          · rcases Nat.lt_succ_iff_lt_or_eq.mp hj with z | z
            · exact hbefore j z
            · rw [z]; exact hRlt
    · rintro σ H0 _
      exact q _
end
end RR
end
section
set_option Elab.async false
set_option linter.all false
set_option maxRecDepth 100000
set_option maxHeartbeats 0
/-! The head's facts, told by one Hook. -/
namespace RR
open PySem PySem.Spec PyProof.Rows L2
abbrev PP : Program := PySem.Challenge.rw_rightrows_k30_whole_copies.prog
def fn0 : List He.DefD := [⟨("cell", none), "cell", "cell", defArgs s_cell, defBody s_cell, defScope s_cell, [], []⟩,
  ⟨("_law_cell", none), "_law_cell", "_law_cell", defArgs s__law_cell, defBody s__law_cell, defScope s__law_cell, [], []⟩,
  ⟨("rank", none), "rank", "rank", defArgs s_rank, defBody s_rank, defScope s_rank, [], []⟩,
  ⟨("_law_codes", none), "_law_codes", "_law_codes", defArgs s__law_codes, defBody s__law_codes, defScope s__law_codes, [], []⟩,
  ⟨("encode", none), "encode", "encode", defArgs s_encode, defBody s_encode, defScope s_encode, [], []⟩,
  ⟨("_law_encode", none), "_law_encode", "_law_encode", defArgs s__law_encode, defBody s__law_encode, defScope s__law_encode, [], []⟩,
  ⟨("digest", none), "digest", "digest", defArgs s_digest, defBody s_digest, defScope s_digest, [], []⟩,
  ⟨("_law_digest", none), "_law_digest", "_law_digest", defArgs s__law_digest, defBody s__law_digest, defScope s__law_digest, [], []⟩,
  ⟨("_law_rank", none), "_law_rank", "_law_rank", defArgs s__law_rank, defBody s__law_rank, defScope s__law_rank, [], []⟩,
  ⟨("outranks", none), "outranks", "outranks", defArgs s_outranks, defBody s_outranks, defScope s_outranks, [], []⟩,
  ⟨("empty_link", none), "empty_link", "empty_link", defArgs s_empty_link, defBody s_empty_link, defScope s_empty_link, [], []⟩,
  ⟨("entry_link", none), "entry_link", "entry_link", defArgs s_entry_link, defBody s_entry_link, defScope s_entry_link, [], []⟩,
  ⟨("_law_link", none), "_law_link", "_law_link", defArgs s__law_link, defBody s__law_link, defScope s__law_link, [], []⟩,
  ⟨("empty_tree", none), "empty_tree", "empty_tree", defArgs s_empty_tree, defBody s_empty_tree, defScope s_empty_tree, [], []⟩,
  ⟨("node_of", none), "node_of", "node_of", defArgs s_node_of, defBody s_node_of, defScope s_node_of, [], []⟩,
  ⟨("tree_of", none), "tree_of", "tree_of", defArgs s_tree_of, defBody s_tree_of, defScope s_tree_of, [], []⟩,
  ⟨("head_of", none), "head_of", "head_of", defArgs s_head_of, defBody s_head_of, defScope s_head_of, [], []⟩,
  ⟨("_law_top", none), "_law_top", "_law_top", defArgs s__law_top, defBody s__law_top, defScope s__law_top, [], []⟩,
  ⟨("_law_tree", none), "_law_tree", "_law_tree", defArgs s__law_tree, defBody s__law_tree, defScope s__law_tree, [], []⟩,
  ⟨("is_number", none), "is_number", "is_number", defArgs s_is_number, defBody s_is_number, defScope s_is_number, [], []⟩]
def fn1 : List He.DefD := [⟨("is_key", none), "is_key", "is_key", defArgs s_is_key, defBody s_is_key, defScope s_is_key, [], []⟩,
  ⟨("is_row", none), "is_row", "is_row", defArgs s_is_row, defBody s_is_row, defScope s_is_row, [], []⟩,
  ⟨("is_link", none), "is_link", "is_link", defArgs s_is_link, defBody s_is_link, defScope s_is_link, [], []⟩,
  ⟨("is_entry", none), "is_entry", "is_entry", defArgs s_is_entry, defBody s_is_entry, defScope s_is_entry, [], []⟩,
  ⟨("add_next", none), "add_next", "add_next", defArgs s_add_next, defBody s_add_next, defScope s_add_next, [], []⟩,
  ⟨("walked", none), "walked", "walked", defArgs s_walked, defBody s_walked, defScope s_walked, [], []⟩,
  ⟨("answered", none), "answered", "answered", defArgs s_answered, defBody s_answered, defScope s_answered, [], []⟩,
  ⟨("read", none), "read", "read", defArgs s_read, defBody s_read, defScope s_read, [], []⟩,
  ⟨("_law_draw", none), "_law_draw", "_law_draw", defArgs s__law_draw, defBody s__law_draw, defScope s__law_draw, [], []⟩,
  ⟨("_law_rule", none), "_law_rule", "_law_rule", defArgs s__law_rule, defBody s__law_rule, defScope s__law_rule, [], []⟩,
  ⟨("_law_key", none), "_law_key", "_law_key", defArgs s__law_key, defBody s__law_key, defScope s__law_key, [], []⟩,
  ⟨("_law_row", none), "_law_row", "_law_row", defArgs s__law_row, defBody s__law_row, defScope s__law_row, [], []⟩,
  ⟨("_law_answer_of", none), "_law_answer_of", "_law_answer_of", defArgs s__law_answer_of, defBody s__law_answer_of, defScope s__law_answer_of, [], []⟩,
  ⟨("_law_answer", none), "_law_answer", "_law_answer", defArgs s__law_answer, defBody s__law_answer, defScope s__law_answer, [], []⟩,
  ⟨("_law_is_up", none), "_law_is_up", "_law_is_up", defArgs s__law_is_up, defBody s__law_is_up, defScope s__law_is_up, [], []⟩,
  ⟨("_law_table", none), "_law_table", "_law_table", defArgs s__law_table, defBody s__law_table, defScope s__law_table, [], []⟩,
  ⟨("_law_turned_link", none), "_law_turned_link", "_law_turned_link", defArgs s__law_turned_link, defBody s__law_turned_link, defScope s__law_turned_link, [], []⟩,
  ⟨("_law_turned_entry", none), "_law_turned_entry", "_law_turned_entry", defArgs s__law_turned_entry, defBody s__law_turned_entry, defScope s__law_turned_entry, [], []⟩,
  ⟨("_law_turned", none), "_law_turned", "_law_turned", defArgs s__law_turned, defBody s__law_turned, defScope s__law_turned, [], []⟩,
  ⟨("law", none), "law", "law", defArgs s_law, defBody s_law, defScope s_law, [], []⟩]
def fn2 : List He.DefD := [⟨("Part", some "is_empty"), "is_empty", "Part.is_empty", defArgs s_Part_is_empty, defBody s_Part_is_empty, defScope s_Part_is_empty, [], []⟩,
  ⟨("Known", some "opened"), "opened", "Source.opened", defArgs s_Source_opened, defBody s_Source_opened, defScope s_Source_opened, [], []⟩,
  ⟨("Given", some "opened"), "opened", "Source.opened", defArgs s_Source_opened, defBody s_Source_opened, defScope s_Source_opened, [], []⟩,
  ⟨("Known", some "entry_of"), "entry_of", "Known.entry_of", defArgs s_Known_entry_of, defBody s_Known_entry_of, defScope s_Known_entry_of, [], []⟩,
  ⟨("Known", some "root"), "root", "Known.root", defArgs s_Known_root, defBody s_Known_root, defScope s_Known_root, [], []⟩,
  ⟨("Given", some "entry_of"), "entry_of", "Given.entry_of", defArgs s_Given_entry_of, defBody s_Given_entry_of, defScope s_Given_entry_of, [], []⟩,
  ⟨("Given", some "root"), "root", "Given.root", defArgs s_Given_root, defBody s_Given_root, defScope s_Given_root, [], []⟩,
  ⟨("Given", some "finish"), "finish", "Given.finish", defArgs s_Given_finish, defBody s_Given_finish, defScope s_Given_finish, [], []⟩,
  ⟨("Copy", some "wanted"), "wanted", "Copy.wanted", defArgs s_Copy_wanted, defBody s_Copy_wanted, defScope s_Copy_wanted, [], []⟩,
  ⟨("Copy", some "add"), "add", "Copy.add", defArgs s_Copy_add, defBody s_Copy_add, defScope s_Copy_add, [], []⟩,
  ⟨("Copy", some "rows"), "rows", "Copy.rows", defArgs s_Copy_rows, defBody s_Copy_rows, defScope s_Copy_rows, [], []⟩,
  ⟨("Copy", some "is_whole"), "is_whole", "Copy.is_whole", defArgs s_Copy_is_whole, defBody s_Copy_is_whole, defScope s_Copy_is_whole, [], []⟩,
  ⟨("Tree", some "__init__"), "__init__", "Tree.__init__", defArgs s_Tree___init__, defBody s_Tree___init__, defScope s_Tree___init__, [], []⟩,
  ⟨("Part", some "__init__"), "__init__", "Part.__init__", defArgs s_Part___init__, defBody s_Part___init__, defScope s_Part___init__, [], []⟩,
  ⟨("Node", some "__init__"), "__init__", "Node.__init__", defArgs s_Node___init__, defBody s_Node___init__, defScope s_Node___init__, [], []⟩,
  ⟨("Source", some "__init__"), "__init__", "Source.__init__", defArgs s_Source___init__, defBody s_Source___init__, defScope s_Source___init__, [], []⟩,
  ⟨("Copy", some "__init__"), "__init__", "Copy.__init__", defArgs s_Copy___init__, defBody s_Copy___init__, defScope s_Copy___init__, [], []⟩]
def fn : List He.DefD := fn0 ++ (fn1 ++ (fn2))
def fa0 : List He.Fa := [.glo "cell",
  .glo "_law_cell",
  .glo "rank",
  .glo "_law_codes",
  .glo "encode",
  .glo "_law_encode",
  .glo "digest",
  .glo "_law_digest",
  .glo "_law_rank",
  .glo "outranks",
  .glo "empty_link",
  .glo "entry_link",
  .glo "_law_link",
  .glo "empty_tree",
  .glo "node_of",
  .glo "tree_of",
  .glo "head_of",
  .glo "_law_top",
  .glo "_law_tree",
  .glo "is_number"]
def fa1 : List He.Fa := [.glo "is_key",
  .glo "is_row",
  .glo "is_link",
  .glo "is_entry",
  .glo "add_next",
  .glo "walked",
  .glo "answered",
  .glo "read",
  .glo "_law_draw",
  .glo "_law_rule",
  .glo "_law_key",
  .glo "_law_row",
  .glo "_law_answer_of",
  .glo "_law_answer",
  .glo "_law_is_up",
  .glo "_law_table",
  .glo "_law_turned_link",
  .glo "_law_turned_entry",
  .glo "_law_turned",
  .glo "law"]
def fa2 : List He.Fa := [.glo "Tree",
  .glo "Part",
  .glo "Node",
  .glo "Known",
  .glo "Given",
  .glo "Copy",
  .glo "Refused",
  .free "len",
  .free "all",
  .free "isinstance",
  .free "str",
  .free "int",
  .free "bool",
  .free "tuple",
  .free "list",
  .free "ord",
  .free "range",
  .free "sorted",
  .free "set",
  .free "super"]
def fa3 : List He.Fa := [.int "COLUMNS" 3,
  .int "MOST_NUMBER" 65535,
  .str "LETTERS" "abcdefghijklmnopqrstuvwxyz0123456789",
  .cls "Tree",
  .cls "Part",
  .cls "Node",
  .cls "Known",
  .cls "Given",
  .cls "Copy",
  .noat "Tree" "link",
  .noat "Tree" "entry",
  .noat "Tree" "left",
  .noat "Tree" "right",
  .noat "Part" "link",
  .noat "Part" "tree",
  .noat "Part" "node",
  .noat "Node" "key",
  .noat "Node" "row",
  .noat "Node" "left",
  .noat "Node" "right"]
def fa4 : List He.Fa := [.noat "Known" "rule",
  .noat "Known" "entries",
  .noat "Given" "rule",
  .noat "Given" "certificate",
  .noat "Given" "position",
  .noat "Copy" "_rule",
  .noat "Copy" "_head",
  .noat "Copy" "_size",
  .noat "Copy" "_rows",
  .noat "Refused" "word",
  .noat "Refused" "number",
  .meth "Part" "is_empty",
  .meth "Known" "opened",
  .meth "Given" "opened",
  .meth "Known" "entry_of",
  .meth "Known" "root",
  .meth "Given" "entry_of",
  .meth "Given" "root",
  .meth "Given" "finish",
  .meth "Copy" "wanted"]
def fa5 : List He.Fa := [.meth "Copy" "add",
  .meth "Copy" "rows",
  .meth "Copy" "is_whole",
  .mkr "Tree",
  .mkr "Part",
  .mkr "Node",
  .mkr "Known",
  .mkr "Given",
  .mkr "Copy",
  .exm "Refused" "Refused" true,
  .keep "Refused"]
def fa : List He.Fa := fa0 ++ (fa1 ++ (fa2 ++ (fa3 ++ (fa4 ++ (fa5)))))
def tf : List He.Defn := [("is_key", none), ("is_row", none), ("is_link", none), ("is_entry", none)]
/-! ### a class of its own over ValueError, closures -/
def oexB (K : PySem.W.Frag) (C : Addr) : Bool := match K.lookup C with
  | some ⟨.type t, _, .cls cd, sl⟩ => decide (t = "type") && (match cd.mro, sl.toList with
    | .ref C' :: bm, [_, _, _, _, some (.builtin n), _] => decide (C' = C) && (decide (n = "ValueError.__new__") && (!cd.hasDel && (cd.hasDict && PySem.HandSPX.refsVE bm)))
    | _, _ => false)
  | _ => false
theorem oexB_ok {K : PySem.W.Frag} {C : Addr} (h : oexB K C = true) : ∃ nm q N bs bm sn sub ab col dd k0 k1 k2 k3 k5, K.lookup C = some (excClassObj nm q C N bs bm true sn sub ab col dd k0 k1 k2 k3 k5 "ValueError.__new__") ∧ PySem.HandSPX.refsVE bm = true := by
  unfold oexB at h
  split at h
  · rename_i t dd cd sl ho
    obtain ⟨ht, hz⟩ := He.ba h
    clear h
    have et : t = "type" := of_decide_eq_true ht
    subst et
    split at hz
    · rename_i C' bm k0 k1 k2 k3 n k5 hm hs
      obtain ⟨h1, hz1⟩ := He.ba hz
      obtain ⟨h2, hz2⟩ := He.ba hz1
      obtain ⟨h3, hz3⟩ := He.ba hz2
      obtain ⟨h4, h5⟩ := He.ba hz3
      clear hz hz1 hz2 hz3
      have e1 : C' = C := of_decide_eq_true h1
      have e2 : n = "ValueError.__new__" := of_decide_eq_true h2
      subst e1 e2
      obtain ⟨nm, bs, mro, ns, qn, hd, sn, sub, ab, col, del⟩ := cd
      dsimp only at hm h3 h4
      have h3' : del = false := by simpa using h3
      subst hm h3' h4
      have hsl : sl = #[k0, k1, k2, k3, some (.builtin "ValueError.__new__"), k5] := by
        obtain ⟨l⟩ := sl
        simp only at hs
        rw [hs]
      subst hsl
      exact ⟨nm, qn, ns, bs, bm, sn, sub, ab, col, dd, k0, k1, k2, k3, k5, ho, h5⟩
    · cases hz
  · cases h
def fileB (K : PySem.W.Frag) (cd : Value) : Bool := match cd with
  | .ref c => (match K.lookup c with
    | some ⟨_, _, .fields vs, _⟩ => (match (vs[2]? : Option Value) with
      | some (.str f _) => (PP.main.file : Str) == f
      | _ => false)
    | _ => false)
  | _ => false
def cellB (K : PySem.W.Frag) (cl : List (Str × Addr)) (D : Addr) : Bool := match cl with
  | [(x, cc)] => decide (x = "__class__") && (match K.lookup cc with
    | some ⟨_, _, .cell (some (.ref D')), _⟩ => decide (D' = D)
    | _ => false)
  | _ => false
def cloB (K : PySem.W.Frag) (p : He.Defn) (q x : Str) : Bool := PySem.W.keepIn K (.ref (He.fAd K p)) && (match K.lookup (He.fAd K p) with
  | some ⟨_, _, .func fd, _⟩ => PySem.W.codeIn K fd.code q && (fileB K fd.code && cellB K fd.closure (He.ga K x))
  | _ => false)
abbrev CloW : Type := Option (Str × Str × Arguments × FuncBody × Scope × Addr × Value × Addr)
def cloW (K : PySem.W.Frag) (p : He.Defn) : CloW := match K.lookup (He.fAd K p) with
  | some ⟨_, _, .func fd, _⟩ => some (fd.name, fd.qualname, fd.params, fd.body, fd.scope, fd.globals, fd.defaults, fd.builtins)
  | _ => none
def cloV (q : Str) (st : Stmt) : CloW := some (("__init__" : Str), q, defArgs st, FuncBody.stmts (defBody st), defScope st, mainGlobals, Value.none, builtinsNs)
theorem clo_ok {K : PySem.W.Frag} {p : He.Defn} {q x : Str} {st : Stmt} (e : cloW K p = cloV q st) (c : cloB K p q x = true) : ∃ fd, FunS PP K "__init__" q (defArgs st) (defBody st) (defScope st) (He.ga K x) (He.fAd K p) fd := by
  obtain ⟨kp, c2⟩ := He.ba c
  unfold cloW at e
  cases h : K.lookup (He.fAd K p) with
  | none =>
    rw [h] at c2
    cases c2
  | some o =>
    obtain ⟨oc, od, dt, osl⟩ := o
    rw [h] at c2 e
    cases dt with
    | func fd =>
      obtain ⟨n1, n2, n3, n4, n5, n6, n7, n8, n9, n10, n11, n12, n13, n14, n15⟩ := fd
      have e2 : (some (n1, n2, n3, n4, n5, n6, n8, n15) : CloW) = some (("__init__" : Str), q, defArgs st, FuncBody.stmts (defBody st), defScope st, mainGlobals, Value.none, builtinsNs) := e
      simp only [Option.some.injEq, Prod.mk.injEq] at e2
      obtain ⟨h1, h2, h3, h4, h5, h6, h7, h8⟩ := e2
      subst h1 h2 h3 h4 h5 h6 h7 h8
      have c3 : (PySem.W.codeIn K n13 n2 && (fileB K n13 && cellB K n7 (He.ga K x))) = true := c2
      obtain ⟨k1, k2⟩ := He.ba c3
      obtain ⟨k3, k4⟩ := He.ba k2
      obtain ⟨cda, rfl⟩ := He.codeIn_ref k1
      have hf : ∃ ccl cdd vs ccs file tf, K.lookup cda = some ⟨ccl, cdd, .fields vs, ccs⟩ ∧ vs[2]? = some (.str file tf) ∧ ((PP.main.file : Str) == file) = true := by
        unfold fileB at k3
        dsimp only at k3
        split at k3
        · rename_i ccl cdd vs ccs hk
          split at k3
          · rename_i file tf hv
            exact ⟨ccl, cdd, vs, ccs, file, tf, hk, hv, k3⟩
          · cases k3
        · cases k3
      have hc : ∃ cc : Addr, n7 = [(("__class__" : Str), cc)] ∧ ∃ cl cld csl, K.lookup cc = some ⟨cl, cld, .cell (some (.ref (He.ga K x))), csl⟩ := by
        unfold cellB at k4
        split at k4
        · rename_i y cc
          obtain ⟨k5, k6⟩ := He.ba k4
          have ey : y = ("__class__" : Str) := of_decide_eq_true k5
          subst ey
          split at k6
          · rename_i cl cld D' csl hk
            have eD : D' = He.ga K x := of_decide_eq_true k6
            rw [eD] at hk
            exact ⟨cc, rfl, cl, cld, csl, hk⟩
          · cases k6
        · cases k4
      obtain ⟨cc, rfl, hc⟩ := hc
      exact ⟨_, ⟨oc, n9, n10, n11, n14, od, n12, osl, cda, cc, rfl, h, k1, hc, hf⟩, kp⟩
    | _ => cases c2
def exl : List (PySem.W.Frag → Bool) := [
  fun K => oexB K (He.ga K "Refused"),
  fun K => He.eqO (PySem.W.findIn K (.ref (He.ga K "Refused")) "__setattr__") (some (some (.builtin "object.__setattr__"))),
  fun K => decide (PySem.W.subIn K (.ref (He.ga K "Refused")) (.type "BaseException") = some true),
  fun K => decide (PySem.W.typeIn K (.ref (He.ga K "Refused")) = some (.type "type")),
  fun K => He.eqO (PySem.W.findIn K (.ref (He.ga K "Refused")) "__getattribute__") (some (some (.builtin "BaseException.__getattribute__"))),
  fun K => He.eqO (PySem.W.findIn K (.ref (He.ga K "Refused")) "__getattr__") (some none),
  fun K => PySem.W.hasDictIn K (He.ga K "Refused"),
  fun K => decide (PySem.W.subIn K (.ref (He.ga K "Refused")) (.type "ValueError") = some true),
  fun K => He.eqO (PySem.W.findIn K (.ref (He.ga K "Refused")) "__init__") (some (some (.ref (He.ma K (He.ga K "Refused") "__init__")))),
  fun K => decide (PySem.W.typeIn K (.ref (He.ma K (He.ga K "Refused") "__init__")) = some (.type "function")),
  fun K => He.eqO (PySem.W.ks_superIn K (He.ga K "Refused") (He.ga K "Refused") "__init__") (some (some (.builtin "ValueError.__init__"))),
  fun K => He.eqO (PySem.W.ks_superIn K (He.ga K "Known") (He.ga K "Known") "__init__") (some (some (.ref (He.ma K (He.ga K "Source") "__init__")))),
  fun K => He.eqO (PySem.W.ks_superIn K (He.ga K "Given") (He.ga K "Given") "__init__") (some (some (.ref (He.ma K (He.ga K "Source") "__init__")))),
  fun K => PySem.W.fnIn K (He.ma K (He.ga K "Source") "__init__"),
  fun K => decide (PySem.W.typeIn K (.ref (He.ma K (He.ga K "Source") "__init__")) = some (.type "function")),
  fun K => He.eqO (PySem.W.nsIn K cStatics "thirdparty.any") (some none),
  fun K => (PySem.W.clsIn K (He.ga K "Known")).isSome,
  fun K => decide (PySem.W.mroIn K (He.ga K "Known") (.ref (He.ga K "Known")) = some true),
  fun K => cloB K ("Known", some "__init__") "Known.__init__" "Known",
  fun K => (PySem.W.clsIn K (He.ga K "Given")).isSome,
  fun K => decide (PySem.W.mroIn K (He.ga K "Given") (.ref (He.ga K "Given")) = some true),
  fun K => cloB K ("Given", some "__init__") "Given.__init__" "Given",
  fun K => (PySem.W.clsIn K (He.ga K "Refused")).isSome,
  fun K => decide (PySem.W.mroIn K (He.ga K "Refused") (.ref (He.ga K "Refused")) = some true),
  fun K => cloB K ("Refused", some "__init__") "Refused.__init__" "Refused"]

def fc : List (He.Defn × CloW) := [(("Known", some "__init__"), cloV "Known.__init__" s_Known___init__), (("Given", some "__init__"), cloV "Given.__init__" s_Given___init__), (("Refused", some "__init__"), cloV "Refused.__init__" s_Refused___init__)]
/-! ### the Hook -/
abbrev AlY : Type := (He.AlD × List CloW) × Bool
def frY (g : Addr → Option Obj) : PySem.W.Frag := He.frT g (cStatics :: He.asD g 5)
def obsY (g : Addr → Option Obj) : AlY := ((He.obsD fa fn (frY g), fc.map fun p => cloW (frY g) p.1), exl.all (fun f => f (frY g)) && He.tabsB g tf (frY g))
def valY : AlY := ((He.valD fn, fc.map fun p => p.2), true)
structure SaysY (h : Heap) (K : PySem.W.Frag) : Prop where
  d : He.SaysD fa fn K
  c : fc.map (fun p => cloW K p.1) = fc.map fun p => p.2
  more : exl.all (fun f => f K) = true
  hd : ∀ p ∈ tf, PySem.W.codeHdIn K (He.cT K p).1 (He.cT K p).2 = true
  out : ∀ p ∈ tf, K.lookup (He.cT K p).2 = none
  empty : ∀ p ∈ tf, h.get? (He.cT K p).2 = some { cls := .none, data := .fields #[] }
theorem saysY_of {h : Heap} (e : obsY h.get? = valY) : SaysY h (frY h.get?) := by
  have e1 : (He.obsD fa fn (frY h.get?), fc.map fun p => cloW (frY h.get?) p.1) = ((He.valD fn, fc.map fun p => p.2) : He.AlD × List CloW) := congrArg (fun z : AlY => z.1) e
  have e2 : (exl.all (fun f => f (frY h.get?)) && He.tabsB h.get? tf (frY h.get?)) = true := congrArg (fun z : AlY => z.2) e
  obtain ⟨h1, h2⟩ := He.ba e2
  have key : ∀ p ∈ tf, PySem.W.codeHdIn (frY h.get?) (He.cT (frY h.get?) p).1 (He.cT (frY h.get?) p).2 = true ∧ ∃ o, h.get? (He.cT (frY h.get?) p).2 = some o ∧ He.emptyTab o = true := fun p hp => by
    obtain ⟨h3, h4⟩ := He.ba (List.all_eq_true.mp h2 p hp)
    refine ⟨h3, ?_⟩
    cases q : h.get? (He.cT (frY h.get?) p).2 with
    | none =>
      rw [q] at h4
      cases h4
    | some o =>
      rw [q] at h4
      exact ⟨o, rfl, h4⟩
  exact ⟨congrArg (fun z : He.AlD × List CloW => z.1) e1, congrArg (fun z : He.AlD × List CloW => z.2) e1, h1, fun p hp => (key p hp).1, fun p hp => by
    obtain ⟨_, o, q, z⟩ := key p hp
    exact He.frT_none q z, fun p hp => by
    obtain ⟨_, o, q, z⟩ := key p hp
    rw [q, He.emptyTab_eq z]⟩
def hookY : PySem.W.Hook where
  α := AlY
  obs := fun s => obsY s.heap.get?
  val := fun _ => valY
  says := fun _ h => ∃ K : PySem.W.Frag, K.In h ∧ SaysY h K
  of := fun _ _ e => ⟨_, He.frT_in, saysY_of e⟩
  keeps := fun _ _ _ ⟨K, hK, c⟩ k => ⟨K, PySem.W.Frag.In.keeps hK k, ⟨c.d, c.c, c.more, c.hd, c.out, fun p hp => k _ _ (c.empty p hp)⟩⟩
def obY (s : PySem.W.SharedT) : AlY := obsY (HandSHeadRun.getT s)
theorem obY_eq (s : PySem.W.SharedT) : obY s = hookY.obs s.abs := by
  have e : HandSHeadRun.getT s = s.abs.heap.get? := funext (HandSHeadRun.getT_eq s)
  show obsY _ = obsY _
  rw [e]
theorem SaysY.ex {h : Heap} {K : PySem.W.Frag} (c : SaysY h K) (i : Nat) {f : PySem.W.Frag → Bool} (e : exl[i]? = some f := by rfl) : f K = true := List.all_eq_true.mp c.more f (List.mem_of_getElem? e)
theorem SaysY.clo {h : Heap} {K : PySem.W.Frag} (c : SaysY h K) (i : Nat) {p : He.Defn × CloW} (e : fc[i]? = some p := by rfl) : cloW K p.1 = p.2 := by
  have e2 : (fc.map fun p => cloW K p.1)[i]? = (fc.map fun p => p.2)[i]? := by rw [c.c]
  rw [List.getElem?_map, List.getElem?_map, e] at e2
  exact Option.some.inj e2
end RR
end
section
set_option Elab.async false
set_option linter.all false
set_option maxRecDepth 100000
set_option maxHeartbeats 0
/-! The facts joined: the law's promise. -/
namespace RR
open PySem PySem.Spec PyProof.Rows L2
def adY (K : PySem.W.Frag) : Ad := ⟨He.ga K "Tree", He.ga K "Part", He.ga K "Node", He.ga K "Known", He.ga K "Given", He.ga K "Copy", He.ga K "Refused"⟩
def tbY (K : PySem.W.Frag) : Tbs := ⟨(He.cT K ("is_key", none)).2, (He.cT K ("is_row", none)).2, (He.cT K ("is_link", none)).2, (He.cT K ("is_entry", none)).2⟩
section
variable {h : Heap} {K : PySem.W.Frag} {mg : Str → Option Value}
theorem txtY (X : K.In h) (G : h.Ns mainGlobals mg) (c : SaysY h K) : Txt K mg (adY K) where
  tree := He.cls_ok (c.d.fact 63 (f := .cls "Tree") rfl)
  part := He.cls_ok (c.d.fact 64 (f := .cls "Part") rfl)
  node := He.cls_ok (c.d.fact 65 (f := .cls "Node") rfl)
  known := He.cls_ok (c.d.fact 66 (f := .cls "Known") rfl)
  given := He.cls_ok (c.d.fact 67 (f := .cls "Given") rfl)
  copy := He.cls_ok (c.d.fact 68 (f := .cls "Copy") rfl)
  tL := He.noat_ok (c.d.fact 69 (f := .noat "Tree" "link") rfl)
  tE := He.noat_ok (c.d.fact 70 (f := .noat "Tree" "entry") rfl)
  tA := He.noat_ok (c.d.fact 71 (f := .noat "Tree" "left") rfl)
  tB := He.noat_ok (c.d.fact 72 (f := .noat "Tree" "right") rfl)
  pL := He.noat_ok (c.d.fact 73 (f := .noat "Part" "link") rfl)
  pT := He.noat_ok (c.d.fact 74 (f := .noat "Part" "tree") rfl)
  pN := He.noat_ok (c.d.fact 75 (f := .noat "Part" "node") rfl)
  nK := He.noat_ok (c.d.fact 76 (f := .noat "Node" "key") rfl)
  nR := He.noat_ok (c.d.fact 77 (f := .noat "Node" "row") rfl)
  nA := He.noat_ok (c.d.fact 78 (f := .noat "Node" "left") rfl)
  nB := He.noat_ok (c.d.fact 79 (f := .noat "Node" "right") rfl)
  kR := He.noat_ok (c.d.fact 80 (f := .noat "Known" "rule") rfl)
  kE := He.noat_ok (c.d.fact 81 (f := .noat "Known" "entries") rfl)
  gR := He.noat_ok (c.d.fact 82 (f := .noat "Given" "rule") rfl)
  gC := He.noat_ok (c.d.fact 83 (f := .noat "Given" "certificate") rfl)
  gP := He.noat_ok (c.d.fact 84 (f := .noat "Given" "position") rfl)
  cR := He.noat_ok (c.d.fact 85 (f := .noat "Copy" "_rule") rfl)
  cH := He.noat_ok (c.d.fact 86 (f := .noat "Copy" "_head") rfl)
  cS := He.noat_ok (c.d.fact 87 (f := .noat "Copy" "_size") rfl)
  cO := He.noat_ok (c.d.fact 88 (f := .noat "Copy" "_rows") rfl)
  len := He.free_ok X G (c.d.fact 47 (f := .free "len") rfl)
  all := He.free_ok X G (c.d.fact 48 (f := .free "all") rfl)
  isinstance := He.free_ok X G (c.d.fact 49 (f := .free "isinstance") rfl)
  str := He.free_ok X G (c.d.fact 50 (f := .free "str") rfl)
  int := He.free_ok X G (c.d.fact 51 (f := .free "int") rfl)
  bool := He.free_ok X G (c.d.fact 52 (f := .free "bool") rfl)
  tuple := He.free_ok X G (c.d.fact 53 (f := .free "tuple") rfl)
  list := He.free_ok X G (c.d.fact 54 (f := .free "list") rfl)
  ord := He.free_ok X G (c.d.fact 55 (f := .free "ord") rfl)
  range := He.free_ok X G (c.d.fact 56 (f := .free "range") rfl)
  sorted := He.free_ok X G (c.d.fact 57 (f := .free "sorted") rfl)
  set := He.free_ok X G (c.d.fact 58 (f := .free "set") rfl)
  columns := He.int_ok X G (c.d.fact 60 (f := .int "COLUMNS" 3) rfl)
  most := He.int_ok X G (c.d.fact 61 (f := .int "MOST_NUMBER" 65535) rfl)
  letters := He.str_ok X G (c.d.fact 62 (f := .str "LETTERS" "abcdefghijklmnopqrstuvwxyz0123456789") rfl)
theorem oexY (c : SaysY h K) : OexC K (adY K).refd := ⟨oexB_ok (c.ex 0), He.eqO_ok (c.ex 1), of_decide_eq_true (c.ex 2), of_decide_eq_true (c.ex 3), He.keep_ok (c.d.fact 110 (f := .keep "Refused") rfl)⟩
theorem xrdY (c : SaysY h K) : XRd K (adY K).refd := ⟨He.eqO_ok (c.ex 4), He.eqO_ok (c.ex 5), of_decide_eq_true (c.ex 2), c.ex 6, He.exm_ok (c.d.fact 109 (f := .exm "Refused" "Refused" true) rfl), He.noat_ok (c.d.fact 89 (f := .noat "Refused" "word") rfl), He.noat_ok (c.d.fact 90 (f := .noat "Refused" "number") rfl)⟩
theorem supKnown (X : K.In h) (G : h.Ns mainGlobals mg) (c : SaysY h K) : SupA K mg PP (He.ga K "Known") (He.ga K "Known") := ⟨Option.isSome_iff_exists.mp (c.ex 16), of_decide_eq_true (c.ex 17), He.free_ok X G (c.d.fact 59 (f := .free "super") rfl), (by kernel_rfl), He.eqO_ok (c.ex 15)⟩
theorem supGiven (X : K.In h) (G : h.Ns mainGlobals mg) (c : SaysY h K) : SupA K mg PP (He.ga K "Given") (He.ga K "Given") := ⟨Option.isSome_iff_exists.mp (c.ex 19), of_decide_eq_true (c.ex 20), He.free_ok X G (c.d.fact 59 (f := .free "super") rfl), (by kernel_rfl), He.eqO_ok (c.ex 15)⟩
theorem supRefused (X : K.In h) (G : h.Ns mainGlobals mg) (c : SaysY h K) : SupA K mg PP (He.ga K "Refused") (He.ga K "Refused") := ⟨Option.isSome_iff_exists.mp (c.ex 22), of_decide_eq_true (c.ex 23), He.free_ok X G (c.d.fact 59 (f := .free "super") rfl), (by kernel_rfl), He.eqO_ok (c.ex 15)⟩
theorem tabB_of {b : Heap} {c P : Addr} (t : LamX.TabB b mg c P) : GxR.TabB b mg c P := ⟨t.code, t.bm, t.gP⟩
theorem code_of {x qual : Str} {params : Arguments} {body : List Stmt} {scope : Scope} {dvs : List V} {kws : List (Str × V)} {p : He.Defn} {fd : FuncData} (F : FunD K x qual params body scope dvs kws (He.fAd K p) fd) : fd.code = .ref (He.cT K p).1 := by
  obtain ⟨oc, od, dV, kV, doc, pm, an, cdv, ct, osl, rfl, lk, hcd, _, _⟩ := F.ex
  obtain ⟨cc, rfl⟩ := He.codeIn_ref hcd
  exact (congrArg Value.ref (He.codeOf_eq lk rfl)).symm
theorem joined (X : K.In h) (G : h.Ns mainGlobals mg) (c : SaysY h K) {w : World} {base : Heap} (TB : ∀ p ∈ tf.map (He.cT K), LamX.TabB base mg p.1 p.2) : ∃ fd, FnP K "law" "law" s_law (He.ga K "law") fd ∧ FnOk PP w K mg base CX0 50 (He.ga K "law") fd ps_law (spLaw K (tbY K)) := by
  have T : Txt K mg (adY K) := txtY X G c
  have TBk := tabB_of (TB _ (List.mem_map_of_mem (f := He.cT K) (show (("is_key", none) : He.Defn) ∈ tf by simp [tf])))
  have TBr := tabB_of (TB _ (List.mem_map_of_mem (f := He.cT K) (show (("is_row", none) : He.Defn) ∈ tf by simp [tf])))
  have TBl := tabB_of (TB _ (List.mem_map_of_mem (f := He.cT K) (show (("is_link", none) : He.Defn) ∈ tf by simp [tf])))
  have TBe := tabB_of (TB _ (List.mem_map_of_mem (f := He.cT K) (show (("is_entry", none) : He.Defn) ∈ tf by simp [tf])))
  obtain ⟨d_cell, F_cell⟩ := c.d.def_ 0 (d := ⟨("cell", none), "cell", "cell", defArgs s_cell, defBody s_cell, defScope s_cell, [], []⟩) rfl
  replace F_cell : FnP K "cell" "cell" s_cell (He.ga K "cell") d_cell := F_cell
  have b_cell : Binds K d_cell ps_cell [] := F_cell.bindsN fun _ _ _ _ _ _ us hl => match us, hl with | [_, _], _ => rfl
  have g_cell : mg "cell" = some (.ref (He.ga K "cell")) := He.glo_ok X G (c.d.fact 0 (f := .glo "cell") rfl)
  obtain ⟨d__law_cell, F__law_cell⟩ := c.d.def_ 1 (d := ⟨("_law_cell", none), "_law_cell", "_law_cell", defArgs s__law_cell, defBody s__law_cell, defScope s__law_cell, [], []⟩) rfl
  replace F__law_cell : FnP K "_law_cell" "_law_cell" s__law_cell (He.ga K "_law_cell") d__law_cell := F__law_cell
  have b__law_cell : Binds K d__law_cell ps__law_cell [] := F__law_cell.bindsN fun _ _ _ _ _ _ us hl => match us, hl with | [_, _], _ => rfl
  have g__law_cell : mg "_law_cell" = some (.ref (He.ga K "_law_cell")) := He.glo_ok X G (c.d.fact 1 (f := .glo "_law_cell") rfl)
  obtain ⟨d_rank, F_rank⟩ := c.d.def_ 2 (d := ⟨("rank", none), "rank", "rank", defArgs s_rank, defBody s_rank, defScope s_rank, [], []⟩) rfl
  replace F_rank : FnP K "rank" "rank" s_rank (He.ga K "rank") d_rank := F_rank
  have b_rank : Binds K d_rank ps_rank [] := F_rank.bindsN fun _ _ _ _ _ _ us hl => match us, hl with | [_], _ => rfl
  have g_rank : mg "rank" = some (.ref (He.ga K "rank")) := He.glo_ok X G (c.d.fact 2 (f := .glo "rank") rfl)
  obtain ⟨d__law_codes, F__law_codes⟩ := c.d.def_ 3 (d := ⟨("_law_codes", none), "_law_codes", "_law_codes", defArgs s__law_codes, defBody s__law_codes, defScope s__law_codes, [], []⟩) rfl
  replace F__law_codes : FnP K "_law_codes" "_law_codes" s__law_codes (He.ga K "_law_codes") d__law_codes := F__law_codes
  have b__law_codes : Binds K d__law_codes ps__law_codes [] := F__law_codes.bindsN fun _ _ _ _ _ _ us hl => match us, hl with | [_], _ => rfl
  have g__law_codes : mg "_law_codes" = some (.ref (He.ga K "_law_codes")) := He.glo_ok X G (c.d.fact 3 (f := .glo "_law_codes") rfl)
  obtain ⟨d_encode, F_encode⟩ := c.d.def_ 4 (d := ⟨("encode", none), "encode", "encode", defArgs s_encode, defBody s_encode, defScope s_encode, [], []⟩) rfl
  replace F_encode : FnP K "encode" "encode" s_encode (He.ga K "encode") d_encode := F_encode
  have b_encode : Binds K d_encode ps_encode [] := F_encode.bindsN fun _ _ _ _ _ _ us hl => match us, hl with | [_], _ => rfl
  have g_encode : mg "encode" = some (.ref (He.ga K "encode")) := He.glo_ok X G (c.d.fact 4 (f := .glo "encode") rfl)
  obtain ⟨d__law_encode, F__law_encode⟩ := c.d.def_ 5 (d := ⟨("_law_encode", none), "_law_encode", "_law_encode", defArgs s__law_encode, defBody s__law_encode, defScope s__law_encode, [], []⟩) rfl
  replace F__law_encode : FnP K "_law_encode" "_law_encode" s__law_encode (He.ga K "_law_encode") d__law_encode := F__law_encode
  have b__law_encode : Binds K d__law_encode ps__law_encode [] := F__law_encode.bindsN fun _ _ _ _ _ _ us hl => match us, hl with | [_], _ => rfl
  have g__law_encode : mg "_law_encode" = some (.ref (He.ga K "_law_encode")) := He.glo_ok X G (c.d.fact 5 (f := .glo "_law_encode") rfl)
  obtain ⟨d_digest, F_digest⟩ := c.d.def_ 6 (d := ⟨("digest", none), "digest", "digest", defArgs s_digest, defBody s_digest, defScope s_digest, [], []⟩) rfl
  replace F_digest : FnP K "digest" "digest" s_digest (He.ga K "digest") d_digest := F_digest
  have b_digest : Binds K d_digest ps_digest [] := F_digest.bindsN fun _ _ _ _ _ _ us hl => match us, hl with | [_, _], _ => rfl
  have g_digest : mg "digest" = some (.ref (He.ga K "digest")) := He.glo_ok X G (c.d.fact 6 (f := .glo "digest") rfl)
  obtain ⟨d__law_digest, F__law_digest⟩ := c.d.def_ 7 (d := ⟨("_law_digest", none), "_law_digest", "_law_digest", defArgs s__law_digest, defBody s__law_digest, defScope s__law_digest, [], []⟩) rfl
  replace F__law_digest : FnP K "_law_digest" "_law_digest" s__law_digest (He.ga K "_law_digest") d__law_digest := F__law_digest
  have b__law_digest : Binds K d__law_digest ps__law_digest [] := F__law_digest.bindsN fun _ _ _ _ _ _ us hl => match us, hl with | [_, _], _ => rfl
  have g__law_digest : mg "_law_digest" = some (.ref (He.ga K "_law_digest")) := He.glo_ok X G (c.d.fact 7 (f := .glo "_law_digest") rfl)
  obtain ⟨d__law_rank, F__law_rank⟩ := c.d.def_ 8 (d := ⟨("_law_rank", none), "_law_rank", "_law_rank", defArgs s__law_rank, defBody s__law_rank, defScope s__law_rank, [], []⟩) rfl
  replace F__law_rank : FnP K "_law_rank" "_law_rank" s__law_rank (He.ga K "_law_rank") d__law_rank := F__law_rank
  have b__law_rank : Binds K d__law_rank ps__law_rank [] := F__law_rank.bindsN fun _ _ _ _ _ _ us hl => match us, hl with | [_], _ => rfl
  have g__law_rank : mg "_law_rank" = some (.ref (He.ga K "_law_rank")) := He.glo_ok X G (c.d.fact 8 (f := .glo "_law_rank") rfl)
  obtain ⟨d_outranks, F_outranks⟩ := c.d.def_ 9 (d := ⟨("outranks", none), "outranks", "outranks", defArgs s_outranks, defBody s_outranks, defScope s_outranks, [], []⟩) rfl
  replace F_outranks : FnP K "outranks" "outranks" s_outranks (He.ga K "outranks") d_outranks := F_outranks
  have b_outranks : Binds K d_outranks ps_outranks [] := F_outranks.bindsN fun _ _ _ _ _ _ us hl => match us, hl with | [_, _], _ => rfl
  have g_outranks : mg "outranks" = some (.ref (He.ga K "outranks")) := He.glo_ok X G (c.d.fact 9 (f := .glo "outranks") rfl)
  obtain ⟨d_empty_link, F_empty_link⟩ := c.d.def_ 10 (d := ⟨("empty_link", none), "empty_link", "empty_link", defArgs s_empty_link, defBody s_empty_link, defScope s_empty_link, [], []⟩) rfl
  replace F_empty_link : FnP K "empty_link" "empty_link" s_empty_link (He.ga K "empty_link") d_empty_link := F_empty_link
  have b_empty_link : Binds K d_empty_link ps_empty_link [] := F_empty_link.bindsN fun _ _ _ _ _ _ us hl => match us, hl with | [_], _ => rfl
  have g_empty_link : mg "empty_link" = some (.ref (He.ga K "empty_link")) := He.glo_ok X G (c.d.fact 10 (f := .glo "empty_link") rfl)
  obtain ⟨d_entry_link, F_entry_link⟩ := c.d.def_ 11 (d := ⟨("entry_link", none), "entry_link", "entry_link", defArgs s_entry_link, defBody s_entry_link, defScope s_entry_link, [], []⟩) rfl
  replace F_entry_link : FnP K "entry_link" "entry_link" s_entry_link (He.ga K "entry_link") d_entry_link := F_entry_link
  have b_entry_link : Binds K d_entry_link ps_entry_link [] := F_entry_link.bindsN fun _ _ _ _ _ _ us hl => match us, hl with | [_, _], _ => rfl
  have g_entry_link : mg "entry_link" = some (.ref (He.ga K "entry_link")) := He.glo_ok X G (c.d.fact 11 (f := .glo "entry_link") rfl)
  obtain ⟨d__law_link, F__law_link⟩ := c.d.def_ 12 (d := ⟨("_law_link", none), "_law_link", "_law_link", defArgs s__law_link, defBody s__law_link, defScope s__law_link, [], []⟩) rfl
  replace F__law_link : FnP K "_law_link" "_law_link" s__law_link (He.ga K "_law_link") d__law_link := F__law_link
  have b__law_link : Binds K d__law_link ps__law_link [] := F__law_link.bindsN fun _ _ _ _ _ _ us hl => match us, hl with | [_, _], _ => rfl
  have g__law_link : mg "_law_link" = some (.ref (He.ga K "_law_link")) := He.glo_ok X G (c.d.fact 12 (f := .glo "_law_link") rfl)
  obtain ⟨d_empty_tree, F_empty_tree⟩ := c.d.def_ 13 (d := ⟨("empty_tree", none), "empty_tree", "empty_tree", defArgs s_empty_tree, defBody s_empty_tree, defScope s_empty_tree, [], []⟩) rfl
  replace F_empty_tree : FnP K "empty_tree" "empty_tree" s_empty_tree (He.ga K "empty_tree") d_empty_tree := F_empty_tree
  have b_empty_tree : Binds K d_empty_tree ps_empty_tree [] := F_empty_tree.bindsN fun _ _ _ _ _ _ us hl => match us, hl with | [_], _ => rfl
  have g_empty_tree : mg "empty_tree" = some (.ref (He.ga K "empty_tree")) := He.glo_ok X G (c.d.fact 13 (f := .glo "empty_tree") rfl)
  obtain ⟨d_node_of, F_node_of⟩ := c.d.def_ 14 (d := ⟨("node_of", none), "node_of", "node_of", defArgs s_node_of, defBody s_node_of, defScope s_node_of, [], []⟩) rfl
  replace F_node_of : FnP K "node_of" "node_of" s_node_of (He.ga K "node_of") d_node_of := F_node_of
  have b_node_of : Binds K d_node_of ps_node_of [] := F_node_of.bindsN fun _ _ _ _ _ _ us hl => match us, hl with | [_, _, _, _, _], _ => rfl
  have g_node_of : mg "node_of" = some (.ref (He.ga K "node_of")) := He.glo_ok X G (c.d.fact 14 (f := .glo "node_of") rfl)
  obtain ⟨d_tree_of, F_tree_of⟩ := c.d.def_ 15 (d := ⟨("tree_of", none), "tree_of", "tree_of", defArgs s_tree_of, defBody s_tree_of, defScope s_tree_of, [], []⟩) rfl
  replace F_tree_of : FnP K "tree_of" "tree_of" s_tree_of (He.ga K "tree_of") d_tree_of := F_tree_of
  have b_tree_of : Binds K d_tree_of ps_tree_of [] := F_tree_of.bindsN fun _ _ _ _ _ _ us hl => match us, hl with | [_, _], _ => rfl
  have g_tree_of : mg "tree_of" = some (.ref (He.ga K "tree_of")) := He.glo_ok X G (c.d.fact 15 (f := .glo "tree_of") rfl)
  obtain ⟨d_head_of, F_head_of⟩ := c.d.def_ 16 (d := ⟨("head_of", none), "head_of", "head_of", defArgs s_head_of, defBody s_head_of, defScope s_head_of, [], []⟩) rfl
  replace F_head_of : FnP K "head_of" "head_of" s_head_of (He.ga K "head_of") d_head_of := F_head_of
  have b_head_of : Binds K d_head_of ps_head_of [] := F_head_of.bindsN fun _ _ _ _ _ _ us hl => match us, hl with | [_, _], _ => rfl
  have g_head_of : mg "head_of" = some (.ref (He.ga K "head_of")) := He.glo_ok X G (c.d.fact 16 (f := .glo "head_of") rfl)
  obtain ⟨d__law_top, F__law_top⟩ := c.d.def_ 17 (d := ⟨("_law_top", none), "_law_top", "_law_top", defArgs s__law_top, defBody s__law_top, defScope s__law_top, [], []⟩) rfl
  replace F__law_top : FnP K "_law_top" "_law_top" s__law_top (He.ga K "_law_top") d__law_top := F__law_top
  have b__law_top : Binds K d__law_top ps__law_top [] := F__law_top.bindsN fun _ _ _ _ _ _ us hl => match us, hl with | [_], _ => rfl
  have g__law_top : mg "_law_top" = some (.ref (He.ga K "_law_top")) := He.glo_ok X G (c.d.fact 17 (f := .glo "_law_top") rfl)
  obtain ⟨d__law_tree, F__law_tree⟩ := c.d.def_ 18 (d := ⟨("_law_tree", none), "_law_tree", "_law_tree", defArgs s__law_tree, defBody s__law_tree, defScope s__law_tree, [], []⟩) rfl
  replace F__law_tree : FnP K "_law_tree" "_law_tree" s__law_tree (He.ga K "_law_tree") d__law_tree := F__law_tree
  have b__law_tree : Binds K d__law_tree ps__law_tree [] := F__law_tree.bindsN fun _ _ _ _ _ _ us hl => match us, hl with | [_, _], _ => rfl
  have g__law_tree : mg "_law_tree" = some (.ref (He.ga K "_law_tree")) := He.glo_ok X G (c.d.fact 18 (f := .glo "_law_tree") rfl)
  obtain ⟨d_is_number, F_is_number⟩ := c.d.def_ 19 (d := ⟨("is_number", none), "is_number", "is_number", defArgs s_is_number, defBody s_is_number, defScope s_is_number, [], []⟩) rfl
  replace F_is_number : FnP K "is_number" "is_number" s_is_number (He.ga K "is_number") d_is_number := F_is_number
  have b_is_number : Binds K d_is_number ps_is_number [] := F_is_number.bindsN fun _ _ _ _ _ _ us hl => match us, hl with | [_], _ => rfl
  have g_is_number : mg "is_number" = some (.ref (He.ga K "is_number")) := He.glo_ok X G (c.d.fact 19 (f := .glo "is_number") rfl)
  obtain ⟨d_is_key, F_is_key⟩ := c.d.def_ 20 (d := ⟨("is_key", none), "is_key", "is_key", defArgs s_is_key, defBody s_is_key, defScope s_is_key, [], []⟩) rfl
  replace F_is_key : FnP K "is_key" "is_key" s_is_key (He.ga K "is_key") d_is_key := F_is_key
  have b_is_key : Binds K d_is_key ps_is_key [] := F_is_key.bindsN fun _ _ _ _ _ _ us hl => match us, hl with | [_], _ => rfl
  have g_is_key : mg "is_key" = some (.ref (He.ga K "is_key")) := He.glo_ok X G (c.d.fact 20 (f := .glo "is_key") rfl)
  obtain ⟨d_is_row, F_is_row⟩ := c.d.def_ 21 (d := ⟨("is_row", none), "is_row", "is_row", defArgs s_is_row, defBody s_is_row, defScope s_is_row, [], []⟩) rfl
  replace F_is_row : FnP K "is_row" "is_row" s_is_row (He.ga K "is_row") d_is_row := F_is_row
  have b_is_row : Binds K d_is_row ps_is_row [] := F_is_row.bindsN fun _ _ _ _ _ _ us hl => match us, hl with | [_], _ => rfl
  have g_is_row : mg "is_row" = some (.ref (He.ga K "is_row")) := He.glo_ok X G (c.d.fact 21 (f := .glo "is_row") rfl)
  obtain ⟨d_is_link, F_is_link⟩ := c.d.def_ 22 (d := ⟨("is_link", none), "is_link", "is_link", defArgs s_is_link, defBody s_is_link, defScope s_is_link, [], []⟩) rfl
  replace F_is_link : FnP K "is_link" "is_link" s_is_link (He.ga K "is_link") d_is_link := F_is_link
  have b_is_link : Binds K d_is_link ps_is_link [] := F_is_link.bindsN fun _ _ _ _ _ _ us hl => match us, hl with | [_], _ => rfl
  have g_is_link : mg "is_link" = some (.ref (He.ga K "is_link")) := He.glo_ok X G (c.d.fact 22 (f := .glo "is_link") rfl)
  obtain ⟨d_is_entry, F_is_entry⟩ := c.d.def_ 23 (d := ⟨("is_entry", none), "is_entry", "is_entry", defArgs s_is_entry, defBody s_is_entry, defScope s_is_entry, [], []⟩) rfl
  replace F_is_entry : FnP K "is_entry" "is_entry" s_is_entry (He.ga K "is_entry") d_is_entry := F_is_entry
  have b_is_entry : Binds K d_is_entry ps_is_entry [] := F_is_entry.bindsN fun _ _ _ _ _ _ us hl => match us, hl with | [_], _ => rfl
  have g_is_entry : mg "is_entry" = some (.ref (He.ga K "is_entry")) := He.glo_ok X G (c.d.fact 23 (f := .glo "is_entry") rfl)
  obtain ⟨d_add_next, F_add_next⟩ := c.d.def_ 24 (d := ⟨("add_next", none), "add_next", "add_next", defArgs s_add_next, defBody s_add_next, defScope s_add_next, [], []⟩) rfl
  replace F_add_next : FnP K "add_next" "add_next" s_add_next (He.ga K "add_next") d_add_next := F_add_next
  have b_add_next : Binds K d_add_next ps_add_next [] := F_add_next.bindsN fun _ _ _ _ _ _ us hl => match us, hl with | [_, _, _, _, _], _ => rfl
  have g_add_next : mg "add_next" = some (.ref (He.ga K "add_next")) := He.glo_ok X G (c.d.fact 24 (f := .glo "add_next") rfl)
  obtain ⟨d_walked, F_walked⟩ := c.d.def_ 25 (d := ⟨("walked", none), "walked", "walked", defArgs s_walked, defBody s_walked, defScope s_walked, [], []⟩) rfl
  replace F_walked : FnP K "walked" "walked" s_walked (He.ga K "walked") d_walked := F_walked
  have b_walked : Binds K d_walked ps_walked [] := F_walked.bindsN fun _ _ _ _ _ _ us hl => match us, hl with | [_, _, _], _ => rfl
  have g_walked : mg "walked" = some (.ref (He.ga K "walked")) := He.glo_ok X G (c.d.fact 25 (f := .glo "walked") rfl)
  obtain ⟨d_answered, F_answered⟩ := c.d.def_ 26 (d := ⟨("answered", none), "answered", "answered", defArgs s_answered, defBody s_answered, defScope s_answered, [], []⟩) rfl
  replace F_answered : FnP K "answered" "answered" s_answered (He.ga K "answered") d_answered := F_answered
  have b_answered : Binds K d_answered ps_answered [] := F_answered.bindsN fun _ _ _ _ _ _ us hl => match us, hl with | [_, _, _], _ => rfl
  have g_answered : mg "answered" = some (.ref (He.ga K "answered")) := He.glo_ok X G (c.d.fact 26 (f := .glo "answered") rfl)
  obtain ⟨d_read, F_read⟩ := c.d.def_ 27 (d := ⟨("read", none), "read", "read", defArgs s_read, defBody s_read, defScope s_read, [], []⟩) rfl
  replace F_read : FnP K "read" "read" s_read (He.ga K "read") d_read := F_read
  have b_read : Binds K d_read ps_read [] := F_read.bindsN fun _ _ _ _ _ _ us hl => match us, hl with | [_, _, _, _], _ => rfl
  have g_read : mg "read" = some (.ref (He.ga K "read")) := He.glo_ok X G (c.d.fact 27 (f := .glo "read") rfl)
  obtain ⟨d__law_draw, F__law_draw⟩ := c.d.def_ 28 (d := ⟨("_law_draw", none), "_law_draw", "_law_draw", defArgs s__law_draw, defBody s__law_draw, defScope s__law_draw, [], []⟩) rfl
  replace F__law_draw : FnP K "_law_draw" "_law_draw" s__law_draw (He.ga K "_law_draw") d__law_draw := F__law_draw
  have b__law_draw : Binds K d__law_draw ps__law_draw [] := F__law_draw.bindsN fun _ _ _ _ _ _ us hl => match us, hl with | [_, _], _ => rfl
  have g__law_draw : mg "_law_draw" = some (.ref (He.ga K "_law_draw")) := He.glo_ok X G (c.d.fact 28 (f := .glo "_law_draw") rfl)
  obtain ⟨d__law_rule, F__law_rule⟩ := c.d.def_ 29 (d := ⟨("_law_rule", none), "_law_rule", "_law_rule", defArgs s__law_rule, defBody s__law_rule, defScope s__law_rule, [], []⟩) rfl
  replace F__law_rule : FnP K "_law_rule" "_law_rule" s__law_rule (He.ga K "_law_rule") d__law_rule := F__law_rule
  have b__law_rule : Binds K d__law_rule ps__law_rule [] := F__law_rule.bindsN fun _ _ _ _ _ _ us hl => match us, hl with | [_], _ => rfl
  have g__law_rule : mg "_law_rule" = some (.ref (He.ga K "_law_rule")) := He.glo_ok X G (c.d.fact 29 (f := .glo "_law_rule") rfl)
  obtain ⟨d__law_key, F__law_key⟩ := c.d.def_ 30 (d := ⟨("_law_key", none), "_law_key", "_law_key", defArgs s__law_key, defBody s__law_key, defScope s__law_key, [], []⟩) rfl
  replace F__law_key : FnP K "_law_key" "_law_key" s__law_key (He.ga K "_law_key") d__law_key := F__law_key
  have b__law_key : Binds K d__law_key ps__law_key [] := F__law_key.bindsN fun _ _ _ _ _ _ us hl => match us, hl with | [_], _ => rfl
  have g__law_key : mg "_law_key" = some (.ref (He.ga K "_law_key")) := He.glo_ok X G (c.d.fact 30 (f := .glo "_law_key") rfl)
  obtain ⟨d__law_row, F__law_row⟩ := c.d.def_ 31 (d := ⟨("_law_row", none), "_law_row", "_law_row", defArgs s__law_row, defBody s__law_row, defScope s__law_row, [], []⟩) rfl
  replace F__law_row : FnP K "_law_row" "_law_row" s__law_row (He.ga K "_law_row") d__law_row := F__law_row
  have b__law_row : Binds K d__law_row ps__law_row [] := F__law_row.bindsN fun _ _ _ _ _ _ us hl => match us, hl with | [_], _ => rfl
  have g__law_row : mg "_law_row" = some (.ref (He.ga K "_law_row")) := He.glo_ok X G (c.d.fact 31 (f := .glo "_law_row") rfl)
  obtain ⟨d__law_answer_of, F__law_answer_of⟩ := c.d.def_ 32 (d := ⟨("_law_answer_of", none), "_law_answer_of", "_law_answer_of", defArgs s__law_answer_of, defBody s__law_answer_of, defScope s__law_answer_of, [], []⟩) rfl
  replace F__law_answer_of : FnP K "_law_answer_of" "_law_answer_of" s__law_answer_of (He.ga K "_law_answer_of") d__law_answer_of := F__law_answer_of
  have b__law_answer_of : Binds K d__law_answer_of ps__law_answer_of [] := F__law_answer_of.bindsN fun _ _ _ _ _ _ us hl => match us, hl with | [_], _ => rfl
  have g__law_answer_of : mg "_law_answer_of" = some (.ref (He.ga K "_law_answer_of")) := He.glo_ok X G (c.d.fact 32 (f := .glo "_law_answer_of") rfl)
  obtain ⟨d__law_answer, F__law_answer⟩ := c.d.def_ 33 (d := ⟨("_law_answer", none), "_law_answer", "_law_answer", defArgs s__law_answer, defBody s__law_answer, defScope s__law_answer, [], []⟩) rfl
  replace F__law_answer : FnP K "_law_answer" "_law_answer" s__law_answer (He.ga K "_law_answer") d__law_answer := F__law_answer
  have b__law_answer : Binds K d__law_answer ps__law_answer [] := F__law_answer.bindsN fun _ _ _ _ _ _ us hl => match us, hl with | [_, _], _ => rfl
  have g__law_answer : mg "_law_answer" = some (.ref (He.ga K "_law_answer")) := He.glo_ok X G (c.d.fact 33 (f := .glo "_law_answer") rfl)
  obtain ⟨d__law_is_up, F__law_is_up⟩ := c.d.def_ 34 (d := ⟨("_law_is_up", none), "_law_is_up", "_law_is_up", defArgs s__law_is_up, defBody s__law_is_up, defScope s__law_is_up, [], []⟩) rfl
  replace F__law_is_up : FnP K "_law_is_up" "_law_is_up" s__law_is_up (He.ga K "_law_is_up") d__law_is_up := F__law_is_up
  have b__law_is_up : Binds K d__law_is_up ps__law_is_up [] := F__law_is_up.bindsN fun _ _ _ _ _ _ us hl => match us, hl with | [_], _ => rfl
  have g__law_is_up : mg "_law_is_up" = some (.ref (He.ga K "_law_is_up")) := He.glo_ok X G (c.d.fact 34 (f := .glo "_law_is_up") rfl)
  obtain ⟨d__law_table, F__law_table⟩ := c.d.def_ 35 (d := ⟨("_law_table", none), "_law_table", "_law_table", defArgs s__law_table, defBody s__law_table, defScope s__law_table, [], []⟩) rfl
  replace F__law_table : FnP K "_law_table" "_law_table" s__law_table (He.ga K "_law_table") d__law_table := F__law_table
  have b__law_table : Binds K d__law_table ps__law_table [] := F__law_table.bindsN fun _ _ _ _ _ _ us hl => match us, hl with | [_, _], _ => rfl
  have g__law_table : mg "_law_table" = some (.ref (He.ga K "_law_table")) := He.glo_ok X G (c.d.fact 35 (f := .glo "_law_table") rfl)
  obtain ⟨d__law_turned_link, F__law_turned_link⟩ := c.d.def_ 36 (d := ⟨("_law_turned_link", none), "_law_turned_link", "_law_turned_link", defArgs s__law_turned_link, defBody s__law_turned_link, defScope s__law_turned_link, [], []⟩) rfl
  replace F__law_turned_link : FnP K "_law_turned_link" "_law_turned_link" s__law_turned_link (He.ga K "_law_turned_link") d__law_turned_link := F__law_turned_link
  have b__law_turned_link : Binds K d__law_turned_link ps__law_turned_link [] := F__law_turned_link.bindsN fun _ _ _ _ _ _ us hl => match us, hl with | [_, _], _ => rfl
  have g__law_turned_link : mg "_law_turned_link" = some (.ref (He.ga K "_law_turned_link")) := He.glo_ok X G (c.d.fact 36 (f := .glo "_law_turned_link") rfl)
  obtain ⟨d__law_turned_entry, F__law_turned_entry⟩ := c.d.def_ 37 (d := ⟨("_law_turned_entry", none), "_law_turned_entry", "_law_turned_entry", defArgs s__law_turned_entry, defBody s__law_turned_entry, defScope s__law_turned_entry, [], []⟩) rfl
  replace F__law_turned_entry : FnP K "_law_turned_entry" "_law_turned_entry" s__law_turned_entry (He.ga K "_law_turned_entry") d__law_turned_entry := F__law_turned_entry
  have b__law_turned_entry : Binds K d__law_turned_entry ps__law_turned_entry [] := F__law_turned_entry.bindsN fun _ _ _ _ _ _ us hl => match us, hl with | [_, _], _ => rfl
  have g__law_turned_entry : mg "_law_turned_entry" = some (.ref (He.ga K "_law_turned_entry")) := He.glo_ok X G (c.d.fact 37 (f := .glo "_law_turned_entry") rfl)
  obtain ⟨d__law_turned, F__law_turned⟩ := c.d.def_ 38 (d := ⟨("_law_turned", none), "_law_turned", "_law_turned", defArgs s__law_turned, defBody s__law_turned, defScope s__law_turned, [], []⟩) rfl
  replace F__law_turned : FnP K "_law_turned" "_law_turned" s__law_turned (He.ga K "_law_turned") d__law_turned := F__law_turned
  have b__law_turned : Binds K d__law_turned ps__law_turned [] := F__law_turned.bindsN fun _ _ _ _ _ _ us hl => match us, hl with | [_, _, _], _ => rfl
  have g__law_turned : mg "_law_turned" = some (.ref (He.ga K "_law_turned")) := He.glo_ok X G (c.d.fact 38 (f := .glo "_law_turned") rfl)
  obtain ⟨d_law, F_law⟩ := c.d.def_ 39 (d := ⟨("law", none), "law", "law", defArgs s_law, defBody s_law, defScope s_law, [], []⟩) rfl
  replace F_law : FnP K "law" "law" s_law (He.ga K "law") d_law := F_law
  have b_law : Binds K d_law ps_law [] := F_law.bindsN fun _ _ _ _ _ _ us hl => match us, hl with | [_], _ => rfl
  have g_law : mg "law" = some (.ref (He.ga K "law")) := He.glo_ok X G (c.d.fact 39 (f := .glo "law") rfl)
  have O_cell : OkF PP w K mg base CX0 1 "cell" ps_cell (spCell) := ⟨_, _, g_cell, F_cell.kp, b_cell, ok_cell F_cell T⟩
  have O__law_cell : OkF PP w K mg base CX0 1 "_law_cell" ps__law_cell (spCell) := ⟨_, _, g__law_cell, F__law_cell.kp, b__law_cell, ok__law_cell F__law_cell T⟩
  have O_rank : OkF PP w K mg base CX0 1 "rank" ps_rank (spRank) := ⟨_, _, g_rank, F_rank.kp, b_rank, ok_rank F_rank T⟩
  have O__law_codes : OkF PP w K mg base CX0 1 "_law_codes" ps__law_codes (spCodes) := ⟨_, _, g__law_codes, F__law_codes.kp, b__law_codes, ok__law_codes F__law_codes T⟩
  have O_encode : OkF PP w K mg base CX0 4 "encode" ps_encode (spEnc 4) := ⟨_, _, g_encode, F_encode.kp, b_encode, ok_encode F_encode T g_encode b_encode 4⟩
  have O__law_encode : OkF PP w K mg base CX0 5 "_law_encode" ps__law_encode (spEnc 4) := ⟨_, _, g__law_encode, F__law_encode.kp, b__law_encode, ok__law_encode F__law_encode T g__law_encode b__law_encode O__law_codes 4⟩
  have O_digest : OkF PP w K mg base CX0 5 "digest" ps_digest (spDig 4) := ⟨_, _, g_digest, F_digest.kp, b_digest, ok_digest F_digest T O_encode⟩
  have O__law_digest : OkF PP w K mg base CX0 6 "_law_digest" ps__law_digest (spDig 4) := ⟨_, _, g__law_digest, F__law_digest.kp, b__law_digest, ok__law_digest F__law_digest T O__law_encode⟩
  have O__law_rank : OkF PP w K mg base CX0 2 "_law_rank" ps__law_rank (spRank) := ⟨_, _, g__law_rank, F__law_rank.kp, b__law_rank, ok__law_rank F__law_rank T O__law_codes⟩
  have O_outranks : OkF PP w K mg base CX0 2 "outranks" ps_outranks (spOut) := ⟨_, _, g_outranks, F_outranks.kp, b_outranks, ok_outranks F_outranks T O_rank⟩
  have O_empty_link : OkF PP w K mg base CX0 6 "empty_link" ps_empty_link (spLk) := ⟨_, _, g_empty_link, F_empty_link.kp, b_empty_link, ok_empty_link F_empty_link T O_digest⟩
  have O_entry_link : OkF PP w K mg base CX0 6 "entry_link" ps_entry_link (spEnLk) := ⟨_, _, g_entry_link, F_entry_link.kp, b_entry_link, ok_entry_link F_entry_link T O_digest O_cell⟩
  have O__law_link : OkF PP w K mg base CX0 7 "_law_link" ps__law_link (spEnLk) := ⟨_, _, g__law_link, F__law_link.kp, b__law_link, ok__law_link F__law_link T O__law_digest O__law_cell⟩
  obtain ⟨d_Tree, F_Tree⟩ := c.d.def_ 52 (d := ⟨("Tree", some "__init__"), "__init__", "Tree.__init__", defArgs s_Tree___init__, defBody s_Tree___init__, defScope s_Tree___init__, [], []⟩) rfl
  replace F_Tree : FnP K "__init__" "Tree.__init__" s_Tree___init__ (He.ma K (He.ga K "Tree") "__init__") d_Tree := F_Tree
  have b_Tree : Binds K d_Tree ps_Tree___init__ [] := F_Tree.bindsN fun _ _ _ _ _ _ us hl => match us, hl with | [_, _, _, _, _], _ => rfl
  obtain ⟨d_Part, F_Part⟩ := c.d.def_ 53 (d := ⟨("Part", some "__init__"), "__init__", "Part.__init__", defArgs s_Part___init__, defBody s_Part___init__, defScope s_Part___init__, [], []⟩) rfl
  replace F_Part : FnP K "__init__" "Part.__init__" s_Part___init__ (He.ma K (He.ga K "Part") "__init__") d_Part := F_Part
  have b_Part : Binds K d_Part ps_Part___init__ [] := F_Part.bindsN fun _ _ _ _ _ _ us hl => match us, hl with | [_, _, _, _], _ => rfl
  obtain ⟨d_Node, F_Node⟩ := c.d.def_ 54 (d := ⟨("Node", some "__init__"), "__init__", "Node.__init__", defArgs s_Node___init__, defBody s_Node___init__, defScope s_Node___init__, [], []⟩) rfl
  replace F_Node : FnP K "__init__" "Node.__init__" s_Node___init__ (He.ma K (He.ga K "Node") "__init__") d_Node := F_Node
  have b_Node : Binds K d_Node ps_Node___init__ [] := F_Node.bindsN fun _ _ _ _ _ _ us hl => match us, hl with | [_, _, _, _, _], _ => rfl
  obtain ⟨d_Source, F_Source⟩ := c.d.def_ 55 (d := ⟨("Source", some "__init__"), "__init__", "Source.__init__", defArgs s_Source___init__, defBody s_Source___init__, defScope s_Source___init__, [], []⟩) rfl
  replace F_Source : FnP K "__init__" "Source.__init__" s_Source___init__ (He.ma K (He.ga K "Source") "__init__") d_Source := F_Source
  have b_Source : Binds K d_Source ps_Source___init__ [] := F_Source.bindsN fun _ _ _ _ _ _ us hl => match us, hl with | [_, _], _ => rfl
  obtain ⟨d_Copy, F_Copy⟩ := c.d.def_ 56 (d := ⟨("Copy", some "__init__"), "__init__", "Copy.__init__", defArgs s_Copy___init__, defBody s_Copy___init__, defScope s_Copy___init__, [], []⟩) rfl
  replace F_Copy : FnP K "__init__" "Copy.__init__" s_Copy___init__ (He.ma K (He.ga K "Copy") "__init__") d_Copy := F_Copy
  have b_Copy : Binds K d_Copy ps_Copy___init__ [] := F_Copy.bindsN fun _ _ _ _ _ _ us hl => match us, hl with | [_, _, _, _], _ => rfl
  obtain ⟨d_Known, F_Known⟩ := clo_ok (x := "Known") (q := "Known.__init__") (st := s_Known___init__) (c.clo 0 (p := (("Known", some "__init__"), cloV "Known.__init__" s_Known___init__)) rfl) (c.ex 18)
  have b_Known : Binds K d_Known ps_Known___init__ [] := F_Known.binds fun _ _ _ _ _ _ _ us hl => match us, hl with | [_, _], _ => rfl
  obtain ⟨d_Given, F_Given⟩ := clo_ok (x := "Given") (q := "Given.__init__") (st := s_Given___init__) (c.clo 1 (p := (("Given", some "__init__"), cloV "Given.__init__" s_Given___init__)) rfl) (c.ex 21)
  have b_Given : Binds K d_Given ps_Given___init__ [] := F_Given.binds fun _ _ _ _ _ _ _ us hl => match us, hl with | [_, _, _], _ => rfl
  obtain ⟨d_Refused, F_Refused⟩ := clo_ok (x := "Refused") (q := "Refused.__init__") (st := s_Refused___init__) (c.clo 2 (p := (("Refused", some "__init__"), cloV "Refused.__init__" s_Refused___init__)) rfl) (c.ex 24)
  have b_Refused : Binds K d_Refused ps_Refused___init__ [] := F_Refused.binds fun _ _ _ _ _ _ _ us hl => match us, hl with | [_, _, _], _ => rfl
  have g_Tree : mg "Tree" = some (.ref (He.ga K "Tree")) := He.glo_ok X G (c.d.fact 40 (f := .glo "Tree") rfl)
  have g_Part : mg "Part" = some (.ref (He.ga K "Part")) := He.glo_ok X G (c.d.fact 41 (f := .glo "Part") rfl)
  have g_Node : mg "Node" = some (.ref (He.ga K "Node")) := He.glo_ok X G (c.d.fact 42 (f := .glo "Node") rfl)
  have g_Known : mg "Known" = some (.ref (He.ga K "Known")) := He.glo_ok X G (c.d.fact 43 (f := .glo "Known") rfl)
  have g_Given : mg "Given" = some (.ref (He.ga K "Given")) := He.glo_ok X G (c.d.fact 44 (f := .glo "Given") rfl)
  have g_Copy : mg "Copy" = some (.ref (He.ga K "Copy")) := He.glo_ok X G (c.d.fact 45 (f := .glo "Copy") rfl)
  have g_Refused : mg "Refused" = some (.ref (He.ga K "Refused")) := He.glo_ok X G (c.d.fact 46 (f := .glo "Refused") rfl)
  have I_Tree : OkI PP w K mg base CX0 1 "Tree" (adY K).tree ps_Tree___init__ (spTreeI (adY K).tree) := ⟨g_Tree, _, _, He.mkr_ok (c.d.fact 103 (f := .mkr "Tree") rfl), b_Tree, ok_Tree F_Tree T⟩
  have I_Part : OkI PP w K mg base CX0 1 "Part" (adY K).part ps_Part___init__ (spPartI (adY K).part) := ⟨g_Part, _, _, He.mkr_ok (c.d.fact 104 (f := .mkr "Part") rfl), b_Part, ok_Part F_Part T⟩
  have I_Node : OkI PP w K mg base CX0 1 "Node" (adY K).node ps_Node___init__ (spNodeI (adY K).node) := ⟨g_Node, _, _, He.mkr_ok (c.d.fact 105 (f := .mkr "Node") rfl), b_Node, ok_Node F_Node T⟩
  have I_Copy : OkI PP w K mg base CX0 1 "Copy" (adY K).copy ps_Copy___init__ (spCopyI (adY K).copy) := ⟨g_Copy, _, _, He.mkr_ok (c.d.fact 108 (f := .mkr "Copy") rfl), b_Copy, ok_Copy F_Copy T⟩
  have S_Source : FnOk PP w K mg base CX0 1 _ d_Source ps_Source___init__ (spSrcI K) := ok_Source F_Source T
  have I_Known : OkI PP w K mg base CX0 2 "Known" (adY K).known ps_Known___init__ (spKnownI (adY K).known) := ⟨g_Known, _, _, He.mkr_ok (c.d.fact 106 (f := .mkr "Known") rfl), b_Known, ok_Known F_Known T (supKnown X G c) S_Source b_Source (c.ex 13) (He.eqO_ok (c.ex 11)) (of_decide_eq_true (c.ex 14))⟩
  have I_Given : OkI PP w K mg base CX0 2 "Given" (adY K).given ps_Given___init__ (spGivenI (adY K).given) := ⟨g_Given, _, _, He.mkr_ok (c.d.fact 107 (f := .mkr "Given") rfl), b_Given, ok_Given F_Given T (supGiven X G c) S_Source b_Source (c.ex 13) (He.eqO_ok (c.ex 12)) (of_decide_eq_true (c.ex 14))⟩
  have O_R : OkR PP w K mg base (adY K) := ⟨oexY c, g_Refused, _, _, He.eqO_ok (c.ex 8), of_decide_eq_true (c.ex 9), b_Refused, ok_Refused F_Refused T (supRefused X G c) (oexY c) (He.eqO_ok (c.ex 10)) (of_decide_eq_true (c.ex 7)) (xrdY c).nW (xrdY c).nN⟩
  have O_empty_tree : OkF PP w K mg base CX0 7 "empty_tree" ps_empty_tree (spTr0 (adY K).tree) := ⟨_, _, g_empty_tree, F_empty_tree.kp, b_empty_tree, ok_empty_tree F_empty_tree T O_empty_link I_Tree⟩
  have O_node_of : OkF PP w K mg base CX0 7 "node_of" ps_node_of (spNodeOf (adY K).tree) := ⟨_, _, g_node_of, F_node_of.kp, b_node_of, ok_node_of F_node_of T O_entry_link I_Tree⟩
  have O_tree_of : OkF PP w K mg base CX0 47 "tree_of" ps_tree_of (spTree (adY K).tree 40) := ⟨_, _, g_tree_of, F_tree_of.kp, b_tree_of, ok_tree_of F_tree_of T g_tree_of b_tree_of O_empty_tree O_node_of O_outranks 40⟩
  have O_head_of : OkF PP w K mg base CX0 48 "head_of" ps_head_of (spHead) := ⟨_, _, g_head_of, F_head_of.kp, b_head_of, ok_head_of F_head_of T O_tree_of⟩
  have O__law_top : OkF PP w K mg base CX0 3 "_law_top" ps__law_top (spTop) := ⟨_, _, g__law_top, F__law_top.kp, b__law_top, ok__law_top F__law_top T O__law_rank⟩
  have O__law_tree : OkF PP w K mg base CX0 47 "_law_tree" ps__law_tree (spLTree 40) := ⟨_, _, g__law_tree, F__law_tree.kp, b__law_tree, ok__law_tree F__law_tree T g__law_tree b__law_tree O__law_digest O__law_top O__law_link 40⟩
  have O_is_number : OkF PP w K mg base CX0 1 "is_number" ps_is_number (spNum) := ⟨_, _, g_is_number, F_is_number.kp, b_is_number, ok_is_number F_is_number T⟩
  have O_is_key : OkF PP w K mg base CX0 1 "is_key" ps_is_key (spKey (tbY K).k) := ⟨_, _, g_is_key, F_is_key.kp, b_is_key, ok_is_key F_is_key T (code_of (p := ("is_key", none)) F_is_key) TBk⟩
  have O_is_row : OkF PP w K mg base CX0 1 "is_row" ps_is_row (spRow (tbY K).r) := ⟨_, _, g_is_row, F_is_row.kp, b_is_row, ok_is_row F_is_row T (code_of (p := ("is_row", none)) F_is_row) TBr⟩
  have O_is_link : OkF PP w K mg base CX0 2 "is_link" ps_is_link (spIsLk (tbY K).l) := ⟨_, _, g_is_link, F_is_link.kp, b_is_link, ok_is_link F_is_link T (code_of (p := ("is_link", none)) F_is_link) TBl F_is_number g_is_number O_is_number⟩
  have O_is_entry : OkF PP w K mg base CX0 3 "is_entry" ps_is_entry (spIsEn (tbY K)) := ⟨_, _, g_is_entry, F_is_entry.kp, b_is_entry, ok_is_entry (B := tbY K) F_is_entry T (code_of (p := ("is_entry", none)) F_is_entry) TBe F_is_number g_is_number O_is_key O_is_row O_is_link⟩
  obtain ⟨d_Part_is_empty, F_Part_is_empty⟩ := c.d.def_ 40 (d := ⟨("Part", some "is_empty"), "is_empty", "Part.is_empty", defArgs s_Part_is_empty, defBody s_Part_is_empty, defScope s_Part_is_empty, [], []⟩) rfl
  replace F_Part_is_empty : FnP K "is_empty" "Part.is_empty" s_Part_is_empty (He.ma K (He.ga K "Part") "is_empty") d_Part_is_empty := F_Part_is_empty
  have b_Part_is_empty : Binds K d_Part_is_empty ps_Part_is_empty [] := F_Part_is_empty.bindsN fun _ _ _ _ _ _ us hl => match us, hl with | [_], _ => rfl
  have m_Part_is_empty : Meth K (He.ga K "Part") "is_empty" (He.ma K (He.ga K "Part") "is_empty") := He.meth_ok (c.d.fact 91 (f := .meth "Part" "is_empty") rfl)
  obtain ⟨d_Known_opened, F_Known_opened⟩ := c.d.def_ 41 (d := ⟨("Known", some "opened"), "opened", "Source.opened", defArgs s_Source_opened, defBody s_Source_opened, defScope s_Source_opened, [], []⟩) rfl
  replace F_Known_opened : FnP K "opened" "Source.opened" s_Source_opened (He.ma K (He.ga K "Known") "opened") d_Known_opened := F_Known_opened
  have b_Known_opened : Binds K d_Known_opened ps_Source_opened [] := F_Known_opened.bindsN fun _ _ _ _ _ _ us hl => match us, hl with | [_, _], _ => rfl
  have m_Known_opened : Meth K (He.ga K "Known") "opened" (He.ma K (He.ga K "Known") "opened") := He.meth_ok (c.d.fact 92 (f := .meth "Known" "opened") rfl)
  obtain ⟨d_Given_opened, F_Given_opened⟩ := c.d.def_ 42 (d := ⟨("Given", some "opened"), "opened", "Source.opened", defArgs s_Source_opened, defBody s_Source_opened, defScope s_Source_opened, [], []⟩) rfl
  replace F_Given_opened : FnP K "opened" "Source.opened" s_Source_opened (He.ma K (He.ga K "Given") "opened") d_Given_opened := F_Given_opened
  have b_Given_opened : Binds K d_Given_opened ps_Source_opened [] := F_Given_opened.bindsN fun _ _ _ _ _ _ us hl => match us, hl with | [_, _], _ => rfl
  have m_Given_opened : Meth K (He.ga K "Given") "opened" (He.ma K (He.ga K "Given") "opened") := He.meth_ok (c.d.fact 93 (f := .meth "Given" "opened") rfl)
  obtain ⟨d_Known_entry_of, F_Known_entry_of⟩ := c.d.def_ 43 (d := ⟨("Known", some "entry_of"), "entry_of", "Known.entry_of", defArgs s_Known_entry_of, defBody s_Known_entry_of, defScope s_Known_entry_of, [], []⟩) rfl
  replace F_Known_entry_of : FnP K "entry_of" "Known.entry_of" s_Known_entry_of (He.ma K (He.ga K "Known") "entry_of") d_Known_entry_of := F_Known_entry_of
  have b_Known_entry_of : Binds K d_Known_entry_of ps_Known_entry_of [] := F_Known_entry_of.bindsN fun _ _ _ _ _ _ us hl => match us, hl with | [_, _], _ => rfl
  have m_Known_entry_of : Meth K (He.ga K "Known") "entry_of" (He.ma K (He.ga K "Known") "entry_of") := He.meth_ok (c.d.fact 94 (f := .meth "Known" "entry_of") rfl)
  obtain ⟨d_Known_root, F_Known_root⟩ := c.d.def_ 44 (d := ⟨("Known", some "root"), "root", "Known.root", defArgs s_Known_root, defBody s_Known_root, defScope s_Known_root, [], []⟩) rfl
  replace F_Known_root : FnP K "root" "Known.root" s_Known_root (He.ma K (He.ga K "Known") "root") d_Known_root := F_Known_root
  have b_Known_root : Binds K d_Known_root ps_Known_root [] := F_Known_root.bindsN fun _ _ _ _ _ _ us hl => match us, hl with | [_, _], _ => rfl
  have m_Known_root : Meth K (He.ga K "Known") "root" (He.ma K (He.ga K "Known") "root") := He.meth_ok (c.d.fact 95 (f := .meth "Known" "root") rfl)
  obtain ⟨d_Given_entry_of, F_Given_entry_of⟩ := c.d.def_ 45 (d := ⟨("Given", some "entry_of"), "entry_of", "Given.entry_of", defArgs s_Given_entry_of, defBody s_Given_entry_of, defScope s_Given_entry_of, [], []⟩) rfl
  replace F_Given_entry_of : FnP K "entry_of" "Given.entry_of" s_Given_entry_of (He.ma K (He.ga K "Given") "entry_of") d_Given_entry_of := F_Given_entry_of
  have b_Given_entry_of : Binds K d_Given_entry_of ps_Given_entry_of [] := F_Given_entry_of.bindsN fun _ _ _ _ _ _ us hl => match us, hl with | [_, _], _ => rfl
  have m_Given_entry_of : Meth K (He.ga K "Given") "entry_of" (He.ma K (He.ga K "Given") "entry_of") := He.meth_ok (c.d.fact 96 (f := .meth "Given" "entry_of") rfl)
  obtain ⟨d_Given_root, F_Given_root⟩ := c.d.def_ 46 (d := ⟨("Given", some "root"), "root", "Given.root", defArgs s_Given_root, defBody s_Given_root, defScope s_Given_root, [], []⟩) rfl
  replace F_Given_root : FnP K "root" "Given.root" s_Given_root (He.ma K (He.ga K "Given") "root") d_Given_root := F_Given_root
  have b_Given_root : Binds K d_Given_root ps_Given_root [] := F_Given_root.bindsN fun _ _ _ _ _ _ us hl => match us, hl with | [_, _], _ => rfl
  have m_Given_root : Meth K (He.ga K "Given") "root" (He.ma K (He.ga K "Given") "root") := He.meth_ok (c.d.fact 97 (f := .meth "Given" "root") rfl)
  obtain ⟨d_Given_finish, F_Given_finish⟩ := c.d.def_ 47 (d := ⟨("Given", some "finish"), "finish", "Given.finish", defArgs s_Given_finish, defBody s_Given_finish, defScope s_Given_finish, [], []⟩) rfl
  replace F_Given_finish : FnP K "finish" "Given.finish" s_Given_finish (He.ma K (He.ga K "Given") "finish") d_Given_finish := F_Given_finish
  have b_Given_finish : Binds K d_Given_finish ps_Given_finish [] := F_Given_finish.bindsN fun _ _ _ _ _ _ us hl => match us, hl with | [_], _ => rfl
  have m_Given_finish : Meth K (He.ga K "Given") "finish" (He.ma K (He.ga K "Given") "finish") := He.meth_ok (c.d.fact 98 (f := .meth "Given" "finish") rfl)
  obtain ⟨d_Copy_wanted, F_Copy_wanted⟩ := c.d.def_ 48 (d := ⟨("Copy", some "wanted"), "wanted", "Copy.wanted", defArgs s_Copy_wanted, defBody s_Copy_wanted, defScope s_Copy_wanted, [], []⟩) rfl
  replace F_Copy_wanted : FnP K "wanted" "Copy.wanted" s_Copy_wanted (He.ma K (He.ga K "Copy") "wanted") d_Copy_wanted := F_Copy_wanted
  have b_Copy_wanted : Binds K d_Copy_wanted ps_Copy_wanted [] := F_Copy_wanted.bindsN fun _ _ _ _ _ _ us hl => match us, hl with | [_], _ => rfl
  have m_Copy_wanted : Meth K (He.ga K "Copy") "wanted" (He.ma K (He.ga K "Copy") "wanted") := He.meth_ok (c.d.fact 99 (f := .meth "Copy" "wanted") rfl)
  obtain ⟨d_Copy_add, F_Copy_add⟩ := c.d.def_ 49 (d := ⟨("Copy", some "add"), "add", "Copy.add", defArgs s_Copy_add, defBody s_Copy_add, defScope s_Copy_add, [], []⟩) rfl
  replace F_Copy_add : FnP K "add" "Copy.add" s_Copy_add (He.ma K (He.ga K "Copy") "add") d_Copy_add := F_Copy_add
  have b_Copy_add : Binds K d_Copy_add ps_Copy_add [] := F_Copy_add.bindsN fun _ _ _ _ _ _ us hl => match us, hl with | [_, _], _ => rfl
  have m_Copy_add : Meth K (He.ga K "Copy") "add" (He.ma K (He.ga K "Copy") "add") := He.meth_ok (c.d.fact 100 (f := .meth "Copy" "add") rfl)
  obtain ⟨d_Copy_rows, F_Copy_rows⟩ := c.d.def_ 50 (d := ⟨("Copy", some "rows"), "rows", "Copy.rows", defArgs s_Copy_rows, defBody s_Copy_rows, defScope s_Copy_rows, [], []⟩) rfl
  replace F_Copy_rows : FnP K "rows" "Copy.rows" s_Copy_rows (He.ma K (He.ga K "Copy") "rows") d_Copy_rows := F_Copy_rows
  have b_Copy_rows : Binds K d_Copy_rows ps_Copy_rows [] := F_Copy_rows.bindsN fun _ _ _ _ _ _ us hl => match us, hl with | [_], _ => rfl
  have m_Copy_rows : Meth K (He.ga K "Copy") "rows" (He.ma K (He.ga K "Copy") "rows") := He.meth_ok (c.d.fact 101 (f := .meth "Copy" "rows") rfl)
  obtain ⟨d_Copy_is_whole, F_Copy_is_whole⟩ := c.d.def_ 51 (d := ⟨("Copy", some "is_whole"), "is_whole", "Copy.is_whole", defArgs s_Copy_is_whole, defBody s_Copy_is_whole, defScope s_Copy_is_whole, [], []⟩) rfl
  replace F_Copy_is_whole : FnP K "is_whole" "Copy.is_whole" s_Copy_is_whole (He.ma K (He.ga K "Copy") "is_whole") d_Copy_is_whole := F_Copy_is_whole
  have b_Copy_is_whole : Binds K d_Copy_is_whole ps_Copy_is_whole [] := F_Copy_is_whole.bindsN fun _ _ _ _ _ _ us hl => match us, hl with | [_], _ => rfl
  have m_Copy_is_whole : Meth K (He.ga K "Copy") "is_whole" (He.ma K (He.ga K "Copy") "is_whole") := He.meth_ok (c.d.fact 102 (f := .meth "Copy" "is_whole") rfl)
  have M_isE : OkM PP w K mg base CX0 1 (adY K).part "is_empty" ["self"] (spIsE (adY K)) := ⟨_, _, m_Part_is_empty, b_Part_is_empty, ok_Part_is_empty F_Part_is_empty T⟩
  have W_K : ∀ i : IK, FnOk PP w K mg base (L2.CX PP w) 32 _ d_walked ps_walked (spWalked (adY K) (srcK (adY K) i.1 i.2.1 i.2.2) 20) := fun i => by
    have M1 : OkM PP w K mg base (L2.CX PP w) 10 (adY K).known "entry_of" ["self", "part"] (spEO (adY K) (srcK (adY K) i.1 i.2.1 i.2.2)) := OkM.mono ⟨_, _, m_Known_entry_of, b_Known_entry_of, ok_Known_entry_of i.1 i.2.1 i.2.2 F_Known_entry_of T⟩ (by decide)
    have M2 : OkM PP w K mg base (L2.CX PP w) 11 (adY K).known "opened" ["self", "part"] (spOp (adY K) (srcK (adY K) i.1 i.2.1 i.2.2)) := ⟨_, _, m_Known_opened, b_Known_opened, ok_opened (srcK (adY K) i.1 i.2.1 i.2.2) F_Known_opened T T.known M1 I_Part I_Node⟩
    have O1 : OkF PP w K mg base (L2.CX PP w) 31 "add_next" ps_add_next (spAN (adY K) (srcK (adY K) i.1 i.2.1 i.2.2) 20) := ⟨_, _, g_add_next, F_add_next.kp, b_add_next, ok_add_next (srcK (adY K) i.1 i.2.1 i.2.2) F_add_next T g_add_next b_add_next T.known M2 M_isE 20⟩
    exact ok_walked (srcK (adY K) i.1 i.2.1 i.2.2) F_walked T O1
  have W_G : ∀ i : IG, FnOk PP w K mg base (L2.CX PP w) 32 _ d_walked ps_walked (spWalked (adY K) (srcG (adY K) (tbY K) i.1 i.2.2.2.1 i.2.1 i.2.2.1) 20) := fun i => by
    have M1 : OkM PP w K mg base (L2.CX PP w) 10 (adY K).given "entry_of" ["self", "part"] (spEO (adY K) (srcG (adY K) (tbY K) i.1 i.2.2.2.1 i.2.1 i.2.2.1)) := OkM.mono ⟨_, _, m_Given_entry_of, b_Given_entry_of, ok_Given_entry_of (tbY K) i.1 i.2.2.2.1 i.2.2.2.2.1 i.2.2.2.2.2 i.2.1 i.2.2.1 F_Given_entry_of T O_R O_is_entry O_entry_link⟩ (by decide)
    have M2 : OkM PP w K mg base (L2.CX PP w) 11 (adY K).given "opened" ["self", "part"] (spOp (adY K) (srcG (adY K) (tbY K) i.1 i.2.2.2.1 i.2.1 i.2.2.1)) := ⟨_, _, m_Given_opened, b_Given_opened, ok_opened (srcG (adY K) (tbY K) i.1 i.2.2.2.1 i.2.1 i.2.2.1) F_Given_opened T T.given M1 I_Part I_Node⟩
    have O1 : OkF PP w K mg base (L2.CX PP w) 31 "add_next" ps_add_next (spAN (adY K) (srcG (adY K) (tbY K) i.1 i.2.2.2.1 i.2.1 i.2.2.1) 20) := ⟨_, _, g_add_next, F_add_next.kp, b_add_next, ok_add_next (srcG (adY K) (tbY K) i.1 i.2.2.2.1 i.2.1 i.2.2.1) F_add_next T g_add_next b_add_next T.given M2 M_isE 20⟩
    exact ok_walked (srcG (adY K) (tbY K) i.1 i.2.2.2.1 i.2.1 i.2.2.1) F_walked T O1
  have OW_K : OkF PP w K mg base (L2.CX PP w) 32 "walked" ps_walked (spWK (adY K)) := ⟨_, _, g_walked, F_walked.kp, b_walked, FnOk.ex W_K⟩
  have OW_G : OkF PP w K mg base (L2.CX PP w) 32 "walked" ps_walked (spWG (adY K) (tbY K)) := ⟨_, _, g_walked, F_walked.kp, b_walked, FnOk.ex W_G⟩
  have M_rK : OkM PP w K mg base CX0 3 (adY K).known "root" ps_Known_root (spRootK (adY K)) := ⟨_, _, m_Known_root, b_Known_root, ok_Known_root F_Known_root T I_Part⟩
  have M_rG : OkM PP w K mg base CX0 3 (adY K).given "root" ps_Given_root (spRootG (adY K)) := ⟨_, _, m_Given_root, b_Given_root, ok_Given_root F_Given_root T I_Part⟩
  have M_fG : OkM PP w K mg base (L2.CX PP w) 3 (adY K).given "finish" ps_Given_finish (spFG (adY K) (tbY K)) := ⟨_, _, m_Given_finish, b_Given_finish, FnOk.ex fun i : IG => ok_Given_finish (tbY K) i.1 i.2.2.2.1 i.2.2.2.2.2 i.2.1 i.2.2.1 F_Given_finish T O_R⟩
  have O_answered : OkF PP w K mg base CX0 48 "answered" ps_answered (spAns (adY K)) := ⟨_, _, g_answered, F_answered.kp, b_answered, ok_answered F_answered T OW_K O_tree_of I_Known M_rK⟩
  have O_read : OkF PP w K mg base CX0 33 "read" ps_read (spRead (tbY K)) := ⟨_, _, g_read, F_read.kp, b_read, ok_read F_read T OW_G I_Given M_rG M_fG (xrdY c) g_Refused⟩
  have M_wanted : OkM PP w K mg base CX0 1 (adY K).copy "wanted" ps_Copy_wanted (spWanted (adY K)) := ⟨_, _, m_Copy_wanted, b_Copy_wanted, ok_Copy_wanted F_Copy_wanted T⟩
  have M_add : OkM PP w K mg base CX0 34 (adY K).copy "add" ps_Copy_add (spAdd (adY K) (tbY K)) := ⟨_, _, m_Copy_add, b_Copy_add, ok_Copy_add F_Copy_add T M_wanted O_read⟩
  have M_rows : OkM PP w K mg base CX0 1 (adY K).copy "rows" ps_Copy_rows (spRows (adY K)) := ⟨_, _, m_Copy_rows, b_Copy_rows, ok_Copy_rows F_Copy_rows T⟩
  have M_whole : OkM PP w K mg base CX0 49 (adY K).copy "is_whole" ps_Copy_is_whole (spWhole (adY K)) := ⟨_, _, m_Copy_is_whole, b_Copy_is_whole, ok_Copy_is_whole F_Copy_is_whole T O_head_of⟩
  have O__law_draw : OkF PP w K mg base CX0 1 "_law_draw" ps__law_draw (spDraw) := ⟨_, _, g__law_draw, F__law_draw.kp, b__law_draw, ok__law_draw F__law_draw T⟩
  have O__law_rule : OkF PP w K mg base CX0 2 "_law_rule" ps__law_rule (spRule) := ⟨_, _, g__law_rule, F__law_rule.kp, b__law_rule, ok__law_rule F__law_rule T O__law_draw⟩
  have O__law_key : OkF PP w K mg base CX0 2 "_law_key" ps__law_key (spLKey) := ⟨_, _, g__law_key, F__law_key.kp, b__law_key, ok__law_key F__law_key T O__law_draw⟩
  have O__law_row : OkF PP w K mg base CX0 2 "_law_row" ps__law_row (spLRow) := ⟨_, _, g__law_row, F__law_row.kp, b__law_row, ok__law_row F__law_row T O__law_draw⟩
  have O__law_answer_of : OkF PP w K mg base CX0 1 "_law_answer_of" ps__law_answer_of (spAOf) := ⟨_, _, g__law_answer_of, F__law_answer_of.kp, b__law_answer_of, ok__law_answer_of F__law_answer_of T⟩
  have O__law_answer : OkF PP w K mg base CX0 1 "_law_answer" ps__law_answer (spLAns) := ⟨_, _, g__law_answer, F__law_answer.kp, b__law_answer, ok__law_answer F__law_answer T⟩
  have O__law_is_up : OkF PP w K mg base CX0 1 "_law_is_up" ps__law_is_up (spUp) := ⟨_, _, g__law_is_up, F__law_is_up.kp, b__law_is_up, ok__law_is_up F__law_is_up T⟩
  have O__law_table : OkF PP w K mg base CX0 3 "_law_table" ps__law_table (spTable) := ⟨_, _, g__law_table, F__law_table.kp, b__law_table, ok__law_table F__law_table T O__law_draw O__law_key O__law_row⟩
  have O__law_turned_link : OkF PP w K mg base CX0 2 "_law_turned_link" ps__law_turned_link (spTLk) := ⟨_, _, g__law_turned_link, F__law_turned_link.kp, b__law_turned_link, ok__law_turned_link F__law_turned_link T O__law_draw⟩
  have O__law_turned_entry : OkF PP w K mg base CX0 3 "_law_turned_entry" ps__law_turned_entry (spTEn) := ⟨_, _, g__law_turned_entry, F__law_turned_entry.kp, b__law_turned_entry, ok__law_turned_entry F__law_turned_entry T O__law_draw O__law_key O__law_row O__law_turned_link⟩
  have O__law_turned : OkF PP w K mg base CX0 4 "_law_turned" ps__law_turned (spTur) := ⟨_, _, g__law_turned, F__law_turned.kp, b__law_turned, ok__law_turned F__law_turned T O__law_draw O__law_turned_entry⟩
  exact ⟨d_law, F_law, ok_law F_law T O__law_rule O__law_table O__law_tree O__law_draw I_Copy M_rows M_wanted M_add M_whole O_answered O__law_turned O_read O__law_answer_of O__law_answer O__law_is_up⟩
end
end RR
end
set_option Elab.async false
set_option linter.all false
set_option maxRecDepth 100000
set_option maxHeartbeats 0
/-! The head's run; the end. -/
namespace HeadRR
open PySem PySem.Spec PyProof.Rows L2
abbrev R : PySem.W.OpenRow := PySem.W.OpenLaw.row PySem.Challenge.rw_rightrows_k30_whole_copies
def names1 : List PySem.Str := ["LETTERS", "COLUMNS", "MOST_NUMBER", "is_key", "is_row", "cell", "encode", "digest", "rank", "outranks", "empty_link", "entry_link", "Tree", "empty_tree", "node_of", "tree_of", "head_of", "RightrowsError", "Refused", "Part", "Node", "is_link", "is_number", "is_entry", "Source", "Known", "Given"]
def names2 : List PySem.Str := ["found_row", "add_between", "add_next", "is_inside", "measured", "place_of", "row_at", "walked", "answered", "read", "Copy"]
def names3 : List PySem.Str := ["_law_draw", "_law_rule", "_law_codes", "_law_encode", "_law_digest", "_law_key", "_law_row", "_law_table", "_law_within", "_law_cell", "_law_answer", "_law_rank", "_law_top", "_law_tree", "_law_link", "_law_turned_link", "_law_turned_entry", "_law_turned", "_law_answer_of", "_law_is_up"]
def names : List PySem.Str := names1 ++ names2 ++ names3
theorem run (w : World) : HandSHeadRun.RunEq R (PySem.W.view R.prog [67]) RR.hookY RR.obY 6000 names w := by
  intro os
  kernel_rfl
theorem law_at {w : World} {mg : Str → Option Value} {f : Addr} {h : Heap} (Y : RR.hookY.says w h) (G : h.Ns mainGlobals mg) (hm : mg ("law" : Str) = some (.ref f)) : ∃ K : PySem.W.Frag, K.In h ∧ LamX.LawAtS PySem.Challenge.rw_rightrows_k30_whole_copies w K CX0 50 63 "_law_script" mg f h := by
  obtain ⟨K, X, c⟩ := Y
  obtain ⟨fd, F⟩ := c.d.def_ 39 (d := ⟨("law", none), "law", "law", defArgs RR.s_law, defBody RR.s_law, defScope RR.s_law, [], []⟩) rfl
  replace F : RR.FnP K "law" "law" RR.s_law (He.ga K "law") fd := F
  have e := hm.symm.trans (He.glo_ok X G (c.d.fact 39 (f := .glo "law") rfl))
  cases e
  have b := FunD.bindsA (ps := RR.ps_law) F fun _ _ _ _ _ _ us hl => match us, hl with | [_], _ => rfl
  refine ⟨K, X, fd, RR.tf.map (He.cT K), RR.spLaw K (RR.tbY K), fun p hp => ?_, fun p hp => ?_, fun p hp => ?_, fun s v => b s [v] rfl, fun H a ns hl _ hT hS => ?_, fun base _ _ TB => ?_⟩
  · obtain ⟨q, hq, rfl⟩ := List.mem_map.mp hp
    exact c.empty q hq
  · obtain ⟨q, hq, rfl⟩ := List.mem_map.mp hp
    exact c.out q hq
  · obtain ⟨q, hq, rfl⟩ := List.mem_map.mp hp
    exact PySem.W.codeHd_of_K X (c.hd q hq)
  · have key : ∀ q ∈ RR.tf, GxR.TabG H (He.cT K q).2 := fun q hq => ⟨#[], hT _ (List.mem_map_of_mem hq), trivial⟩
    exact ⟨a, ns, rfl, hS, hl, ⟨key _ (by simp [RR.tf]), key _ (by simp [RR.tf]), key _ (by simp [RR.tf]), key _ (by simp [RR.tf])⟩, fun _ => rfl⟩
  · obtain ⟨fd2, F2, ok⟩ := RR.joined X G c (w := w) TB
    have ef : fd2 = fd := by
      obtain ⟨oc, od, dV, kV, doc, pm, an, cdv, ct, osl, e1, lk, _, _, _⟩ := F.ex
      obtain ⟨oc2, od2, dV2, kV2, doc2, pm2, an2, cdv2, ct2, osl2, e2, lk2, _, _, _⟩ := F2.ex
      rw [lk] at lk2
      injection lk2 with e3
      injection e3 with _ _ e4 _
      injection e4 with e5
      exact e5.symm
    rw [ef] at ok
    exact ok
end HeadRR
open PySem PySem.W PySem.Calls PyProof.Rows
theorem PySem.Challenge.cw_rightrows_k30_whole_copies_holds : PySem.Challenge.rw_rightrows_k30_whole_copies.Holds := by
  w_on; o_law
  refine HandSHeadRun.head_any (r := OpenLaw.row PySem.Challenge.rw_rightrows_k30_whole_copies) (q := view (OpenLaw.row PySem.Challenge.rw_rightrows_k30_whole_copies).prog [67]) (H := RR.hookY) (ob := RR.obY) (M := 6000) (loose := HeadRR.names) (d := HandSHeadRun.topDef (OpenLaw.row PySem.Challenge.rw_rightrows_k30_whole_copies).prog 67) (kwd := []) RR.obY_eq
    (by kernel_rfl) (fun s => by kernel_rfl) HeadRR.run (by kernel_rfl) (by kernel_rfl) (by kernel_rfl) (by rfl) (by first | assumption | decide +kernel) (by decide +kernel) ⟨rfl, rfl, rfl, rfl, rfl, by decide +kernel⟩ ?hw ?hc
  case hw => w_witness2
  case hc =>
    refine LamX.walk_ofTsE (l := PySem.Challenge.rw_rightrows_k30_whole_copies) (n := 63) (k := 50) (x := "_law_script") (CX := fun _ => L2.CX0) rfl (by decide) (by kernel_rfl) ⟨rfl, by decide, by decide⟩ ?F (fun _ _ _ _ _ z => z)
    intro w mg fa h Y G hmg0
    have hmg : mg ("law" : PySem.Str) = some (.ref fa) := by
      have e : (HandSHeadRun.topDef (OpenLaw.row PySem.Challenge.rw_rightrows_k30_whole_copies).prog 67).name = ("law" : PySem.Str) := by kernel_rfl
      rw [← e]
      exact hmg0
    exact HeadRR.law_at Y G hmg
