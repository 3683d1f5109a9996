import PyProof.Rows.All
import HandS.ForMost
import HandS.Deep
import HandS.TupAny
import HandS.Flow
import HandS.EndTab
import HandS.EndOwn
import HandS.HeadHook1
import HandS.WideBits
import HandS.Wide
import HandS.Style
import HandS.TupLen
import KE.KTupSum
import HandS.Rev
import HandS.RevRange
import HandS.AnyAll
import HandS.GenList
import HandS.IsInst
import HandS.Defaults
import HandS.HeadHook4
import HandS.DictComp
import HandS.Dict
import KE.DataMinMax
import KE.KIndexOf
import KE.KDictPairs
import HandS.HeadHook3
import HandS.Head0
import HandS.Head1
import HandS.Head2
import HandS.HeadEnd
import HandS.HeadWalk
import HandS.SetBool
import HandS.TupSets
import HandS.SortInts
import HandS.Strs
import KE.SortKeyHeap
import KE.SortData
import HandS.Lambda
import HandS.WordsDict
import HandS.Replace
import HandS.Conv
import PyProof.FactsAll.str_0
import PyProof.FactsAll.str_4
import HandS.TupMul
import KE.KDictDisplayH
import HandS.Text
import HandS.SetFor
import HandS.SetKeys
import PyProof.StrBlock2
import KE.DataMinKey
import HandS.DictTup
import HandS.Iter
import HandS.HeadHook2
import PySem.Challenge.RW_tuneworks_k06_whole_halves_and_counts
set_option Elab.async false
set_option linter.all false
set_option maxRecDepth 100000
set_option maxHeartbeats 0
/-! MirA: data of a mirror, how it lies in the abstract heap, what a step may change. -/
namespace Mir
open PySem PySem.Spec PyProof.Rows L2

/-- a value of the mirror: tuples by value, lists and dicts by their place in the mirror's heap; fro: a list that is only read; tuf: a tuple whose object is known -/
inductive D where
  | non | bl (b : Bool) | int (i : Int) | str (s : Str) | tup (ds : List D) | ref (n : Nat) | fro (ds : List D) | tuf (ds : List D) | obj (ns : List Str) (ds : List D)
inductive O where
  | lst (ds : List D) | dK (kvs : List (D × D)) | dT (kvs : List (D × D)) | opq (c : Str)
abbrev Hs := List O
abbrev En := List (Option D)

def at? {α : Type} : List α → Nat → Option α
  | [], _ => none
  | x :: _, 0 => some x
  | _ :: r, n + 1 => at? r n
theorem at?_eq {α : Type} : ∀ (l : List α) (n : Nat), at? l n = l[n]?
  | [], _ => by simp [at?]
  | _ :: _, 0 => by simp [at?]
  | _ :: r, n + 1 => by simp [at?, at?_eq r n]
def put {α : Type} : List α → Nat → α → List α
  | [], _, _ => []
  | _ :: r, 0, y => y :: r
  | x :: r, n + 1, y => x :: put r n y
theorem put_eq {α : Type} : ∀ (l : List α) (n : Nat) (y : α), put l n y = l.set n y
  | [], _, _ => by simp [put]
  | _ :: _, 0, _ => by simp [put]
  | _ :: r, n + 1, y => by simp [put, put_eq r n y]

/-- the tables of code objects that are tracked: those of generator expressions; those of one name -/
structure TBs where
  g : List Addr
  l : List (Addr × Str)
/-- what is known of the module, and the tables -/
structure GX where
  K : PySem.W.Frag
  tb : TBs

/-- a list that nobody writes -/
def FrL (K : PySem.W.Frag) (H : Hp) (a : Addr) (xs : List V) : Prop :=
  (∃ o, H a = some (.frz o (.lst xs))) ∨
    ∃ (o : Obj) (its : Array Value) (n : Nat), K.lookup a = some o ∧ o.cls = .type "list" ∧ o.dict = none ∧ o.data = .seq its n ∧ its.size ≤ sizeLine ∧ Vals xs its.toList
theorem FrL.sq {K : PySem.W.Frag} {H : Hp} {a : Addr} {xs : List V} (h : FrL K H a xs) : SqL K H a xs := by
  rcases h with h | h
  · exact .inl (.inr h)
  · exact .inr h

theorem sqt {K : PySem.W.Frag} {H : Hp} {a : Addr} {xs : List V} (h : H a = some (.tup xs)) : SqT K H a xs := .inl (.inl h)
mutual
inductive Rep (K : PySem.W.Frag) (H : Hp) (m : List Addr) : D → V → Prop where
  | non : Rep K H m .non .non
  | bl (b : Bool) : Rep K H m (.bl b) (.bl b)
  | int (i : Int) : Rep K H m (.int i) (.int i)
  | str (s : Str) : Rep K H m (.str s) (.str s)
  | ref {n : Nat} {a : Addr} : m[n]? = some a → Rep K H m (.ref n) (.ref a)
  | tup {ds : List D} {a : Addr} {xs : List V} : H a = some (.tup xs) → Reps K H m ds xs → Rep K H m (.tup ds) (.ref a)
  | fro {ds : List D} {a : Addr} {xs : List V} : FrL K H a xs → Reps K H m ds xs → Rep K H m (.fro ds) (.ref a)
  | tuf {ds : List D} {a : Addr} {xs : List V} {o : Obj} : H a = some (.frz o (.tup xs)) → o.dict = none → Reps K H m ds xs → Rep K H m (.tuf ds) (.ref a)
  | obj {ns : List Str} {ds : List D} {a C dx : Addr} {xs : List V} : H a = some (.ins C dx (ns.zip xs)) → ns.zip xs ≠ [] → Cls K C → (∀ x ∈ ns, NoAttr K C x) → Reps K H m ds xs → Rep K H m (.obj ns ds) (.ref a)
inductive Reps (K : PySem.W.Frag) (H : Hp) (m : List Addr) : List D → List V → Prop where
  | nil : Reps K H m [] []
  | cons {d : D} {v : V} {ds : List D} {vs : List V} : Rep K H m d v → Reps K H m ds vs → Reps K H m (d :: ds) (v :: vs)
end

/-- a key of a dict of ints and texts; of tuples of such -/
def keyD : Key → D
  | .inl i => .int i
  | .inr s => .str s
def RepO (K : PySem.W.Frag) (H : Hp) (m : List Addr) (a : Addr) : O → Prop
  | .lst ds => ∃ xs, H a = some (.lst xs) ∧ Reps K H m ds xs
  | .dK kvs => ∃ ks : List (Key × V), H a = some (.dK ks) ∧ kvs.map (·.1) = ks.map (fun p => keyD p.1) ∧ Reps K H m (kvs.map (·.2)) (ks.map (·.2))
  | .dT kvs => ∃ ks : List (List Key × V), H a = some (.dT ks) ∧ kvs.map (·.1) = ks.map (fun p => D.tup (p.1.map keyD)) ∧ Reps K H m (kvs.map (·.2)) (ks.map (·.2))
  | .opq c => ∃ dx, H a = some (.ins (He.ga K c) dx [])

abbrev TabG (H : Hp) (P : Addr) : Prop := ∃ ps : Array Value, H P = some (.tbl ps) ∧ TriplesOk ps.toList

/-- a code object of the name q -/
def CodeF (H : Hp) (c : Addr) (q : Str) : Prop := ∃ (oc : Obj) (u : HO) (vs : Array Value) (t : Tok), H c = some (.frz oc u) ∧ oc.data = .fields vs ∧ vs[1]? = some (.str q t)
/-- a table whose code objects all bear the name q -/
def TabF (H : Hp) (P : Addr) (q : Str) : Prop := ∃ ps : Array Value, H P = some (.tbl ps) ∧ TriplesOk ps.toList ∧ ∀ (pos : Pos) (cv : Value), codeAmong pos ps.toList = some cv → ∃ c, cv = .ref c ∧ CodeF H c q
structure TabsOk (tb : TBs) (H : Hp) : Prop where
  g : ∀ P ∈ tb.g, TabG H P
  l : ∀ p ∈ tb.l, TabF H p.1 p.2
  d : ∀ p ∈ tb.l, p.1 ∉ tb.g
  u : ∀ p ∈ tb.l, ∀ r ∈ tb.l, p.1 = r.1 → p = r
theorem TabsOk.keep {tb : TBs} {H H' : Hp} (h : TabsOk tb H) (k : ∀ b o, H b = some o → ((∃ ps, o = .tbl ps) ∨ ∃ ob u, o = .frz ob u) → H' b = some o) : TabsOk tb H' :=
  ⟨fun P hP => by
    obtain ⟨ps, h1, h2⟩ := h.g P hP
    exact ⟨ps, k _ _ h1 (.inl ⟨_, rfl⟩), h2⟩, fun p hp => by
    obtain ⟨ps, h1, h2, h3⟩ := h.l p hp
    refine ⟨ps, k _ _ h1 (.inl ⟨_, rfl⟩), h2, fun pos cv hc => ?_⟩
    obtain ⟨c, e, oc, u, vs, t, e1, e2⟩ := h3 pos cv hc
    exact ⟨c, e, oc, u, vs, t, k _ _ e1 (.inr ⟨_, _, rfl⟩), e2⟩, h.d, h.u⟩
/-- the mirror's heap hs lies at the addresses m -/
structure HR (G : GX) (m : List Addr) (hs : Hs) (H : Hp) : Prop where
  len : m.length = hs.length
  nd : m.Nodup
  obj : ∀ (i : Nat) (a : Addr) (o : O), m[i]? = some a → hs[i]? = some o → RepO G.K H m a o
  tab : TabsOk G.tb H

/-- what a step may change -/
structure Nx (m : List Addr) (H : Hp) (m' : List Addr) (H' : Hp) : Prop where
  pre : ∃ r, m' = m ++ r
  fresh : ∀ a ∈ m', a ∉ m → H a = none
  keep : ∀ a o, H a = some o → a ∉ m → (∀ ps, o ≠ .tbl ps) → H' a = some o
  there : ∀ a, H a ≠ none → H' a ≠ none

def SR (G : GX) (H : Hp) (m : List Addr) (ρ : En) (σ : L2.St) : Prop := ∀ (i : Nat) (d : D), ρ[i]? = some (some d) → ∃ v, σ[i]? = some (some v) ∧ Rep G.K H m d v

section
variable {G : GX} {K : PySem.W.Frag} {m m' m'' : List Addr} {hs hs' : Hs} {H H' H'' : Hp}
theorem HR.at (h : HR G m hs H) {a : Addr} (ha : a ∈ m) : ∃ (i : Nat) (o : O), m[i]? = some a ∧ hs[i]? = some o ∧ RepO G.K H m a o := by
  obtain ⟨i, hi, e⟩ := List.getElem_of_mem ha
  have hi2 : i < hs.length := by rw [← h.len]; exact hi
  have e1 : m[i]? = some a := by rw [List.getElem?_eq_getElem hi, e]
  exact ⟨i, hs[i], e1, List.getElem?_eq_getElem hi2, h.obj i a _ e1 (List.getElem?_eq_getElem hi2)⟩
theorem RepO.some {a : Addr} {o : O} (h : RepO K H m a o) : ∃ u, H a = some u ∧ (∀ xs, u ≠ .tup xs) ∧ (∀ ob w, u ≠ .frz ob w) ∧ (∀ ps, u ≠ .tbl ps) ∧ (∀ C dx fs, fs ≠ [] → u ≠ .ins C dx fs) := by
  cases o with
  | lst ds => obtain ⟨xs, e, _⟩ := h; exact ⟨_, e, fun _ z => by (cases z), fun _ _ z => by (cases z), fun _ z => by (cases z), fun _ _ _ _ z => by (cases z)⟩
  | dK kvs => obtain ⟨xs, e, _⟩ := h; exact ⟨_, e, fun _ z => by (cases z), fun _ _ z => by (cases z), fun _ z => by (cases z), fun _ _ _ _ z => by (cases z)⟩
  | dT kvs => obtain ⟨xs, e, _⟩ := h; exact ⟨_, e, fun _ z => by (cases z), fun _ _ z => by (cases z), fun _ z => by (cases z), fun _ _ _ _ z => by (cases z)⟩
  | opq c => obtain ⟨dx, e⟩ := h; exact ⟨_, e, fun _ z => by (cases z), fun _ _ z => by (cases z), fun _ z => by (cases z), fun _ _ _ n z => by (cases z; exact n rfl)⟩
theorem HR.no_tup (h : HR G m hs H) {a : Addr} {xs : List V} (e : H a = Option.some (.tup xs)) : a ∉ m := fun ha => by
  obtain ⟨_, _, _, _, r⟩ := h.at ha
  obtain ⟨u, e', n, _⟩ := r.some
  rw [e] at e'; exact n xs (Option.some.inj e').symm
theorem HR.no_frz (h : HR G m hs H) {a : Addr} {ob : Obj} {u : HO} (e : H a = Option.some (.frz ob u)) : a ∉ m := fun ha => by
  obtain ⟨_, _, _, _, r⟩ := h.at ha
  obtain ⟨w, e', _, n, _⟩ := r.some
  rw [e] at e'; exact n ob u (Option.some.inj e').symm
theorem HR.no_ins (h : HR G m hs H) {a : Addr} {C dx : Addr} {fs : List (Str × V)} (e : H a = Option.some (.ins C dx fs)) (nz : fs ≠ []) : a ∉ m := fun ha => by
  obtain ⟨_, _, _, _, r⟩ := h.at ha
  obtain ⟨w, e', _, _, _, n⟩ := r.some
  rw [e] at e'; exact n C dx fs nz (Option.some.inj e').symm
theorem HR.no_none (h : HR G m hs H) {a : Addr} (e : H a = none) : a ∉ m := fun ha => by
  obtain ⟨_, _, _, _, r⟩ := h.at ha
  obtain ⟨w, e', _, _⟩ := r.some
  rw [e] at e'; cases e'

theorem Nx.refl : Nx m H m H := ⟨⟨[], by simp⟩, fun a h n => absurd h n, fun _ _ e _ _ => e, fun _ e => e⟩
theorem Nx.sub (n : Nx m H m' H') {a : Addr} (h : a ∈ m) : a ∈ m' := by
  obtain ⟨r, e⟩ := n.pre
  rw [e]; exact List.mem_append_left _ h
theorem Nx.trans (a : Nx m H m' H') (b : Nx m' H' m'' H'') : Nx m H m'' H'' where
  pre := by
    obtain ⟨r, e⟩ := a.pre
    obtain ⟨r', e'⟩ := b.pre
    exact ⟨r ++ r', by rw [e', e, List.append_assoc]⟩
  fresh := fun c hc hn => by
    by_cases h : c ∈ m'
    · exact a.fresh c h hn
    · have q := b.fresh c hc h
      cases z : H c with
      | none => rfl
      | some o => exact absurd q (a.there c (by rw [z]; simp))
  keep := fun c o e hn ht => by
    have e1 := a.keep c o e hn ht
    refine b.keep c o e1 (fun z => ?_) ht
    have q := a.fresh c z hn
    rw [q] at e; cases e
  there := fun c e => b.there c (a.there c e)
theorem Nx.ix (n : Nx m H m' H') {i : Nat} {a : Addr} (h : m[i]? = some a) : m'[i]? = some a := by
  obtain ⟨r, e⟩ := n.pre
  obtain ⟨hi, _⟩ := List.getElem?_eq_some_iff.mp h
  rw [e, List.getElem?_append_left hi]; exact h

theorem sqT_nx (hr : HR G m hs H) (n : Nx m H m' H') {a : Addr} {xs : List V} (h : SqT K H a xs) : SqT K H' a xs := by
  rcases h with (h | ⟨o, h⟩) | h
  · exact .inl (.inl (n.keep a _ h (hr.no_tup h) fun _ z => by cases z))
  · exact .inl (.inr ⟨o, n.keep a _ h (hr.no_frz h) fun _ z => by cases z⟩)
  · exact .inr h
theorem frL_nx (hr : HR G m hs H) (n : Nx m H m' H') {a : Addr} {xs : List V} (h : FrL K H a xs) : FrL K H' a xs := by
  rcases h with ⟨o, h⟩ | h
  · exact .inl ⟨o, n.keep a _ h (hr.no_frz h) fun _ z => by cases z⟩
  · exact .inr h
mutual
theorem Rep.nx (hr : HR G m hs H) (n : Nx m H m' H') : ∀ {d : D} {v : V}, Rep K H m d v → Rep K H' m' d v
  | _, _, .non => .non
  | _, _, .bl b => .bl b
  | _, _, .int i => .int i
  | _, _, .str s => .str s
  | _, _, .ref e => .ref (n.ix e)
  | _, _, .tup h r => .tup (n.keep _ _ h (hr.no_tup h) fun _ z => by cases z) (Reps.nx hr n r)
  | _, _, .fro h r => .fro (frL_nx hr n h) (Reps.nx hr n r)
  | _, _, .tuf h d r => .tuf (n.keep _ _ h (hr.no_frz h) fun _ z => by cases z) d (Reps.nx hr n r)
  | _, _, .obj h z c a r => .obj (n.keep _ _ h (hr.no_ins h z) fun _ z => by cases z) z c a (Reps.nx hr n r)
theorem Reps.nx (hr : HR G m hs H) (n : Nx m H m' H') : ∀ {ds : List D} {vs : List V}, Reps K H m ds vs → Reps K H' m' ds vs
  | _, _, .nil => .nil
  | _, _, .cons r t => .cons (Rep.nx hr n r) (Reps.nx hr n t)
end
theorem SR.nx (hr : HR G m hs H) (n : Nx m H m' H') {ρ : En} {σ : L2.St} (s : SR G H m ρ σ) : SR G H' m' ρ σ := fun i d e => by
  obtain ⟨v, e1, r⟩ := s i d e
  exact ⟨v, e1, r.nx hr n⟩
theorem SR.set {ρ : En} {σ : L2.St} {d : D} {v : V} (s : SR G H m ρ σ) (r : Rep G.K H m d v) (i : Nat) (hi : i < σ.length) : SR G H m (put ρ i (some d)) (σ.set i (some v)) := fun j e h => by
  rw [put_eq] at h
  by_cases hj : i = j
  · subst hj
    by_cases hl : i < ρ.length
    · rw [List.getElem?_set_self hl] at h
      cases h
      exact ⟨v, by rw [List.getElem?_set_self hi], r⟩
    · rw [List.getElem?_eq_none (by simpa using hl)] at h; cases h
  · rw [List.getElem?_set_ne hj] at h
    rw [List.getElem?_set_ne hj]
    exact s j e h
end
end Mir

/-! MirB: heap steps, readings of mirrors, names, statements. -/
namespace Mir
open PySem PySem.Spec PyProof.Rows L2

section
variable {G : GX} {K : PySem.W.Frag} {m m' m'' : List Addr} {hs hs' : Hs} {H H' H'' : Hp}
theorem RepO.nx (hr : HR G m hs H) (n : Nx m H m' H') {a : Addr} {o : O} (e : H' a = H a) (h : RepO K H m a o) : RepO K H' m' a o := by
  cases o with
  | lst ds => obtain ⟨xs, e1, r⟩ := h; exact ⟨xs, e.trans e1, r.nx hr n⟩
  | dK ds => obtain ⟨xs, e1, k, r⟩ := h; exact ⟨xs, e.trans e1, k, r.nx hr n⟩
  | dT ds => obtain ⟨xs, e1, k, r⟩ := h; exact ⟨xs, e.trans e1, k, r.nx hr n⟩
  | opq c => obtain ⟨dx, e1⟩ := h; exact ⟨dx, e.trans e1⟩
theorem Nx.fresh1 {p : Addr} {u : HO} (hp : H p = none) : Nx m H m (upd H p u) :=
  ⟨⟨[], by simp⟩, fun a h n => absurd h n, fun a o e _ _ => by rw [upd_ne (ne_of_none e hp)]; exact e, fun a e => by
    by_cases h : a = p
    · rw [h, upd_same]; simp
    · rw [upd_ne h]; exact e⟩
/-- something new stands at p, the mirror's heap does not tell it -/
theorem HR.more (hr : HR G m hs H) {p : Addr} {u : HO} (hp : H p = none) : HR G m hs (upd H p u) := by
  have n : Nx m H m (upd H p u) := Nx.fresh1 hp
  refine ⟨hr.len, hr.nd, fun i a o e1 e2 => ?_, hr.tab.keep fun b o e _ => by rw [upd_ne (ne_of_none e hp)]; exact e⟩
  have q := hr.obj i a o e1 e2
  obtain ⟨w, hw, _⟩ := q.some
  exact q.nx hr n (by rw [upd_ne (ne_of_none hw hp)])
theorem Nx.alloc (hr : HR G m hs H) {p : Addr} {u : HO} (hp : H p = none) : Nx m H (m ++ [p]) (upd H p u) := by
  refine ⟨⟨[p], rfl⟩, fun a h n => ?_, (Nx.fresh1 (m := m) hp).keep, (Nx.fresh1 (m := m) hp).there⟩
  rcases List.mem_append.mp h with h | h
  · exact absurd h n
  · rw [List.mem_singleton.mp h]; exact hp
/-- .. and the mirror's heap tells it -/
theorem HR.alloc (hr : HR G m hs H) {p : Addr} {u : HO} {o : O} (hp : H p = none) (new : RepO G.K (upd H p u) (m ++ [p]) p o) : HR G (m ++ [p]) (hs ++ [o]) (upd H p u) := by
  have n : Nx m H (m ++ [p]) (upd H p u) := Nx.alloc hr hp
  have np : p ∉ m := hr.no_none hp
  refine ⟨by rw [List.length_append, List.length_append, hr.len]; rfl, ?_, fun i a o' e1 e2 => ?_, (hr.more hp).tab⟩
  · rw [List.nodup_append]
    refine ⟨hr.nd, by simp, fun a ha b hb => ?_⟩
    rw [List.mem_singleton.mp hb]
    intro e; rw [e] at ha; exact np ha
  · by_cases hi : i < m.length
    · rw [List.getElem?_append_left hi] at e1
      rw [List.getElem?_append_left (by rw [← hr.len]; exact hi)] at e2
      have q := hr.obj i a o' e1 e2
      obtain ⟨w, hw, _⟩ := q.some
      exact q.nx hr n (by rw [upd_ne (ne_of_none hw hp)])
    · rw [List.getElem?_append_right (by omega)] at e1
      rw [List.getElem?_append_right (by rw [← hr.len]; omega)] at e2
      have h0 : i - m.length = 0 := by
        obtain ⟨z, _⟩ := List.getElem?_eq_some_iff.mp e1
        simp at z; omega
      rw [h0] at e1
      rw [← hr.len, h0] at e2
      cases e1; cases e2
      exact new
theorem Nx.write {a : Addr} {u : HO} (ha : a ∈ m) : Nx m H m (upd H a u) :=
  ⟨⟨[], by simp⟩, fun a h n => absurd h n, fun b o e hb _ => by
    rw [upd_ne (fun z => hb (by rw [z]; exact ha))]; exact e, fun b e => by
    by_cases h : b = a
    · rw [h, upd_same]; simp
    · rw [upd_ne h]; exact e⟩
/-- the object number i is written -/
theorem HR.write (hr : HR G m hs H) {i : Nat} {a : Addr} {u : HO} {o' : O} (hi : m[i]? = some a) (new : RepO G.K (upd H a u) m a o') : HR G m (put hs i o') (upd H a u) := by
  have ha : a ∈ m := List.mem_of_getElem? hi
  have n : Nx m H m (upd H a u) := Nx.write ha
  refine ⟨by rw [put_eq, List.length_set]; exact hr.len, hr.nd, fun j b o e1 e2 => ?_, hr.tab.keep fun b o eb ho => ?_⟩
  · rw [put_eq] at e2
    by_cases hj : i = j
    · subst hj
      rw [hi] at e1; cases e1
      have hl : i < hs.length := by
        rw [← hr.len]; exact (List.getElem?_eq_some_iff.mp hi).1
      rw [List.getElem?_set_self hl] at e2
      cases e2
      exact new
    · rw [List.getElem?_set_ne hj] at e2
      have hb : b ≠ a := fun z => hj (by
        rw [z] at e1
        obtain ⟨h1, q1⟩ := List.getElem?_eq_some_iff.mp hi
        obtain ⟨h2, q2⟩ := List.getElem?_eq_some_iff.mp e1
        exact (List.getElem_inj hr.nd).mp (q1.trans q2.symm))
      exact (hr.obj j b o e1 e2).nx hr n (upd_ne hb)
  · rw [upd_ne (fun z => ?_)]
    · exact eb
    · obtain ⟨_, _, _, _, r⟩ := hr.at ha
      obtain ⟨w, hw, _, nf, nt, _⟩ := r.some
      rw [z, hw] at eb
      cases eb
      rcases ho with ⟨ps, e⟩ | ⟨ob, u, e⟩
      · exact nt _ e
      · exact nf _ _ e
theorem Rep.new (hr : HR G m hs H) {p : Addr} : Rep K H' (m ++ [p]) (.ref hs.length) (.ref p) :=
  .ref (by rw [← hr.len, List.getElem?_append_right (Nat.le_refl _), Nat.sub_self]; rfl)
end

/-! ### readings -/
abbrev EM := En → Hs → Option (D × Hs)
abbrev BM := En → Hs → Option (Bool × Hs)
abbrev AM := En → Hs → Option (List D × Hs)
inductive Rs where
  | nx (ρ : En) (hs : Hs) | ret (d : D) (hs : Hs) | bk (ρ : En) (hs : Hs) | ct (ρ : En) (hs : Hs)
abbrev SM := En → Hs → Option Rs

/-- the slots: as many, each known one at its place -/
structure SL (G : GX) (H : Hp) (m : List Addr) (ρ : En) (σ : L2.St) : Prop where
  len : ρ.length = σ.length
  at_ : SR G H m ρ σ
def TM (G : GX) (f : EM) : TE := fun σ H Q => ∃ ρ hs m, SL G H m ρ σ ∧ HR G m hs H ∧ ∃ d hs', f ρ hs = some (d, hs') ∧ ∀ v H' m', Nx m H m' H' → HR G m' hs' H' → Rep G.K H' m' d v → Q v H'
def TB (G : GX) (f : BM) : TT := fun σ H Q => ∃ ρ hs m, SL G H m ρ σ ∧ HR G m hs H ∧ ∃ b hs', f ρ hs = some (b, hs') ∧ ∀ H' m', Nx m H m' H' → HR G m' hs' H' → Q b H'
def TAm (G : GX) (f : AM) : TA := fun σ H Q => ∃ ρ hs m, SL G H m ρ σ ∧ HR G m hs H ∧ ∃ ds hs', f ρ hs = some (ds, hs') ∧ ∀ vs H' m', Nx m H m' H' → HR G m' hs' H' → Reps G.K H' m' ds vs → Q vs H'
def Fin (G : GX) (D : Ends) (m : List Addr) (H : Hp) : Rs → Prop
  | .nx ρ' hs' => ∀ σ' H' m', Nx m H m' H' → HR G m' hs' H' → SL G H' m' ρ' σ' → D.nx σ' H'
  | .ret d hs' => ∀ v H' m', Nx m H m' H' → HR G m' hs' H' → Rep G.K H' m' d v → D.rt v H'
  | .bk ρ' hs' => ∀ σ' H' m', Nx m H m' H' → HR G m' hs' H' → SL G H' m' ρ' σ' → D.bk σ' H'
  | .ct ρ' hs' => ∀ σ' H' m', Nx m H m' H' → HR G m' hs' H' → SL G H' m' ρ' σ' → D.ct σ' H'
def TSM (G : GX) (f : SM) : TS := fun D σ H => ∃ ρ hs m, SL G H m ρ σ ∧ HR G m hs H ∧ ∃ r, f ρ hs = some r ∧ Fin G D m H r

theorem Fin.nx {G : GX} {D : Ends} {m m' : List Addr} {H H' : Hp} {r : Rs} (f : Fin G D m H r) (n : Nx m H m' H') : Fin G D m' H' r := by
  cases r with
  | nx ρ hs => exact fun σ' H2 m2 n2 => f σ' H2 m2 (n.trans n2)
  | ret d hs => exact fun σ' H2 m2 n2 => f σ' H2 m2 (n.trans n2)
  | bk ρ hs => exact fun σ' H2 m2 n2 => f σ' H2 m2 (n.trans n2)
  | ct ρ hs => exact fun σ' H2 m2 n2 => f σ' H2 m2 (n.trans n2)
section
variable {G : GX} {m m' : List Addr} {hs hs' : Hs} {H H' : Hp} {ρ : En} {σ : L2.St}
theorem SL.nx (hr : HR G m hs H) (n : Nx m H m' H') (s : SL G H m ρ σ) : SL G H' m' ρ σ := ⟨s.len, s.at_.nx hr n⟩
theorem put_length {α : Type} (l : List α) (n : Nat) (y : α) : (put l n y).length = l.length := by rw [put_eq, List.length_set]
theorem SL.set {d : D} {v : V} (s : SL G H m ρ σ) (r : Rep G.K H m d v) (i : Nat) : SL G H m (put ρ i (some d)) (σ.set i (some v)) := by
  refine ⟨by rw [put_length, List.length_set]; exact s.len, ?_⟩
  by_cases hi : i < σ.length
  · exact s.at_.set r i hi
  · rw [put_eq, List.set_eq_of_length_le (by rw [s.len]; omega), List.set_eq_of_length_le (by omega)]
    exact s.at_
theorem SL.get {d : D} (s : SL G H m ρ σ) {i : Nat} (e : at? ρ i = some (some d)) : ∃ v, σ[i]? = some (some v) ∧ Rep G.K H m d v := s.at_ i d (by rw [← at?_eq]; exact e)
end

section
variable {X : Cx} {e : Expr} {st : Stmt} {sts : List Stmt}
theorem _root_.L2.PE.imp {t t' : TE} (h : PE X e t) (i : ∀ σ H Q, t' σ H Q → t σ H Q) : PE X e t' := ⟨fun pins s σ H Q I q => h.run pins s σ H Q I (i σ H Q q)⟩
theorem _root_.L2.PT.imp {t t' : TT} (h : PT X e t) (i : ∀ σ H Q, t' σ H Q → t σ H Q) : PT X e t' := ⟨fun pins s σ H Q I q => h.run pins s σ H Q I (i σ H Q q)⟩
theorem _root_.L2.PW.imp {t t' : TT} (h : PW X e t) (i : ∀ σ H Q, t' σ H Q → t σ H Q) : PW X e t' := ⟨fun wh pins s σ H Q I q => h.run wh pins s σ H Q I (i σ H Q q)⟩
theorem _root_.L2.PA.imp {es : List Expr} {t t' : TA} (h : PA X es t) (i : ∀ σ H Q, t' σ H Q → t σ H Q) : PA X es t' := ⟨fun pos pins s σ H Q I q => h.run pos pins s σ H Q I (i σ H Q q)⟩
theorem _root_.L2.PS.imp {t t' : TS} (h : PS X st t) (i : ∀ D σ H, t' D σ H → t D σ H) : PS X st t' := ⟨fun pins s σ H D I q => h.run pins s σ H D I (i D σ H q)⟩
theorem _root_.L2.PSs.imp {t t' : TS} (h : PSs X sts t) (i : ∀ D σ H, t' D σ H → t D σ H) : PSs X sts t' := ⟨fun pins s σ H D I q => h.run pins s σ H D I (i D σ H q)⟩
end

/-! ### names, constants -/
def mVar (i : Nat) : EM := fun ρ hs => match at? ρ i with
  | some (some d) => some (d, hs)
  | _ => none
def mC (d : D) : EM := fun _ hs => some (d, hs)
theorem tm_var {G : GX} {i : Nat} {σ : L2.St} {H : Hp} {Q : VK} (h : TM G (mVar i) σ H Q) : tVar i σ H Q := by
  obtain ⟨ρ, hs, m, sl, hr, d, hs', e, q⟩ := h
  unfold mVar at e
  split at e
  · rename_i d' e'
    cases e
    obtain ⟨v, e1, r⟩ := sl.get e'
    exact ⟨v, e1, q v H m .refl hr r⟩
  · cases e
theorem tm_C {G : GX} {d : D} {v : V} {σ : L2.St} {H : Hp} {Q : VK} (r : ∀ m, Rep G.K H m d v) (h : TM G (mC d) σ H Q) : tC v σ H Q := by
  obtain ⟨ρ, hs, m, sl, hr, d', hs', e, q⟩ := h
  cases e
  exact q v H m .refl hr (r m)
section
variable {X : Cx} {G : GX} {i j : Nat} {x : Str} {pos pos' : Pos}
theorem m_var (i : Nat) (hN : X.N[i]? = some x := by rfl) (hv : Vis X.env.scope x := by first | exact Or.inl rfl | exact Or.inr (Or.inl rfl) | exact Or.inr (Or.inr rfl)) (hd : (x == ("__debug__" : Str)) = false := by decide)
    (hcd : (x == ("__classdict__" : Str)) = false := by decide) : PE X (.Name x pos) (TM G (mVar i)) := (pe_var hN hv hd hcd).imp fun _ _ _ => tm_var
theorem m_int {z : Int} : PE X (.Constant (.int z) j pos) (TM G (mC (.int z))) := pe_int.imp fun _ _ _ => tm_C fun _ => .int z
theorem m_bl {b : Bool} : PE X (.Constant (.bool b) j pos) (TM G (mC (.bl b))) := pe_bl.imp fun _ _ _ => tm_C fun _ => .bl b
theorem m_non : PE X (.Constant .none j pos) (TM G (mC .non)) := pe_non.imp fun _ _ _ => tm_C fun _ => .non
theorem m_str {z : Str} : PE X (.Constant (.str z) j pos) (TM G (mC (.str z))) := pe_str.imp fun _ _ _ => tm_C fun _ => .str z
/-- a module's constant -/
theorem m_glob {d : D} {v : V} {u : Value} (hg : Gl X x) (hm : X.mg x = some u) (r : RelV v u) (rd : ∀ H m, Rep G.K H m d v) (hd : (x == ("__debug__" : Str)) = false := by decide) : PE X (.Name x pos) (TM G (mC d)) :=
  (pe_glob hg hm r hd).imp fun _ H _ => tm_C fun m => rd H m
end

/-! ### statements -/
def mNext : SM := fun ρ hs => some (.nx ρ hs)
def mSeq (f g : SM) : SM := fun ρ hs => match f ρ hs with
  | some (.nx ρ' hs') => g ρ' hs'
  | some r => some r
  | none => none
def mSet (i : Nat) (f : EM) : SM := fun ρ hs => match f ρ hs with
  | some (d, hs') => some (.nx (put ρ i (some d)) hs')
  | none => none
def mRet (f : EM) : SM := fun ρ hs => match f ρ hs with
  | some (d, hs') => some (.ret d hs')
  | none => none
def mDrop (f : EM) : SM := fun ρ hs => match f ρ hs with
  | some (_, hs') => some (.nx ρ hs')
  | none => none
def mIfS (c : BM) (f g : SM) : SM := fun ρ hs => match c ρ hs with
  | some (true, hs') => f ρ hs'
  | some (false, hs') => g ρ hs'
  | none => none
def mNever : SM := fun _ _ => none
def mBreak : SM := fun ρ hs => some (.bk ρ hs)
def mCont : SM := fun ρ hs => some (.ct ρ hs)
section
variable {X : Cx} {G : GX} {e : Expr} {st : Stmt} {rest : List Stmt} {f g : SM} {pos : Pos}
theorem ms_nil : PSs X [] (TSM G mNext) := pss_nil.imp fun D σ H ⟨ρ, hs, m, sl, hr, r, e, q⟩ => by
  cases e
  exact q σ H m .refl hr sl
theorem ms_cons (h1 : PS X st (TSM G f)) (h2 : PSs X rest (TSM G g)) : PSs X (st :: rest) (TSM G (mSeq f g)) := by
  refine (pss_cons h1 h2).imp fun D σ H ⟨ρ, hs, m, sl, hr, r, e, q⟩ => ?_
  unfold mSeq at e
  split at e
  · rename_i ρ' hs' e'
    exact ⟨ρ, hs, m, sl, hr, _, e', fun σ' H' m' n' hr' sl' => ⟨ρ', hs', m', sl', hr', r, e, q.nx n'⟩⟩
  · rename_i r' hn e'
    cases e
    refine ⟨ρ, hs, m, sl, hr, _, e', ?_⟩
    cases r with
    | nx ρ1 hs1 => exact absurd e' (fun z => hn _ _ rfl)
    | ret d hs1 => exact q
    | bk ρ1 hs1 => exact q
    | ct ρ1 hs1 => exact q
  · cases e
theorem ms_one (h1 : PS X st (TSM G f)) : PSs X [st] (TSM G f) := pss_one h1
theorem ms_pass : PS X (.Pass pos) (TSM G mNext) := ps_pass.imp fun D σ H ⟨ρ, hs, m, sl, hr, r, e, q⟩ => by
  cases e
  exact q σ H m .refl hr sl
theorem ms_break : PS X (.Break pos) (TSM G mBreak) := ps_break.imp fun D σ H ⟨ρ, hs, m, sl, hr, r, e, q⟩ => by
  cases e
  exact q σ H m .refl hr sl
theorem ms_continue : PS X (.Continue pos) (TSM G mCont) := ps_continue.imp fun D σ H ⟨ρ, hs, m, sl, hr, r, e, q⟩ => by
  cases e
  exact q σ H m .refl hr sl
theorem ms_never : PS X st (TSM G mNever) := ps_never.imp fun D σ H ⟨ρ, hs, m, sl, hr, r, e, q⟩ => by cases e
theorem mss_never : PSs X rest (TSM G mNever) := pss_never.imp fun D σ H ⟨ρ, hs, m, sl, hr, r, e, q⟩ => by cases e
variable {fe : EM}
theorem ms_set {i : Nat} {x : Str} {pos' : Pos} (he : PE X e (TM G fe)) (hN : X.N.Nodup) (hi : X.N[i]? = some x) (hx : Loc X.env.scope x) (hs : swapsWith e (some (.Name x pos')) pos.line X.env = pure false := by rfl) (hf : X.fn x = true ∨ X.env.scope.names.lookup x = some .local := by first | exact .inl rfl | exact .inr rfl | assumption) :
    PS X (.Assign [.Name x pos'] e pos) (TSM G (mSet i fe)) := by
  refine (ps_set hN hi hx he hs hf).imp fun D σ H ⟨ρ, hs, m, sl, hr, r, e, q⟩ => ?_
  unfold mSet at e
  split at e
  · rename_i d hs' e'
    cases e
    exact ⟨ρ, hs, m, sl, hr, d, hs', e', fun v H' m' n' hr' rv => q _ H' m' n' hr' ((sl.nx hr n').set rv i)⟩
  · cases e
theorem ms_ret (he : PE X e (TM G fe)) : PS X (.Return (some e) pos) (TSM G (mRet fe)) := by
  refine (ps_ret he).imp fun D σ H ⟨ρ, hs, m, sl, hr, r, e, q⟩ => ?_
  unfold mRet at e
  split at e
  · rename_i d hs' e'
    cases e
    exact ⟨ρ, hs, m, sl, hr, d, hs', e', fun v H' m' n' hr' rv => q v H' m' n' hr' rv⟩
  · cases e
theorem ms_expr (he : PE X e (TM G fe)) (hs : swapsWith e none pos.line X.env = pure false := by rfl) : PS X (.Expr e pos) (TSM G (mDrop fe)) := by
  refine (ps_expr he hs).imp fun D σ H ⟨ρ, hs, m, sl, hr, r, e, q⟩ => ?_
  unfold mDrop at e
  split at e
  · rename_i d hs' e'
    cases e
    exact ⟨ρ, hs, m, sl, hr, d, hs', e', fun v H' m' n' hr' rv => q σ H' m' n' hr' (sl.nx hr n')⟩
  · cases e
theorem ms_if {c : Expr} {a b : List Stmt} {fc : BM} (hc : PT X c (TB G fc)) (ha : PSs X a (TSM G f)) (hb : PSs X b (TSM G g)) : PS X (.If c a b pos) (TSM G (mIfS fc f g)) := by
  refine (ps_if hc ha hb).imp fun D σ H ⟨ρ, hs, m, sl, hr, r, e, q⟩ => ?_
  unfold mIfS at e
  split at e
  · rename_i hs' e'
    refine ⟨ρ, hs, m, sl, hr, true, hs', e', fun H' m' n' hr' => ?_⟩
    refine iteT ?_
    exact ⟨ρ, hs', m', sl.nx hr n', hr', r, e, q.nx n'⟩
  · rename_i hs' e'
    refine ⟨ρ, hs, m, sl, hr, false, hs', e', fun H' m' n' hr' => ?_⟩
    refine iteF ?_
    exact ⟨ρ, hs', m', sl.nx hr n', hr', r, e, q.nx n'⟩
  · cases e

/-! ### while -/
def mWhile : Nat → BM → SM → SM
  | 0, _, _ => fun _ _ => none
  | n + 1, c, b => fun ρ hs => match c ρ hs with
    | some (false, hs') => some (.nx ρ hs')
    | some (true, hs') => match b ρ hs' with
      | some (.nx ρ' hs2) => mWhile n c b ρ' hs2
      | some (.ct ρ' hs2) => mWhile n c b ρ' hs2
      | some (.bk ρ' hs2) => some (.nx ρ' hs2)
      | some (.ret d hs2) => some (.ret d hs2)
      | none => none
    | none => none
theorem ms_while (N : Nat) {c : Expr} {body : List Stmt} {fc : BM} (hp : PassesOwn (model X.prog X.w) X.A X.env X.xe) (hc : PT X c (TB G fc)) (hb : PSs X body (TSM G f)) : PS X (.While c body [] pos) (TSM G (mWhile N fc f)) := by
  refine (ps_while hp hc hb).imp fun D σ H ⟨ρ, hs, m, sl, hr, r, e, q⟩ => ?_
  refine ⟨fun n σ H => ∃ ρ hs m, SL G H m ρ σ ∧ HR G m hs H ∧ ∃ r, mWhile n fc f ρ hs = some r ∧ Fin G D m H r, ⟨N, ρ, hs, m, sl, hr, r, e, q⟩, ?_⟩
  rintro n σ H ⟨ρ, hs, m, sl, hr, r, e, q⟩
  cases n with
  | zero => cases e
  | succ n =>
    unfold mWhile at e
    split at e
    · rename_i hs' e'
      cases e
      exact ⟨ρ, hs, m, sl, hr, false, hs', e', fun H' m' n' hr' => by
        refine iteF ?_
        exact q σ H' m' n' hr' (sl.nx hr n')⟩
    · rename_i hs' e'
      refine ⟨ρ, hs, m, sl, hr, true, hs', e', fun H' m' n' hr' => ?_⟩
      refine iteT ?_
      refine ⟨fun σ H => ∃ ρ hs m, SL G H m ρ σ ∧ HR G m hs H ∧ ∃ r, mWhile n fc f ρ hs = some r ∧ Fin G D m H r, fun σ' H' h => ⟨n, Nat.lt_succ_self n, h⟩, ?_⟩
      refine ⟨ρ, hs', m', sl.nx hr n', hr', ?_⟩
      have q' := q.nx n'
      split at e
      · rename_i ρ2 hs2 e2
        exact ⟨_, e2, fun σ3 H3 m3 n3 hr3 sl3 => ⟨ρ2, hs2, m3, sl3, hr3, r, e, q'.nx n3⟩⟩
      · rename_i ρ2 hs2 e2
        exact ⟨_, e2, fun σ3 H3 m3 n3 hr3 sl3 => ⟨ρ2, hs2, m3, sl3, hr3, r, e, q'.nx n3⟩⟩
      · rename_i ρ2 hs2 e2
        cases e
        exact ⟨_, e2, fun σ3 H3 m3 n3 hr3 sl3 => q' σ3 H3 m3 n3 hr3 sl3⟩
      · rename_i d hs2 e2
        cases e
        exact ⟨_, e2, fun v H3 m3 n3 hr3 rv => q' v H3 m3 n3 hr3 rv⟩
      · cases e
    · cases e
end
end Mir

/-! MirC: operators by values, comparisons, tests, displays, subscripts. -/
namespace Mir
open PySem PySem.Spec PyProof.Rows L2

abbrev GO (X : Cx) (tb : TBs) : GX := ⟨X.K, tb⟩
abbrev F2 := D → D → Hs → Option (D × Hs)
abbrev F1 := D → Hs → Option (D × Hs)
def R2M (G : GX) (f : F2) : R2 := fun x y H Q => ∃ d e hs m, HR G m hs H ∧ Rep G.K H m d x ∧ Rep G.K H m e y ∧ ∃ r hs', f d e hs = some (r, hs') ∧ ∀ v H' m', Nx m H m' H' → HR G m' hs' H' → Rep G.K H' m' r v → Q v H'
def R1M (G : GX) (f : F1) : V → Hp → VK → Prop := fun x H Q => ∃ d hs m, HR G m hs H ∧ Rep G.K H m d x ∧ ∃ r hs', f d hs = some (r, hs') ∧ ∀ v H' m', Nx m H m' H' → HR G m' hs' H' → Rep G.K H' m' r v → Q v H'
def mBin (f2 : F2) (fa fb : EM) : EM := fun ρ hs => match fa ρ hs with
  | some (d, hs1) => match fb ρ hs1 with
    | some (e, hs2) => f2 d e hs2
    | none => none
  | none => none
def mUn (f1 : F1) (fa : EM) : EM := fun ρ hs => match fa ρ hs with
  | some (d, hs1) => f1 d hs1
  | none => none
theorem tm_bin {G : GX} {f2 : F2} {fa fb : EM} {σ : L2.St} {H : Hp} {Q : VK} (h : TM G (mBin f2 fa fb) σ H Q) : tOp (R2M G f2) (TM G fa) (TM G fb) σ H Q := by
  obtain ⟨ρ, hs, m, sl, hr, r, hs', e, q⟩ := h
  unfold mBin at e
  split at e
  · rename_i d hs1 e1
    split at e
    · rename_i e2 hs2 ee
      refine ⟨ρ, hs, m, sl, hr, d, hs1, e1, fun x H1 m1 n1 hr1 rx => ?_⟩
      refine ⟨ρ, hs1, m1, sl.nx hr n1, hr1, e2, hs2, ee, fun y H2 m2 n2 hr2 ry => ?_⟩
      exact ⟨d, e2, hs2, m2, hr2, rx.nx hr1 n2, ry, r, hs', e, fun v H' m' n' => q v H' m' ((n1.trans n2).trans n')⟩
    · cases e
  · cases e
theorem tm_un {G : GX} {f1 : F1} {fa : EM} {σ : L2.St} {H : Hp} {Q : VK} (h : TM G (mUn f1 fa) σ H Q) : tUn (R1M G f1) (TM G fa) σ H Q := by
  obtain ⟨ρ, hs, m, sl, hr, r, hs', e, q⟩ := h
  unfold mUn at e
  split at e
  · rename_i d hs1 e1
    refine ⟨ρ, hs, m, sl, hr, d, hs1, e1, fun x H1 m1 n1 hr1 rx => ?_⟩
    exact ⟨d, hs1, m1, hr1, rx, r, hs', e, fun v H' m' n' => q v H' m' (n1.trans n')⟩
  · cases e
theorem OpR.imp' {X : Cx} {f : Value → Value → Sem Value} {r r' : R2} (h : OpR X f r) (i : ∀ x y H Q, r' x y H Q → r x y H Q) : OpR X f r' := fun pins s σ H x y v u Q I rx ry q => h pins s σ H x y v u Q I rx ry (i x y H Q q)
theorem UnR.imp' {X : Cx} {f : Value → Sem Value} {r r' : V → Hp → VK → Prop} (h : UnR X f r) (i : ∀ x H Q, r' x H Q → r x H Q) : UnR X f r' := fun pins s σ H x v Q I rx q => h pins s σ H x v Q I rx (i x H Q q)
theorem IxR.imp' {X : Cx} {r r' : R2} (h : IxR X r) (i : ∀ x y H Q, r' x y H Q → r x y H Q) : IxR X r' := fun value slice pins s σ H x y v u Q I rx ry q => h value slice pins s σ H x y v u Q I rx ry (i x y H Q q)

/-- a fresh tuple, a fresh list as an answer -/
theorem fin_tup {G : GX} {m : List Addr} {hs : Hs} {H : Hp} {Q : VK} {ds : List D} {xs : List V} {p : Addr} (hr : HR G m hs H) (r : Reps G.K H m ds xs) (hp : H p = none)
    (q : ∀ v H' m', Nx m H m' H' → HR G m' hs H' → Rep G.K H' m' (.tup ds) v → Q v H') : Q (.ref p) (upd H p (.tup xs)) :=
  q _ _ m (.fresh1 hp) (hr.more hp) (.tup upd_same (r.nx hr (.fresh1 hp)))
theorem fin_lst {G : GX} {m : List Addr} {hs : Hs} {H : Hp} {Q : VK} {ds : List D} {xs : List V} {p : Addr} (hr : HR G m hs H) (r : Reps G.K H m ds xs) (hp : H p = none)
    (q : ∀ v H' m', Nx m H m' H' → HR G m' (hs ++ [.lst ds]) H' → Rep G.K H' m' (.ref hs.length) v → Q v H') : Q (.ref p) (upd H p (.lst xs)) :=
  q _ _ (m ++ [p]) (.alloc hr hp) (hr.alloc hp ⟨xs, upd_same, r.nx hr (.alloc hr hp)⟩) (.new hr)

section
variable {K : PySem.W.Frag} {H : Hp} {m : List Addr}
theorem Reps.length : ∀ {ds : List D} {vs : List V}, Reps K H m ds vs → ds.length = vs.length
  | _, _, .nil => rfl
  | _, _, .cons _ t => congrArg (· + 1) (Reps.length t)
theorem Reps.append : ∀ {ds es : List D} {vs ws : List V}, Reps K H m ds vs → Reps K H m es ws → Reps K H m (ds ++ es) (vs ++ ws)
  | _, _, _, _, .nil, s => s
  | _, _, _, _, .cons r t, s => .cons r (Reps.append t s)
theorem Reps.get : ∀ {ds : List D} {vs : List V} {i : Nat} {d : D}, Reps K H m ds vs → ds[i]? = some d → ∃ v, vs[i]? = some v ∧ Rep K H m d v
  | _, _, _, _, .nil, e => by simp at e
  | _, _, 0, _, .cons r _, e => by simp at e; subst e; exact ⟨_, rfl, r⟩
  | _, _, i + 1, d, .cons _ t, e => by
    obtain ⟨v, h1, h2⟩ := Reps.get (i := i) (d := d) t (by simpa using e)
    exact ⟨v, by simpa using h1, h2⟩
theorem Reps.get' : ∀ {ds : List D} {vs : List V} {i : Nat} {v : V}, Reps K H m ds vs → vs[i]? = some v → ∃ d, ds[i]? = some d ∧ Rep K H m d v
  | _, _, _, _, .nil, e => by simp at e
  | _, _, 0, _, .cons r _, e => by simp at e; subst e; exact ⟨_, rfl, r⟩
  | _, _, i + 1, v, .cons _ t, e => by
    obtain ⟨d, h1, h2⟩ := Reps.get' (i := i) (v := v) t (by simpa using e)
    exact ⟨d, by simpa using h1, h2⟩
theorem Reps.take : ∀ {ds : List D} {vs : List V} (n : Nat), Reps K H m ds vs → Reps K H m (ds.take n) (vs.take n)
  | _, _, 0, _ => .nil
  | _, _, _ + 1, .nil => .nil
  | _, _, n + 1, .cons r t => .cons r (Reps.take n t)
theorem Reps.drop : ∀ {ds : List D} {vs : List V} (n : Nat), Reps K H m ds vs → Reps K H m (ds.drop n) (vs.drop n)
  | _, _, 0, r => r
  | _, _, _ + 1, .nil => .nil
  | _, _, n + 1, .cons _ t => Reps.drop n t
theorem Reps.set {d : D} {v : V} (r : Rep K H m d v) : ∀ {ds : List D} {vs : List V} (i : Nat), Reps K H m ds vs → Reps K H m (ds.set i d) (vs.set i v)
  | _, _, _, .nil => .nil
  | _, _, 0, .cons _ t => .cons r t
  | _, _, i + 1, .cons q t => .cons q (Reps.set r i t)
theorem Reps.reverse {ds : List D} {vs : List V} (r : Reps K H m ds vs) : Reps K H m ds.reverse vs.reverse := by
  induction ds generalizing vs with
  | nil => cases r; exact .nil
  | cons d ds ih =>
    cases r with
    | cons r t =>
      rw [List.reverse_cons, List.reverse_cons]
      exact (ih t).append (.cons r .nil)
theorem Reps.eraseIdx : ∀ {ds : List D} {vs : List V} (i : Nat), Reps K H m ds vs → Reps K H m (ds.eraseIdx i) (vs.eraseIdx i)
  | _, _, _, .nil => .nil
  | _, _, 0, .cons _ t => t
  | _, _, i + 1, .cons r t => .cons r (Reps.eraseIdx i t)
theorem Rep.int_inv {i : Int} {v : V} (r : Rep K H m (.int i) v) : v = .int i := by cases r; rfl
theorem Reps.ints : ∀ {ns : List Int} {vs : List V}, Reps K H m (ns.map D.int) vs → vs = ns.map V.int
  | [], _, .nil => rfl
  | _ :: _, _, .cons r t => by rw [r.int_inv, Reps.ints t]; rfl
end
/-- the list at a place of the mirror's heap -/
theorem HR.lst {G : GX} {m : List Addr} {hs : Hs} {H : Hp} (hr : HR G m hs H) {i : Nat} {a : Addr} {ds : List D} (e : m[i]? = some a) (h : at? hs i = some (.lst ds)) : ∃ xs, H a = some (.lst xs) ∧ Reps G.K H m ds xs :=
  hr.obj i a (.lst ds) e (by rw [← at?_eq]; exact h)
theorem HR.dK {G : GX} {m : List Addr} {hs : Hs} {H : Hp} (hr : HR G m hs H) {i : Nat} {a : Addr} {kvs : List (D × D)} (e : m[i]? = some a) (h : at? hs i = some (.dK kvs)) : RepO G.K H m a (.dK kvs) :=
  hr.obj i a _ e (by rw [← at?_eq]; exact h)
theorem HR.dT {G : GX} {m : List Addr} {hs : Hs} {H : Hp} (hr : HR G m hs H) {i : Nat} {a : Addr} {kvs : List (D × D)} (e : m[i]? = some a) (h : at? hs i = some (.dT kvs)) : RepO G.K H m a (.dT kvs) :=
  hr.obj i a _ e (by rw [← at?_eq]; exact h)

/-! ### arithmetic -/
def cap (n : Nat) : Bool := Nat.ble n 16777216
theorem cap_le {n : Nat} (h : cap n = true) : n ≤ sizeLine := by rw [sizeLine_eq]; exact Nat.le_of_ble_eq_true h
def addD : F2
  | .int i, .int j, hs => some (.int (i + j), hs)
  | .tup a, .tup b, hs => if cap (a.length + b.length) then some (.tup (a ++ b), hs) else none
  | .ref i, .ref j, hs => match at? hs i, at? hs j with
    | some (.lst a), some (.lst b) => if cap (a.length + b.length) then some (.ref hs.length, hs ++ [.lst (a ++ b)]) else none
    | _, _ => none
  | .str a, .str b, hs => if cap (a.length + b.length) then some (.str (a ++ b), hs) else none
  | _, _, _ => none
theorem op_addM {X : Cx} {tb : TBs} : OpR X (binaryOp .Add) (R2M (GO X tb) addD) := by
  refine OpR.imp' (((op_add (X := X)).or op_catA).or (op_cat.or op_add_str)) fun x y H Q h => ?_
  obtain ⟨d, e, hs, m, hr, rx, ry, r, hs', ef, q⟩ := h
  unfold addD at ef
  split at ef
  · cases rx; cases ry; cases ef
    exact .inl (.inl ⟨_, _, rfl, rfl, q _ _ _ .refl hr (.int _)⟩)
  · rename_i a b
    split at ef
    · rename_i hc
      cases ef
      cases rx with
      | tup hx rx' =>
        cases ry with
        | tup hy ry' =>
          have hl := cap_le hc
          rw [rx'.length, ry'.length] at hl
          refine .inl (.inr ⟨_, _, _, _, rfl, rfl, sqt hx, sqt hy, hl, fun e1 => ?_, fun _ e2 => ?_, fun _ _ p hp => ?_⟩)
          · subst e1
            cases rx'
            exact q _ _ _ .refl hr (.tup hy ry')
          · subst e2
            cases ry'
            rw [List.append_nil] at q
            exact q _ _ _ .refl hr (.tup hx rx')
          · exact fin_tup hr (rx'.append ry') hp q
    · cases ef
  · rename_i i j
    split at ef
    · rename_i a b ea eb
      split at ef
      · rename_i hc
        cases ef
        cases rx with
        | ref e1 =>
          cases ry with
          | ref e2 =>
            obtain ⟨xs, hx, rx'⟩ := hr.lst e1 ea
            obtain ⟨ys, hy, ry'⟩ := hr.lst e2 eb
            have hl := cap_le hc
            rw [rx'.length, ry'.length] at hl
            refine .inr (.inl ⟨_, _, xs, ys, rfl, rfl, hx, hy, hl, fun p hp => ?_⟩)
            exact fin_lst hr (rx'.append ry') hp q
      · cases ef
    · cases ef
  · split at ef
    · rename_i hc
      cases rx; cases ry; cases ef
      exact .inr (.inr ⟨_, _, rfl, rfl, cap_le hc, q _ _ _ .refl hr (.str _)⟩)
    · cases ef
  · cases ef
def subD : F2
  | .int i, .int j, hs => some (.int (i - j), hs)
  | _, _, _ => none
theorem op_subM {X : Cx} {tb : TBs} : OpR X (binaryOp .Sub) (R2M (GO X tb) subD) := by
  refine OpR.imp' (op_sub (X := X)) fun x y H Q h => ?_
  obtain ⟨d, e, hs, m, hr, rx, ry, r, hs', ef, q⟩ := h
  unfold subD at ef
  split at ef
  · cases rx; cases ry; cases ef
    exact ⟨_, _, rfl, rfl, q _ _ _ .refl hr (.int _)⟩
  · cases ef
theorem bits_le (x : Int) : Builtin.Int.intBits x ≤ x.natAbs.log2 + 1 := by
  unfold Builtin.Int.intBits
  split <;> omega
theorem mulx_bits {i j : Int} (h : i.natAbs.log2 + j.natAbs.log2 ≤ 134217000) : CMulX i j := by
  have a := bits_le i
  have b := bits_le j
  unfold CMulX
  omega
/-- few bits: without a logarithm, which the kernel counts slowly -/
def mulB (i j : Int) : Bool := match Nat.blt i.natAbs (2 ^ 40000), Nat.blt j.natAbs (2 ^ 40000) with
  | true, true => true
  | _, _ => Nat.ble (i.natAbs.log2 + j.natAbs.log2) 134217000
theorem log2_of_blt {n k : Nat} (h0 : 0 < k) (h : Nat.blt n (2 ^ k) = true) : n.log2 < k := by
  have h1 : n < 2 ^ k := Nat.le_of_ble_eq_true h
  by_cases z : n = 0
  · rw [z]; simpa using h0
  · exact (Nat.log2_lt z).mpr h1
theorem mulB_le {i j : Int} (h : mulB i j = true) : i.natAbs.log2 + j.natAbs.log2 ≤ 134217000 := by
  unfold mulB at h
  split at h
  · rename_i h1 h2
    have := log2_of_blt (by decide) h1
    have := log2_of_blt (by decide) h2
    omega
  · exact Nat.le_of_ble_eq_true h
theorem mulB_of {i j : Int} (h : i.natAbs.log2 + j.natAbs.log2 ≤ 134217000) : mulB i j = true := by
  unfold mulB
  split
  · rfl
  · exact Nat.ble_eq_true_of_le h
def mulI : F2
  | .int i, .int j, hs => if mulB i j then some (.int (i * j), hs) else none
  | _, _, _ => none
theorem op_mulM {X : Cx} {tb : TBs} : OpR X (binaryOp .Mult) (R2M (GO X tb) mulI) := by
  refine OpR.imp' (op_mulX (X := X)) fun x y H Q h => ?_
  obtain ⟨d, e, hs, m, hr, rx, ry, r, hs', ef, q⟩ := h
  unfold mulI at ef
  split at ef
  · split at ef
    · rename_i hc
      cases rx; cases ry; cases ef
      exact ⟨_, _, rfl, rfl, mulx_bits (mulB_le hc), q _ _ _ .refl hr (.int _)⟩
    · cases ef
  · cases ef
def modD : F2
  | .int i, .int j, hs => match j with
    | .ofNat (n + 1) => some (.int (i % .ofNat (n + 1)), hs)
    | _ => none
  | _, _, _ => none
theorem op_modM {X : Cx} {tb : TBs} : OpR X (binaryOp .Mod) (R2M (GO X tb) modD) := by
  refine OpR.imp' (op_mod (X := X)) fun x y H Q h => ?_
  obtain ⟨d, e, hs, m, hr, rx, ry, r, hs', ef, q⟩ := h
  unfold modD at ef
  split at ef
  · split at ef
    · rename_i n
      cases rx; cases ry; cases ef
      exact ⟨_, _, rfl, rfl, by show (0 : Int) < ((n + 1 : Nat) : Int); omega, q _ _ _ .refl hr (.int _)⟩
    · cases ef
  · cases ef
def fdivD : F2
  | .int i, .int j, hs => match j with
    | .ofNat (n + 1) => if Nat.blt (n + 1) (2 ^ 9000) then some (.int (i / .ofNat (n + 1)), hs) else none
    | _ => none
  | _, _, _ => none
theorem op_fdivM {X : Cx} {tb : TBs} : OpR X (binaryOp .FloorDiv) (R2M (GO X tb) fdivD) := by
  refine OpR.imp' (op_fdivW (X := X)) fun x y H Q h => ?_
  obtain ⟨d, e, hs, m, hr, rx, ry, r, hs', ef, q⟩ := h
  unfold fdivD at ef
  split at ef
  · split at ef
    · rename_i n
      split at ef
      · rename_i hc
        cases rx; cases ry; cases ef
        exact ⟨_, _, rfl, rfl, ⟨by show (0 : Int) < ((n + 1 : Nat) : Int); omega, log2_of_blt (by decide) hc⟩, q _ _ _ .refl hr (.int _)⟩
      · cases ef
    · cases ef
  · cases ef
def powD : F2
  | .int i, .int j, hs => if (decide (0 ≤ j) && decide (j ≤ 1000000) && decide (i.natAbs < 2 ^ 64)) = true then some (.int (i ^ j.toNat), hs) else none
  | _, _, _ => none
theorem op_powM {X : Cx} {tb : TBs} : OpR X (binaryOp .Pow) (R2M (GO X tb) powD) := by
  refine OpR.imp' (op_pow (X := X)) fun x y H Q h => ?_
  obtain ⟨d, e, hs, m, hr, rx, ry, r, hs', ef, q⟩ := h
  unfold powD at ef
  split at ef
  · split at ef
    · rename_i hc
      simp only [Bool.and_eq_true, decide_eq_true_eq] at hc
      cases rx; cases ry; cases ef
      exact ⟨_, _, rfl, rfl, ⟨hc.1.1, hc.1.2, hc.2⟩, q _ _ _ .refl hr (.int _)⟩
    · cases ef
  · cases ef
def negD : F1
  | .int i, hs => some (.int (-i), hs)
  | _, _ => none
theorem un_negM {X : Cx} {tb : TBs} : UnR X (unaryOp .USub) (R1M (GO X tb) negD) := by
  refine UnR.imp' (un_neg (X := X)) fun x H Q h => ?_
  obtain ⟨d, hs, m, hr, rx, r, hs', ef, q⟩ := h
  unfold negD at ef
  split at ef
  · cases rx; cases ef
    exact ⟨_, rfl, q _ _ _ .refl hr (.int _)⟩
  · cases ef

/-! ### comparisons of ints -/
def cmpI (p : Int → Int → Bool) : F2
  | .int i, .int j, hs => some (.bl (p i j), hs)
  | _, _, _ => none
def ltD : F2 := cmpI fun i j => decide (i < j)
def leD : F2 := cmpI fun i j => decide (i ≤ j)
def gtD : F2 := cmpI fun i j => decide (j < i)
def geD : F2 := cmpI fun i j => decide (j ≤ i)
theorem r2_cmp {G : GX} {p : Int → Int → Bool} {x y : V} {H : Hp} {Q : VK} (h : R2M G (cmpI p) x y H Q) : rI0 (fun i j => .bl (p i j)) x y H Q := by
  obtain ⟨d, e, hs, m, hr, rx, ry, r, hs', ef, q⟩ := h
  unfold cmpI at ef
  split at ef
  · cases rx; cases ry; cases ef
    exact ⟨_, _, rfl, rfl, q _ _ _ .refl hr (.bl _)⟩
  · cases ef
section
variable {X : Cx} {tb : TBs}
theorem op_ltM : OpR X (compareOp .Lt) (R2M (GO X tb) ltD) := OpR.imp' (op_lt (X := X)) fun _ _ _ _ h => r2_cmp h
theorem op_leM : OpR X (compareOp .LtE) (R2M (GO X tb) leD) := OpR.imp' (op_le (X := X)) fun _ _ _ _ h => r2_cmp h
theorem op_gtM : OpR X (compareOp .Gt) (R2M (GO X tb) gtD) := OpR.imp' (op_gt (X := X)) fun _ _ _ _ h => r2_cmp h
theorem op_geM : OpR X (compareOp .GtE) (R2M (GO X tb) geD) := OpR.imp' (op_ge (X := X)) fun _ _ _ _ h => r2_cmp h
end
/-- is None, is True: by values -/
def isNonD : F1
  | .non, hs => some (.bl true, hs)
  | _, hs => some (.bl false, hs)

/-! ### equality at any depth -/
def eqL (f : D → D → Bool) : List D → List D → Bool
  | [], [] => true
  | x :: xs, y :: ys => match f x y with
    | true => eqL f xs ys
    | false => false
  | _, _ => false
def allL (f : D → Bool) : List D → Bool
  | [] => true
  | x :: xs => match f x with
    | true => allL f xs
    | false => false
def anyL (f : D → Bool) : List D → Bool
  | [] => false
  | x :: xs => match f x with
    | true => true
    | false => anyL f xs
def natsEq : List Nat → List Nat → Bool
  | [], [] => true
  | x :: xs, y :: ys => match Nat.beq x y with
    | true => natsEq xs ys
    | false => false
  | _, _ => false
theorem natsEq_iff : ∀ (a b : List Nat), natsEq a b = true ↔ a = b
  | [], [] => by simp [natsEq]
  | x :: xs, y :: ys => by
    unfold natsEq
    cases h : Nat.beq x y with
    | true => simp [natsEq_iff xs ys, Nat.eq_of_beq_eq_true h]
    | false => simp [Nat.ne_of_beq_eq_false h]
  | [], _ :: _ => by simp [natsEq]
  | _ :: _, [] => by simp [natsEq]
def strEq (a b : Str) : Bool := natsEq a.cps.toList b.cps.toList
theorem strEq_beq (a b : Str) : strEq a b = (a == b) := by
  rw [Bool.eq_iff_iff, strEq, natsEq_iff, beq_iff_eq]
  constructor
  · intro h
    cases a; cases b
    simpa using h
  · intro h; rw [h]
def intEq : Int → Int → Bool
  | .ofNat a, .ofNat b => Nat.beq a b
  | .negSucc a, .negSucc b => Nat.beq a b
  | _, _ => false
theorem intEq_beq (a b : Int) : intEq a b = (a == b) := by
  rw [Bool.eq_iff_iff, beq_iff_eq]
  cases a <;> cases b <;> simp [intEq, Int.ofNat_inj]
/-- == of flat things and tuples, n a bound of the depth -/
def deq : Nat → D → D → Bool
  | _, .int i, .int j => intEq i j
  | n + 1, .tup a, .tup b => eqL (deq n) a b
  | n + 1, .fro a, .fro b => eqL (deq n) a b
  | _, .str s, .str t => strEq s t
  | _, .bl a, .bl b => a == b
  | _, .non, .non => true
  | _, .bl a, .int j => (if a then 1 else 0) == j
  | _, .int i, .bl b => i == (if b then 1 else 0)
  | _, _, _ => false
/-- no list or dict within, no deeper than n -/
def shal : Nat → D → Bool
  | _, .int _ => true
  | n + 1, .tup a => allL (shal n) a
  | n + 1, .fro a => allL (shal n) a
  | _, .str s => PyData.strOk s
  | _, .bl _ => true
  | _, .non => true
  | _, _ => false
mutual
def pdOf : D → PyData
  | .non => .none
  | .bl b => .bool b
  | .int i => .int i
  | .str s => .str s
  | .tup ds => .tuple (pdAll ds)
  | .fro ds => .list (pdAll ds)
  | .ref _ => .none
  | .tuf _ => .none
  | .obj _ _ => .none
def pdAll : List D → List PyData
  | [] => []
  | d :: ds => pdOf d :: pdAll ds
end
theorem allL_cons {f : D → Bool} {x : D} {xs : List D} (h : allL f (x :: xs) = true) : f x = true ∧ allL f xs = true := by
  unfold allL at h
  split at h
  · rename_i e; exact ⟨e, h⟩
  · cases h
theorem allL_mem {f : D → Bool} : ∀ {xs : List D}, allL f xs = true → ∀ x ∈ xs, f x = true
  | _ :: _, h, y, hy => by
    obtain ⟨h1, h2⟩ := allL_cons h
    rcases List.mem_cons.mp hy with e | hy
    · rw [e]; exact h1
    · exact allL_mem h2 y hy
theorem dp_all {K : PySem.W.Frag} {H : Hp} {m : List Addr} {n : Nat} (ih : ∀ (d : D) (v : V), shal n d = true → Rep K H m d v → Dp K H v (pdOf d)) : ∀ (ds : List D) (vs : List V), allL (shal n) ds = true → Reps K H m ds vs → DpAll K H vs (pdAll ds)
  | [], _, _, r => by cases r; exact .nil
  | d :: ds, _, h, r => by
    obtain ⟨h1, h2⟩ := allL_cons h
    cases r with
    | cons r t => exact .cons (ih _ _ h1 r) (dp_all ih ds _ h2 t)
theorem dp_of {K : PySem.W.Frag} {H : Hp} {m : List Addr} : ∀ (n : Nat) (d : D) (v : V), shal n d = true → Rep K H m d v → Dp K H v (pdOf d)
  | n, .non, _, _, r => by cases r; exact .non
  | n, .bl b, _, _, r => by cases r; exact .bl b
  | n, .int i, _, _, r => by cases r; exact .int i
  | n, .str s, _, _, r => by cases r; exact .str s
  | n, .ref i, _, h, _ => by cases n <;> cases h
  | n, .tuf i, _, h, _ => by cases n <;> cases h
  | n, .obj _ i, _, h, _ => by cases n <;> cases h
  | 0, .tup ds, _, h, _ => by cases h
  | 0, .fro ds, _, h, _ => by cases h
  | n + 1, .tup ds, _, h, r => by
    cases r with
    | tup hx rx => exact .tup (sqt hx) (dp_all (dp_of n) ds _ h rx)
  | n + 1, .fro ds, _, h, r => by
    cases r with
    | fro hx rx => exact .lst hx.sq (dp_all (dp_of n) ds _ h rx)
theorem lay_all {n : Nat} (ih : ∀ d : D, shal n d = true → (pdOf d).canLay0 = true ∧ (pdOf d).depth ≤ n) : ∀ ds : List D, allL (shal n) ds = true → PyData.canLayAll0 (pdAll ds) = true ∧ PyData.depthAll (pdAll ds) ≤ n
  | [], _ => by simp [pdAll, PyData.canLayAll0, PyData.depthAll]
  | d :: ds, h => by
    obtain ⟨h1, h2⟩ := allL_cons h
    obtain ⟨a, b⟩ := ih d h1
    obtain ⟨a', b'⟩ := lay_all ih ds h2
    refine ⟨by simp only [pdAll, PyData.canLayAll0, a, a', Bool.and_self], ?_⟩
    simp only [pdAll, PyData.depthAll]
    omega
theorem lay_of : ∀ (n : Nat) (d : D), shal n d = true → (pdOf d).canLay0 = true ∧ (pdOf d).depth ≤ n
  | n, .non, _ => by simp [pdOf, PyData.canLay0, PyData.depth]
  | n, .bl b, _ => by simp [pdOf, PyData.canLay0, PyData.depth]
  | n, .int i, _ => by simp [pdOf, PyData.canLay0, PyData.depth]
  | n, .str s, h => by
    have h' : PyData.strOk s = true := by cases n <;> exact h
    simp [pdOf, PyData.canLay0, PyData.depth, h']
  | n, .ref i, h => by cases n <;> cases h
  | n, .tuf i, h => by cases n <;> cases h
  | n, .obj _ i, h => by cases n <;> cases h
  | 0, .tup ds, h => by cases h
  | 0, .fro ds, h => by cases h
  | n + 1, .tup ds, h => by
    obtain ⟨a, b⟩ := lay_all (lay_of n) ds h
    simp only [pdOf, PyData.canLay0, PyData.depth]
    exact ⟨a, Nat.succ_le_succ b⟩
  | n + 1, .fro ds, h => by
    obtain ⟨a, b⟩ := lay_all (lay_of n) ds h
    simp only [pdOf, PyData.canLay0, PyData.depth]
    exact ⟨a, Nat.succ_le_succ b⟩
theorem shaped_of {n : Nat} {d : D} (h : shal n d = true) (hn : n ≤ 64) : SeqAt.shaped (pdOf d) = true := by
  obtain ⟨a, b⟩ := lay_of n d h
  show ((pdOf d).canLay0 && decide ((pdOf d).depth ≤ 64)) = true
  rw [a, decide_eq_true (by omega)]; rfl
theorem eq_all {n : Nat} (ih : ∀ d e : D, shal n d = true → shal n e = true → deq n d e = PyData.eqv (pdOf d) (pdOf e)) : ∀ ds es : List D, allL (shal n) ds = true → allL (shal n) es = true → eqL (deq n) ds es = PyData.eqvAll (pdAll ds) (pdAll es)
  | [], [], _, _ => by simp [eqL, pdAll, PyData.eqvAll]
  | [], _ :: _, _, _ => by simp [eqL, pdAll, PyData.eqvAll]
  | _ :: _, [], _, _ => by simp [eqL, pdAll, PyData.eqvAll]
  | d :: ds, e :: es, h, h' => by
    obtain ⟨h1, h2⟩ := allL_cons h
    obtain ⟨h1', h2'⟩ := allL_cons h'
    have a := ih d e h1 h1'
    have b := eq_all ih ds es h2 h2'
    simp only [eqL, pdAll, PyData.eqvAll, ← a, ← b]
    cases deq n d e <;> rfl
theorem deq_eq : ∀ (n : Nat) (d e : D), shal n d = true → shal n e = true → deq n d e = PyData.eqv (pdOf d) (pdOf e)
  | 0, d, e, h, h' => by
    cases d <;> cases e <;> first | (simp [shal] at h; done) | (simp [shal] at h'; done) | simp [deq, pdOf, PyData.eqv, intEq_beq, strEq_beq]
  | n + 1, d, e, h, h' => by
    cases d with
    | tup ds =>
      cases e with
      | tup es => simpa [deq, pdOf, PyData.eqv] using eq_all (deq_eq n) ds es h h'
      | ref i => cases h'
      | tuf i => cases h'
      | obj ns i => cases h'
      | _ => simp [deq, pdOf, PyData.eqv]
    | fro ds =>
      cases e with
      | fro es => simpa [deq, pdOf, PyData.eqv] using eq_all (deq_eq n) ds es h h'
      | ref i => cases h'
      | tuf i => cases h'
      | obj ns i => cases h'
      | _ => simp [deq, pdOf, PyData.eqv]
    | ref i => cases h
    | tuf i => cases h
    | obj ns i => cases h
    | _ =>
      cases e with
      | ref i => cases h'
      | tuf i => cases h'
      | obj ns i => cases h'
      | _ => simp [deq, pdOf, PyData.eqv, intEq_beq, strEq_beq]
end Mir

/-! MirD: ==, in, tests, and, or, not, if-else, displays, subscripts, slices. -/
namespace Mir
open PySem PySem.Spec PyProof.Rows L2

/-! ### == and in -/
def eqD : F2 := fun d e hs => match d, e with
  | .int i, .int j => some (.bl (intEq i j), hs)
  | .ref i, .ref j => match at? hs i, at? hs j with
    | some (.lst a), some (.lst b) => match allL (shal 12) a, allL (shal 12) b with
      | true, true => some (.bl (eqL (deq 12) a b), hs)
      | _, _ => none
    | _, _ => none
  | d, e => match shal 12 d, shal 12 e with
    | true, true => some (.bl (deq 12 d e), hs)
    | _, _ => none
def notF (f : F2) : F2 := fun d e hs => match f d e hs with
  | some (.bl b, hs') => some (.bl (!b), hs')
  | _ => none
/-- what eqD finds -/
theorem eqD_dp {K : PySem.W.Frag} {tb : TBs} {m : List Addr} {hs hs' : Hs} {H : Hp} {d e r : D} {x y : V} (hr : HR ⟨K, tb⟩ m hs H) (rx : Rep K H m d x) (ry : Rep K H m e y) (h : eqD d e hs = some (r, hs')) :
    hs' = hs ∧ ∃ p q b, r = .bl b ∧ Dp K H x p ∧ Dp K H y q ∧ SeqAt.shaped p = true ∧ SeqAt.shaped q = true ∧ b = PyData.eqv p q := by
  unfold eqD at h
  split at h
  · cases h
    cases rx; cases ry
    exact ⟨rfl, _, _, _, rfl, .int _, .int _, by simp [SeqAt.shaped, PyData.canLay0, PyData.depth], by simp [SeqAt.shaped, PyData.canLay0, PyData.depth], by simp [PyData.eqv, intEq_beq]⟩
  · split at h
    · rename_i a b ea eb
      split at h
      · rename_i sa sb
        cases h
        cases rx with
        | ref e1 =>
          cases ry with
          | ref e2 =>
            obtain ⟨xs, hx, rx'⟩ := hr.lst e1 ea
            obtain ⟨ys, hy, ry'⟩ := hr.lst e2 eb
            have la := lay_all (lay_of 12) a sa
            have lb := lay_all (lay_of 12) b sb
            refine ⟨rfl, .list (pdAll a), .list (pdAll b), _, rfl, .lst (.of hx) (dp_all (dp_of 12) a xs sa rx'), .lst (.of hy) (dp_all (dp_of 12) b ys sb ry'), ?_, ?_, ?_⟩
            · show (PyData.canLay0 (.list (pdAll a)) && decide (PyData.depth (.list (pdAll a)) ≤ 64)) = true
              simp only [PyData.canLay0, PyData.depth, la.1, Bool.true_and]
              exact decide_eq_true (by have := la.2; omega)
            · show (PyData.canLay0 (.list (pdAll b)) && decide (PyData.depth (.list (pdAll b)) ≤ 64)) = true
              simp only [PyData.canLay0, PyData.depth, lb.1, Bool.true_and]
              exact decide_eq_true (by have := lb.2; omega)
            · simp only [PyData.eqv]
              exact eq_all (deq_eq 12) a b sa sb
      · cases h
    · cases h
  · split at h
    · rename_i sa sb
      cases h
      exact ⟨rfl, _, _, _, rfl, dp_of 12 _ _ sa rx, dp_of 12 _ _ sb ry, shaped_of sa (by decide), shaped_of sb (by decide), deq_eq 12 _ _ sa sb⟩
    · cases h
section
variable {X : Cx} {tb : TBs}
theorem op_eqM (hu : X.A.units + 64 < cLine) : OpR X (compareOp .Eq) (R2M (GO X tb) eqD) := by
  refine OpR.imp' (op_eqD hu) fun x y H Q h => ?_
  obtain ⟨d, e, hs, m, hr, rx, ry, r, hs', ef, q⟩ := h
  obtain ⟨rfl, p, p', b, rfl, h1, h2, h3, h4, rfl⟩ := eqD_dp hr rx ry ef
  exact ⟨p, p', h1, h2, h3, h4, q _ _ _ .refl hr (.bl _)⟩
theorem op_neM (hu : X.A.units + 64 < cLine) : OpR X (compareOp .NotEq) (R2M (GO X tb) (notF eqD)) := by
  refine OpR.imp' (op_neD hu) fun x y H Q h => ?_
  obtain ⟨d, e, hs, m, hr, rx, ry, r, hs', ef, q⟩ := h
  unfold notF at ef
  split at ef
  · rename_i b hs2 e2
    cases ef
    obtain ⟨rfl, p, p', b', eb, h1, h2, h3, h4, e4⟩ := eqD_dp hr rx ry e2
    cases eb
    subst e4
    exact ⟨p, p', h1, h2, h3, h4, q _ _ _ .refl hr (.bl _)⟩
  · cases ef
end
/-- x in a tuple, a list -/
def inL (x : D) (ds : List D) : Bool := anyL (fun z => deq 12 z x) ds
def inD : F2 := fun d e hs => match e with
  | .tup ds => match shal 12 d, allL (shal 12) ds with
    | true, true => some (.bl (inL d ds), hs)
    | _, _ => none
  | .ref i => match at? hs i with
    | some (.lst ds) => match shal 12 d, allL (shal 12) ds with
      | true, true => some (.bl (inL d ds), hs)
      | _, _ => none
    | _ => none
  | _ => none
theorem any_inL {d : D} (sd : shal 12 d = true) : ∀ {ds : List D}, allL (shal 12) ds = true → (pdAll ds).any (fun z => PyData.eqv z (pdOf d)) = inL d ds
  | [], _ => by simp [pdAll, inL, anyL]
  | z :: ds, h => by
    obtain ⟨h1, h2⟩ := allL_cons h
    have ih := any_inL sd h2
    have e := deq_eq 12 z d h1 sd
    simp only [inL] at ih
    simp only [pdAll, List.any_cons, inL, anyL, ← e, ih]
    cases deq 12 z d <;> rfl
theorem list_shaped {ds : List D} (h : allL (shal 12) ds = true) : SeqAt.shaped (.list (pdAll ds)) = true ∧ SeqAt.shaped (.tuple (pdAll ds)) = true := by
  have la := lay_all (lay_of 12) ds h
  constructor
  · show (PyData.canLay0 (.list (pdAll ds)) && decide (PyData.depth (.list (pdAll ds)) ≤ 64)) = true
    simp only [PyData.canLay0, PyData.depth, la.1, Bool.true_and]
    exact decide_eq_true (by have := la.2; omega)
  · show (PyData.canLay0 (.tuple (pdAll ds)) && decide (PyData.depth (.tuple (pdAll ds)) ≤ 64)) = true
    simp only [PyData.canLay0, PyData.depth, la.1, Bool.true_and]
    exact decide_eq_true (by have := la.2; omega)
def rInT (K : PySem.W.Frag) (neg : Bool) : R2 := fun x y H Q => ∃ d ds, Dp K H x d ∧ Dp K H y (.tuple ds) ∧ SeqAt.shaped d = true ∧ SeqAt.shaped (.tuple ds) = true ∧ Q (.bl (if neg then !(ds.any fun z => PyData.eqv z d) else ds.any fun z => PyData.eqv z d)) H
section
variable {X : Cx} {tb : TBs}
theorem op_inT (hu : X.A.units + 65 < cLine) : OpR X (compareOp .In) (rInT X.K false) := by
  intro pins s σ H x y v u Q I rx ry h
  obtain ⟨d, ds, hd, he, sd, se, q⟩ := h
  obtain ⟨as, r1⟩ := Dp.reads I d x v hd rx
  obtain ⟨bs, r2⟩ := Dp.reads I (.tuple ds) y u he ry
  refine SeqAt.in_tuple_reads r2 r1 (SeqAt.canLay_of_shaped se) (SeqAt.canLay_of_shaped sd) ?_ ⟨.bl _, H, I, rfl, q⟩
  have h1 := SeqAt.depth_of_shaped sd
  have h2 : min (PyData.depthAll ds) d.depth ≤ d.depth := Nat.min_le_right _ _
  omega
theorem op_notInT (hu : X.A.units + 65 < cLine) : OpR X (compareOp .NotIn) (rInT X.K true) := by
  intro pins s σ H x y v u Q I rx ry h
  obtain ⟨d, ds, hd, he, sd, se, q⟩ := h
  obtain ⟨as, r1⟩ := Dp.reads I d x v hd rx
  obtain ⟨bs, r2⟩ := Dp.reads I (.tuple ds) y u he ry
  refine SeqAt.notIn_tuple_reads r2 r1 (SeqAt.canLay_of_shaped se) (SeqAt.canLay_of_shaped sd) ?_ ⟨.bl _, H, I, rfl, q⟩
  have h1 := SeqAt.depth_of_shaped sd
  have h2 : min (PyData.depthAll ds) d.depth ≤ d.depth := Nat.min_le_right _ _
  omega
theorem inD_cases {K : PySem.W.Frag} {m : List Addr} {hs hs' : Hs} {H : Hp} {d e r : D} {x y : V} (hr : HR ⟨K, tb⟩ m hs H) (rx : Rep K H m d x) (ry : Rep K H m e y) (h : inD d e hs = some (r, hs')) :
    hs' = hs ∧ ∃ p ds, Dp K H x p ∧ SeqAt.shaped p = true ∧ ((Dp K H y (.tuple ds) ∧ SeqAt.shaped (.tuple ds) = true) ∨ (Dp K H y (.list ds) ∧ SeqAt.shaped (.list ds) = true)) ∧ r = .bl (ds.any fun z => PyData.eqv z p) := by
  unfold inD at h
  split at h
  · split at h
    · rename_i sd sl
      cases h
      cases ry with
      | tup hy ry' => exact ⟨rfl, _, _, dp_of 12 _ _ sd rx, shaped_of sd (by decide), .inl ⟨.tup (sqt hy) (dp_all (dp_of 12) _ _ sl ry'), (list_shaped sl).2⟩, by rw [any_inL sd sl]⟩
    · cases h
  · split at h
    · rename_i i ds ei
      split at h
      · rename_i sd sl
        cases h
        cases ry with
        | ref e1 =>
          obtain ⟨ys, hy, ry'⟩ := hr.lst e1 ei
          exact ⟨rfl, _, _, dp_of 12 _ _ sd rx, shaped_of sd (by decide), .inr ⟨.lst (.of hy) (dp_all (dp_of 12) _ _ sl ry'), (list_shaped sl).1⟩, by rw [any_inL sd sl]⟩
      · cases h
    · cases h
  · cases h
theorem op_inM (hu : X.A.units + 65 < cLine) : OpR X (compareOp .In) (R2M (GO X tb) inD) := by
  refine OpR.imp' ((op_inT hu).or (op_inD hu)) fun x y H Q h => ?_
  obtain ⟨d, e, hs, m, hr, rx, ry, r, hs', ef, q⟩ := h
  obtain ⟨rfl, p, ds, h1, h2, h3, rfl⟩ := inD_cases hr rx ry ef
  rcases h3 with ⟨h3, h4⟩ | ⟨h3, h4⟩
  · exact .inl ⟨p, ds, h1, h3, h2, h4, q _ _ _ .refl hr (.bl _)⟩
  · exact .inr ⟨p, ds, h1, h3, h2, h4, q _ _ _ .refl hr (.bl _)⟩
theorem op_notInM (hu : X.A.units + 65 < cLine) : OpR X (compareOp .NotIn) (R2M (GO X tb) (notF inD)) := by
  refine OpR.imp' ((op_notInT hu).or (op_notInD hu)) fun x y H Q h => ?_
  obtain ⟨d, e, hs, m, hr, rx, ry, r, hs', ef, q⟩ := h
  unfold notF at ef
  split at ef
  · rename_i b hs2 e2
    cases ef
    obtain ⟨rfl, p, ds, h1, h2, h3, h5⟩ := inD_cases hr rx ry e2
    cases h5
    rcases h3 with ⟨h3, h4⟩ | ⟨h3, h4⟩
    · exact .inl ⟨p, ds, h1, h3, h2, h4, q _ _ _ .refl hr (.bl _)⟩
    · exact .inr ⟨p, ds, h1, h3, h2, h4, q _ _ _ .refl hr (.bl _)⟩
  · cases ef
end

/-! ### expressions of operators -/
section
variable {X : Cx} {tb : TBs} {a b c : Expr} {fa fb fc : EM} {pos : Pos}
theorem m_bin {op : Operator} {f2 : F2} (ho : OpR X (binaryOp op) (R2M (GO X tb) f2)) (ha : PE X a (TM (GO X tb) fa)) (hb : PE X b (TM (GO X tb) fb)) : PE X (.BinOp a op b pos) (TM (GO X tb) (mBin f2 fa fb)) :=
  (pe_op ho ha hb).imp fun _ _ _ => tm_bin
theorem m_un {op : UnaryOp} {f1 : F1} (ho : UnR X (unaryOp op) (R1M (GO X tb) f1)) (ha : PE X a (TM (GO X tb) fa)) : PE X (.UnaryOp op a pos) (TM (GO X tb) (mUn f1 fa)) :=
  (pe_un ho ha).imp fun _ _ _ => tm_un
theorem m_cmp {op : CmpOp} {f2 : F2} (ho : OpR X (compareOp op) (R2M (GO X tb) f2)) (ha : PE X a (TM (GO X tb) fa)) (hb : PE X b (TM (GO X tb) fb)) (hm : behindInMarks op b = false := by first | exact nomark _ | rfl) : PE X (.Compare a [op] [b] pos) (TM (GO X tb) (mBin f2 fa fb)) :=
  (pe_cmpR ho ha hb hm).imp fun _ _ _ => tm_bin
/-- a value that is a bool, as a test -/
def mTest (f : EM) : BM := fun ρ hs => match f ρ hs with
  | some (.bl b, hs') => some (b, hs')
  | _ => none
theorem tb_test {G : GX} {f : EM} {σ : L2.St} {H : Hp} {Q : Bool → Hp → Prop} (h : TB G (mTest f) σ H Q) : TM G f σ H fun x H' => ∃ k, x = .bl k ∧ Q k H' := by
  obtain ⟨ρ, hs, m, sl, hr, r, hs', e, q⟩ := h
  unfold mTest at e
  split at e
  · rename_i b hs2 e2
    cases e
    exact ⟨ρ, hs, m, sl, hr, _, _, e2, fun v H' m' n' hr' rv => ⟨r, by cases rv; rfl, q H' m' n' hr'⟩⟩
  · cases e
theorem mt_cmp {op : CmpOp} {f2 : F2} (ho : OpR X (compareOp op) (R2M (GO X tb) f2)) (ha : PE X a (TM (GO X tb) fa)) (hb : PE X b (TM (GO X tb) fb)) (hm : behindInMarks op b = false := by first | exact nomark _ | rfl) : PT X (.Compare a [op] [b] pos) (TB (GO X tb) (mTest (mBin f2 fa fb))) :=
  (pt_cmpR ho ha hb hm).imp fun _ _ _ h => tm_bin (tb_test h)
/-- a op b op' c -/
def mChain (f2 f2' : F2) (fa fb fc : EM) : EM := fun ρ hs => match fa ρ hs with
  | some (d, hs1) => match fb ρ hs1 with
    | some (e, hs2) => match f2 d e hs2 with
      | some (.bl true, hs3) => match fc ρ hs3 with
        | some (g, hs4) => f2' e g hs4
        | none => none
      | some (.bl false, hs3) => some (.bl false, hs3)
      | _ => none
    | none => none
  | none => none
theorem tm_chain {G : GX} {f2 f2' : F2} {fa fb fc : EM} {σ : L2.St} {H : Hp} {Q : VK} (h : TM G (mChain f2 f2' fa fb fc) σ H Q) : tChain (R2M G f2) (R2M G f2') (TM G fa) (TM G fb) (TM G fc) σ H Q := by
  obtain ⟨ρ, hs, m, sl, hr, r, hs', e, q⟩ := h
  unfold mChain at e
  split at e
  · rename_i d hs1 e1
    split at e
    · rename_i e2 hs2 ee
      refine ⟨ρ, hs, m, sl, hr, d, hs1, e1, fun x H1 m1 n1 hr1 rx => ?_⟩
      refine ⟨ρ, hs1, m1, sl.nx hr n1, hr1, e2, hs2, ee, fun y H2 m2 n2 hr2 ry => ?_⟩
      split at e
      · rename_i hs3 e3
        refine ⟨d, e2, hs2, m2, hr2, rx.nx hr1 n2, ry, _, _, e3, fun z H3 m3 n3 hr3 rz => ⟨true, by cases rz; rfl, ?_⟩⟩
        refine iteT ?_
        split at e
        · rename_i g hs4 e4
          refine ⟨ρ, hs3, m3, ((sl.nx hr n1).nx hr1 n2).nx hr2 n3, hr3, g, hs4, e4, fun w H4 m4 n4 hr4 rw => ?_⟩
          exact ⟨e2, g, hs4, m4, hr4, (ry.nx hr2 n3).nx hr3 n4, rw, r, hs', e, fun v H' m' n' => q v H' m' ((((n1.trans n2).trans n3).trans n4).trans n')⟩
        · cases e
      · rename_i hs3 e3
        cases e
        refine ⟨d, e2, hs2, m2, hr2, rx.nx hr1 n2, ry, _, _, e3, fun z H3 m3 n3 hr3 rz => ⟨false, by cases rz; rfl, ?_⟩⟩
        refine iteF ?_
        exact q _ _ _ ((n1.trans n2).trans n3) hr3 (.bl _)
      · cases e
    · cases e
  · cases e
theorem m_chain {op op' : CmpOp} {f2 f2' : F2} (ho : OpR X (compareOp op) (R2M (GO X tb) f2)) (ho' : OpR X (compareOp op') (R2M (GO X tb) f2')) (ha : PE X a (TM (GO X tb) fa)) (hb : PE X b (TM (GO X tb) fb)) (hc : PE X c (TM (GO X tb) fc))
    (hm : lastMarks [op, op'] [b, c] = false := by with_unfolding_all rfl) : PE X (.Compare a [op, op'] [b, c] pos) (TM (GO X tb) (mChain f2 f2' fa fb fc)) := (pe_chain ho ho' ha hb hc hm).imp fun _ _ _ => tm_chain
theorem mt_chain {op op' : CmpOp} {f2 f2' : F2} (ho : OpR X (compareOp op) (R2M (GO X tb) f2)) (ho' : OpR X (compareOp op') (R2M (GO X tb) f2')) (ha : PE X a (TM (GO X tb) fa)) (hb : PE X b (TM (GO X tb) fb)) (hc : PE X c (TM (GO X tb) fc))
    (hm : lastMarks [op, op'] [b, c] = false := by with_unfolding_all rfl) : PT X (.Compare a [op, op'] [b, c] pos) (TB (GO X tb) (mTest (mChain f2 f2' fa fb fc))) := (pt_chain ho ho' ha hb hc hm).imp fun _ _ _ h => tm_chain (tb_test h)

/-! ### truth, and, or, not -/
def truD : D → Hs → Option Bool
  | .non, _ => some false
  | .bl b, _ => some b
  | .int i, _ => some (i != 0)
  | .str s, _ => if cap s.length then some ((s.length : Int) != 0) else none
  | .tup ds, _ => some (match ds with | [] => false | _ => true)
  | .fro ds, _ => some (match ds with | [] => false | _ => true)
  | .ref i, hs => match at? hs i with
    | some (.lst ds) => some (match ds with | [] => false | _ => true)
    | some (.dK kvs) => some (match kvs with | [] => false | _ => true)
    | _ => none
  | .tuf _, _ => none
  | .obj _ _, _ => none
theorem tru_of {K : PySem.W.Frag} {m : List Addr} {hs : Hs} {H : Hp} {d : D} {x : V} {k : Bool} (hr : HR ⟨K, tb⟩ m hs H) (rx : Rep K H m d x) (h : truD d hs = some k) : TruV K x H k := by
  have em : ∀ {ds : List D} {xs : List V}, Reps K H m ds xs → (match ds with | [] => false | _ => true) = !xs.isEmpty := fun {ds xs} r => by cases r <;> rfl
  cases rx with
  | non => cases h; exact rfl
  | bl b => cases h; exact rfl
  | int i => cases h; exact rfl
  | str s =>
    unfold truD at h
    split at h <;> rename_i heq
    · cases heq
    · cases heq
    · cases heq
    · cases heq
      split at h
      · rename_i hc
        cases h
        exact ⟨cap_le hc, rfl⟩
      · cases h
    · cases heq
    · cases heq
    · cases heq
    · cases heq
    · cases heq
  | ref e =>
    rename_i n a
    have h : (match at? hs n with | some (.lst ds) => some (match ds with | [] => false | _ => true) | some (.dK kvs) => some (match kvs with | [] => false | _ => true) | _ => none) = some k := h
    split at h
    · rename_i ds e2
      cases h
      obtain ⟨xs, hx, r⟩ := hr.lst e e2
      exact .inl ⟨xs, .of hx, em r⟩
    · rename_i kvs e2
      cases h
      obtain ⟨ks, hx, hk, _⟩ := hr.dK e e2
      refine .inr (.inr ⟨ks, hx, ?_⟩)
      have hl := congrArg List.length hk
      rw [List.length_map, List.length_map] at hl
      cases kvs <;> cases ks <;> first | rfl | (simp at hl)
    · cases h
  | tup hx r => cases h; exact .inr (.inl ⟨_, sqt hx, em r⟩)
  | fro hx r => cases h; exact .inl ⟨_, hx.sq, em r⟩
  | tuf hx hd r => cases h
  | obj _ _ _ _ _ => cases h
def mTru (f : EM) : BM := fun ρ hs => match f ρ hs with
  | some (d, hs') => match truD d hs' with
    | some b => some (b, hs')
    | none => none
  | none => none
theorem tb_tru {K : PySem.W.Frag} {f : EM} {σ : L2.St} {H : Hp} {Q : Bool → Hp → Prop} (h : TB ⟨K, tb⟩ (mTru f) σ H Q) : TM ⟨K, tb⟩ f σ H fun x H' => ∃ k, TruV K x H' k ∧ Q k H' := by
  obtain ⟨ρ, hs, m, sl, hr, r, hs', e, q⟩ := h
  unfold mTru at e
  split at e
  · rename_i d hs2 e2
    split at e
    · rename_i b eb
      cases e
      exact ⟨ρ, hs, m, sl, hr, _, _, e2, fun v H' m' n' hr' rv => ⟨r, tru_of hr' rv eb, q H' m' n' hr'⟩⟩
    · cases e
  · cases e
theorem mt_truth (ha : PE X a (TM (GO X tb) fa)) (he : ∀ whole, isTrue a X.env whole = (do let v ← whole; standAt a.pos; holding [v] (truthy v)) := by intro _; rfl) : PT X a (TB (GO X tb) (mTru fa)) :=
  (pt_truth ha he).imp fun _ _ _ h => tb_tru h
def mAndB (f g : BM) : BM := fun ρ hs => match f ρ hs with
  | some (true, hs') => g ρ hs'
  | some (false, hs') => some (false, hs')
  | none => none
def mOrB (f g : BM) : BM := fun ρ hs => match f ρ hs with
  | some (false, hs') => g ρ hs'
  | some (true, hs') => some (true, hs')
  | none => none
def mNotB (f : BM) : BM := fun ρ hs => match f ρ hs with
  | some (b, hs') => some (!b, hs')
  | none => none
variable {ba bb : BM} {rest : List Expr}
theorem mw_and1 {G : GX} (ha : PT X a (TB G ba)) : PW X (.BoolOp .And [a] pos) (TB G ba) := pw_and1 ha
theorem mw_or1 {G : GX} (ha : PT X a (TB G ba)) : PW X (.BoolOp .Or [a] pos) (TB G ba) := pw_or1 ha
theorem mw_and {G : GX} (ha : PT X a (TB G ba)) (hb : PW X (.BoolOp .And (b :: rest) pos) (TB G bb)) : PW X (.BoolOp .And (a :: b :: rest) pos) (TB G (mAndB ba bb)) := by
  refine (pw_and ha hb).imp fun σ H Q ⟨ρ, hs, m, sl, hr, r, hs', e, q⟩ => ?_
  unfold mAndB at e
  split at e
  · rename_i hs1 e1
    exact ⟨ρ, hs, m, sl, hr, _, _, e1, fun H' m' n' hr' => iteT ⟨ρ, hs1, m', sl.nx hr n', hr', r, hs', e, fun H2 m2 n2 => q H2 m2 (n'.trans n2)⟩⟩
  · rename_i hs1 e1
    cases e
    exact ⟨ρ, hs, m, sl, hr, _, _, e1, fun H' m' n' hr' => iteF (q H' m' n' hr')⟩
  · cases e
theorem mw_or {G : GX} (ha : PT X a (TB G ba)) (hb : PW X (.BoolOp .Or (b :: rest) pos) (TB G bb)) : PW X (.BoolOp .Or (a :: b :: rest) pos) (TB G (mOrB ba bb)) := by
  refine (pw_or ha hb).imp fun σ H Q ⟨ρ, hs, m, sl, hr, r, hs', e, q⟩ => ?_
  unfold mOrB at e
  split at e
  · rename_i hs1 e1
    exact ⟨ρ, hs, m, sl, hr, _, _, e1, fun H' m' n' hr' => iteF ⟨ρ, hs1, m', sl.nx hr n', hr', r, hs', e, fun H2 m2 n2 => q H2 m2 (n'.trans n2)⟩⟩
  · rename_i hs1 e1
    cases e
    exact ⟨ρ, hs, m, sl, hr, _, _, e1, fun H' m' n' hr' => iteT (q H' m' n' hr')⟩
  · cases e
theorem mt_not {G : GX} (ha : PT X a (TB G ba)) : PT X (.UnaryOp .Not a pos) (TB G (mNotB ba)) := by
  refine (pt_not ha).imp fun σ H Q ⟨ρ, hs, m, sl, hr, r, hs', e, q⟩ => ?_
  unfold mNotB at e
  split at e
  · rename_i b hs1 e1
    cases e
    exact ⟨ρ, hs, m, sl, hr, _, _, e1, fun H' m' n' hr' => q H' m' n' hr'⟩
  · cases e
/-- as values -/
def mAndV (f g : EM) : EM := fun ρ hs => match f ρ hs with
  | some (d, hs') => match truD d hs' with
    | some true => g ρ hs'
    | some false => some (d, hs')
    | none => none
  | none => none
def mOrV (f g : EM) : EM := fun ρ hs => match f ρ hs with
  | some (d, hs') => match truD d hs' with
    | some false => g ρ hs'
    | some true => some (d, hs')
    | none => none
  | none => none
def mNotV (f : EM) : EM := fun ρ hs => match f ρ hs with
  | some (d, hs') => match truD d hs' with
    | some b => some (.bl (!b), hs')
    | none => none
  | none => none
theorem m_one {op} {G : GX} (h : PE X a (TM G fa)) : PE X (.BoolOp op [a] pos) (TM G fa) := pe_one h
theorem m_and (ha : PE X a (TM (GO X tb) fa)) (hb : PE X (.BoolOp .And (b :: rest) pos) (TM (GO X tb) fb)) : PE X (.BoolOp .And (a :: b :: rest) pos) (TM (GO X tb) (mAndV fa fb)) := by
  refine (pe_andT ha hb).imp fun σ H Q ⟨ρ, hs, m, sl, hr, r, hs', e, q⟩ => ?_
  unfold mAndV at e
  split at e
  · rename_i d hs1 e1
    split at e
    · rename_i et
      exact ⟨ρ, hs, m, sl, hr, _, _, e1, fun v H' m' n' hr' rv => ⟨true, tru_of hr' rv et, iteT ⟨ρ, hs1, m', sl.nx hr n', hr', r, hs', e, fun v H2 m2 n2 => q v H2 m2 (n'.trans n2)⟩⟩⟩
    · rename_i et
      cases e
      exact ⟨ρ, hs, m, sl, hr, _, _, e1, fun v H' m' n' hr' rv => ⟨false, tru_of hr' rv et, iteF (q v H' m' n' hr' rv)⟩⟩
    · cases e
  · cases e
theorem m_or (ha : PE X a (TM (GO X tb) fa)) (hb : PE X (.BoolOp .Or (b :: rest) pos) (TM (GO X tb) fb)) : PE X (.BoolOp .Or (a :: b :: rest) pos) (TM (GO X tb) (mOrV fa fb)) := by
  refine (pe_orT ha hb).imp fun σ H Q ⟨ρ, hs, m, sl, hr, r, hs', e, q⟩ => ?_
  unfold mOrV at e
  split at e
  · rename_i d hs1 e1
    split at e
    · rename_i et
      exact ⟨ρ, hs, m, sl, hr, _, _, e1, fun v H' m' n' hr' rv => ⟨false, tru_of hr' rv et, iteF ⟨ρ, hs1, m', sl.nx hr n', hr', r, hs', e, fun v H2 m2 n2 => q v H2 m2 (n'.trans n2)⟩⟩⟩
    · rename_i et
      cases e
      exact ⟨ρ, hs, m, sl, hr, _, _, e1, fun v H' m' n' hr' rv => ⟨true, tru_of hr' rv et, iteT (q v H' m' n' hr' rv)⟩⟩
    · cases e
  · cases e
theorem m_not (ha : PE X a (TM (GO X tb) fa)) : PE X (.UnaryOp .Not a pos) (TM (GO X tb) (mNotV fa)) := by
  refine (pe_notT ha).imp fun σ H Q ⟨ρ, hs, m, sl, hr, r, hs', e, q⟩ => ?_
  unfold mNotV at e
  split at e
  · rename_i d hs1 e1
    split at e
    · rename_i et
      cases e
      exact ⟨ρ, hs, m, sl, hr, _, _, e1, fun v H' m' n' hr' rv => ⟨_, tru_of hr' rv et, q _ H' m' n' hr' (.bl _)⟩⟩
    · cases e
  · cases e
def mIfE (c : BM) (f g : EM) : EM := fun ρ hs => match c ρ hs with
  | some (true, hs') => f ρ hs'
  | some (false, hs') => g ρ hs'
  | none => none
theorem m_if {G : GX} (hc : PT X c (TB G ba)) (ha : PE X a (TM G fa)) (hb : PE X b (TM G fb)) : PE X (.IfExp c a b pos) (TM G (mIfE ba fa fb)) := by
  refine (pe_ifExp hc ha hb).imp fun σ H Q ⟨ρ, hs, m, sl, hr, r, hs', e, q⟩ => ?_
  unfold mIfE at e
  split at e
  · rename_i hs1 e1
    exact ⟨ρ, hs, m, sl, hr, _, _, e1, fun H' m' n' hr' => iteT ⟨ρ, hs1, m', sl.nx hr n', hr', r, hs', e, fun v H2 m2 n2 => q v H2 m2 (n'.trans n2)⟩⟩
  · rename_i hs1 e1
    exact ⟨ρ, hs, m, sl, hr, _, _, e1, fun H' m' n' hr' => iteF ⟨ρ, hs1, m', sl.nx hr n', hr', r, hs', e, fun v H2 m2 n2 => q v H2 m2 (n'.trans n2)⟩⟩
  · cases e

/-! ### argument lists, displays -/
def mNil : AM := fun _ hs => some ([], hs)
def mCons (f : EM) (g : AM) : AM := fun ρ hs => match f ρ hs with
  | some (d, hs1) => match g ρ hs1 with
    | some (ds, hs2) => some (d :: ds, hs2)
    | none => none
  | none => none
variable {e : Expr} {es : List Expr} {fe : EM} {fas : AM}
theorem ma_nil {G : GX} : PA X [] (TAm G mNil) := pa_nil.imp fun σ H Q ⟨ρ, hs, m, sl, hr, r, hs', e, q⟩ => by
  cases e
  exact q _ _ _ .refl hr .nil
theorem ma_cons {G : GX} (ha : PE X e (TM G fe)) (hr' : PA X es (TAm G fas)) (hs : starEach (e :: es) X.env = (false, eval e X.env) :: starEach es X.env := by rfl) : PA X (e :: es) (TAm G (mCons fe fas)) := by
  refine (pa_cons ha hr' hs).imp fun σ H Q ⟨ρ, hs, m, sl, hr, r, hs', e, q⟩ => ?_
  unfold mCons at e
  split at e
  · rename_i d hs1 e1
    split at e
    · rename_i ds hs2 e2
      cases e
      refine ⟨ρ, hs, m, sl, hr, _, _, e1, fun v H1 m1 n1 hr1 rv => ?_⟩
      exact ⟨ρ, hs1, m1, sl.nx hr n1, hr1, _, _, e2, fun vs H2 m2 n2 hr2 rvs => q _ H2 m2 (n1.trans n2) hr2 (.cons (rv.nx hr1 n2) rvs)⟩
    · cases e
  · cases e
def mTup (g : AM) : EM := fun ρ hs => match g ρ hs with
  | some (ds, hs') => if cap ds.length then some (.tup ds, hs') else none
  | none => none
def mLst (g : AM) : EM := fun ρ hs => match g ρ hs with
  | some (ds, hs') => if cap ds.length then some (.ref hs'.length, hs' ++ [.lst ds]) else none
  | none => none
theorem m_tup {x1} {G : GX} (h : PA X es (TAm G fas)) : PE X (.Tuple es x1 pos) (TM G (mTup fas)) := by
  refine (pe_tup h).imp fun σ H Q ⟨ρ, hs, m, sl, hr, r, hs', e, q⟩ => ?_
  unfold mTup at e
  split at e
  · rename_i ds hs1 e1
    split at e
    · rename_i hc
      cases e
      exact ⟨ρ, hs, m, sl, hr, _, _, e1, fun vs H1 m1 n1 hr1 rv => ⟨by rw [← rv.length]; exact cap_le hc, fun p hp => fin_tup hr1 rv hp fun v H' m' n' => q v H' m' (n1.trans n')⟩⟩
    · cases e
  · cases e
theorem m_lst {G : GX} (h : PA X es (TAm G fas)) : PE X (.List es pos) (TM G (mLst fas)) := by
  refine (pe_lst h).imp fun σ H Q ⟨ρ, hs, m, sl, hr, r, hs', e, q⟩ => ?_
  unfold mLst at e
  split at e
  · rename_i ds hs1 e1
    split at e
    · rename_i hc
      cases e
      exact ⟨ρ, hs, m, sl, hr, _, _, e1, fun vs H1 m1 n1 hr1 rv => ⟨by rw [← rv.length]; exact cap_le hc, fun p hp => fin_lst hr1 rv hp fun v H' m' n' => q v H' m' (n1.trans n')⟩⟩
    · cases e
  · cases e

/-! ### subscripts -/
/-- the place that an index of any sign means -/
def ixD (n : Nat) : Int → Option Nat
  | .ofNat i => if Nat.blt i n then some i else none
  | .negSucc i => if Nat.blt i n then some (n - (i + 1)) else none
theorem ixD_eq (n : Nat) (i : Int) {j : Nat} (h : ixD n i = some j) : ixN n i = some j := by
  unfold ixN
  cases i with
  | ofNat i =>
    have h : (if Nat.blt i n = true then some i else none) = some j := h
    split at h
    · rename_i hb
      have hb : i < n := Nat.le_of_ble_eq_true hb
      cases h
      have h1 : (0 : Int) ≤ (j : Nat) := by omega
      have h2 : ((j : Nat) : Int) < n := by omega
      rw [if_pos (show (0 : Int) ≤ Int.ofNat j from h1), if_pos (show (Int.ofNat j : Int) < n from h2)]
      rfl
    · cases h
  | negSucc i =>
    have h : (if Nat.blt i n = true then some (n - (i + 1)) else none) = some j := h
    split at h
    · rename_i hb
      have hb : i < n := Nat.le_of_ble_eq_true hb
      cases h
      have e : Int.negSucc i = -((i : Int) + 1) := rfl
      rw [e, if_neg (by omega), if_pos (by omega)]
      congr 1
      omega
    · cases h
def getL (ds : List D) (i : Int) : Option D := match ixD ds.length i with
  | some j => at? ds j
  | none => none
theorem getL_rep {K : PySem.W.Frag} {H : Hp} {m : List Addr} {ds : List D} {xs : List V} {i : Int} {d : D} (r : Reps K H m ds xs) (h : getL ds i = some d) : ∃ v, atI xs i = some v ∧ Rep K H m d v := by
  unfold getL at h
  split at h
  · rename_i j e
    rw [at?_eq] at h
    obtain ⟨v, h1, h2⟩ := r.get h
    refine ⟨v, ?_, h2⟩
    unfold atI
    rw [← r.length, ixD_eq _ _ e]
    exact h1
  · cases h
def ixF : F2 := fun d e hs => match e with
  | .int i => match d with
    | .tup ds => match getL ds i with
      | some x => some (x, hs)
      | none => none
    | .fro ds => match getL ds i with
      | some x => some (x, hs)
      | none => none
    | .ref n => match at? hs n with
      | some (.lst ds) => match getL ds i with
        | some x => some (x, hs)
        | none => none
      | _ => none
    | .str s => if cap s.length then match ixD s.cps.toList.length i with
      | some j => match at? s.cps.toList j with
        | some c => some (.str ⟨#[c]⟩, hs)
        | none => none
      | none => none else none
    | _ => none
  | _ => none
theorem ix_M : IxR X (R2M (GO X tb) ixF) := by
  refine IxR.imp' ((ix_list (X := X)).or (ix_tup.or ix_str)) fun x y H Q h => ?_
  obtain ⟨d, e, hs, m, hr, rx, ry, r, hs', ef, q⟩ := h
  unfold ixF at ef
  split at ef
  · rename_i i
    cases ry
    split at ef
    · rename_i ds
      split at ef
      · rename_i z ez
        cases ef
        cases rx with
        | tup hx rx' =>
          obtain ⟨v, h1, h2⟩ := getL_rep rx' ez
          exact .inr (.inl ⟨_, _, _, v, rfl, rfl, sqt hx, h1, q _ _ _ .refl hr h2⟩)
      · cases ef
    · rename_i ds
      split at ef
      · rename_i z ez
        cases ef
        cases rx with
        | fro hx rx' =>
          obtain ⟨v, h1, h2⟩ := getL_rep rx' ez
          exact .inl ⟨_, _, _, v, rfl, rfl, hx.sq, h1, q _ _ _ .refl hr h2⟩
      · cases ef
    · rename_i n
      split at ef
      · rename_i ds en
        split at ef
        · rename_i z ez
          cases ef
          cases rx with
          | ref e1 =>
            obtain ⟨xs, hx, rx'⟩ := hr.lst e1 en
            obtain ⟨v, h1, h2⟩ := getL_rep rx' ez
            exact .inl ⟨_, _, _, v, rfl, rfl, .of hx, h1, q _ _ _ .refl hr h2⟩
        · cases ef
      · cases ef
    · rename_i s
      split at ef
      · rename_i hc
        split at ef
        · rename_i j ej
          split at ef
          · rename_i c ec
            cases ef
            cases rx
            refine .inr (.inr ⟨_, _, c, rfl, rfl, cap_le hc, ?_, q _ _ _ .refl hr (.str _)⟩)
            unfold atI
            rw [ixD_eq _ _ ej]
            show s.cps.toList[j]? = some c
            rw [← at?_eq]
            exact ec
          · cases ef
        · cases ef
      · cases ef
    · cases ef
  · cases ef
theorem m_ix (ha : PE X a (TM (GO X tb) fa)) (hb : PE X b (TM (GO X tb) fb)) (hs : PlainIx b := by intro _ _; rfl) : PE X (.Subscript a b pos) (TM (GO X tb) (mBin ixF fa fb)) :=
  (pe_ix ix_M ha hb hs).imp fun _ _ _ => tm_bin

/-! ### slices -/
/-- an end of a slice, by the length -/
def sixD (n d : Nat) : Option Int → Nat
  | none => d
  | some (.ofNat i) => if Nat.ble i n then i else n
  | some (.negSucc i) => n - (i + 1)
theorem sixD_eq (n d : Nat) (o : Option Int) : sixD n d o = HT.sIx n d o := by
  cases o with
  | none => rfl
  | some v =>
    cases v with
    | ofNat i =>
      show (if Nat.ble i n = true then i else n) = if ((i : Nat) : Int) < 0 then (((i : Nat) : Int) + (n : Int)).toNat else min ((i : Nat) : Int).toNat n
      have h0 : ¬ (((i : Nat) : Int) < 0) := by omega
      rw [@ite_cond_eq_false Nat (((i : Nat) : Int) < 0) _ _ _ (eq_false h0), Int.toNat_natCast]
      by_cases h : i ≤ n
      · rw [if_pos (Nat.ble_eq.mpr h)]; omega
      · rw [if_neg (by rw [Nat.ble_eq]; exact h)]; omega
    | negSucc i =>
      show n - (i + 1) = if (Int.negSucc i : Int) < 0 then (Int.negSucc i + (n : Int)).toNat else min (Int.negSucc i : Int).toNat n
      have e : Int.negSucc i = -((i : Int) + 1) := rfl
      rw [if_pos (by rw [e]; omega), e]
      omega
def cutD {α : Type} (ds : List α) (lo hi : Option Int) : List α := (ds.drop (sixD ds.length 0 lo)).take (sixD ds.length ds.length hi - sixD ds.length 0 lo)
theorem cutD_rep {K : PySem.W.Frag} {H : Hp} {m : List Addr} {ds : List D} {xs : List V} (r : Reps K H m ds xs) (lo hi : Option Int) : Reps K H m (cutD ds lo hi) (cutV xs lo hi) := by
  unfold cutD cutV
  rw [sixD_eq, sixD_eq, r.length]
  exact (r.drop _).take _
abbrev F3 := D → Option Int → Option Int → Hs → Option (D × Hs)
def R3M (G : GX) (f : F3) : V → Option Int → Option Int → Hp → VK → Prop := fun x lo hi H Q => ∃ d hs m, HR G m hs H ∧ Rep G.K H m d x ∧ ∃ r hs', f d lo hi hs = some (r, hs') ∧ ∀ v H' m', Nx m H m' H' → HR G m' hs' H' → Rep G.K H' m' r v → Q v H'
theorem SlR.imp' {r r' : V → Option Int → Option Int → Hp → VK → Prop} (h : SlR X r) (i : ∀ x lo hi H Q, r' x lo hi H Q → r x lo hi H Q) : SlR X r' := fun pins s σ H x v vl vu lo hi sl Q I rx hs pl pu q => h pins s σ H x v vl vu lo hi sl Q I rx hs pl pu (i x lo hi H Q q)
def slF : F3 := fun d lo hi hs => match d with
  | .tup ds => some (.tup (cutD ds lo hi), hs)
  | .ref n => match at? hs n with
    | some (.lst ds) => some (.ref hs.length, hs ++ [.lst (cutD ds lo hi)])
    | _ => none
  | _ => none
theorem sl_M : SlR X (R3M (GO X tb) slF) := by
  refine SlR.imp' ((sl_tupA (X := X)).or sl_list) fun x lo hi H Q h => ?_
  obtain ⟨d, hs, m, hr, rx, r, hs', ef, q⟩ := h
  unfold slF at ef
  split at ef
  · rename_i ds
    cases ef
    cases rx with
    | tup hx rx' =>
      refine .inl ⟨_, _, rfl, sqt hx, fun hw => ?_, fun _ p hp => fin_tup hr (cutD_rep rx' lo hi) hp q⟩
      have e : cutD ds lo hi = ds := by
        unfold cutD
        rw [sixD_eq, sixD_eq, rx'.length, hw.1, hw.2, List.drop_zero, Nat.sub_zero, ← rx'.length, List.take_length]
      rw [e] at q
      exact q _ _ _ .refl hr (.tup hx rx')
  · rename_i n
    split at ef
    · rename_i ds en
      cases ef
      cases rx with
      | ref e1 =>
        obtain ⟨xs, hx, rx'⟩ := hr.lst e1 en
        exact .inr ⟨_, _, rfl, .of hx, fun p hp => fin_lst hr (cutD_rep rx' lo hi) hp q⟩
    · cases ef
  · cases ef
abbrev OM := En → Hs → Option (Option Int × Hs)
def TOm (G : GX) (f : OM) : TO := fun σ H Q => ∃ ρ hs m, SL G H m ρ σ ∧ HR G m hs H ∧ ∃ o hs', f ρ hs = some (o, hs') ∧ ∀ H' m', Nx m H m' H' → HR G m' hs' H' → Q o H'
def mNoPart : OM := fun _ hs => some (none, hs)
def mPart (f : EM) : OM := fun ρ hs => match f ρ hs with
  | some (.int i, hs') => some (some i, hs')
  | _ => none
theorem PO.imp' {o : Option Expr} {t t' : TO} (h : PO X o t) (i : ∀ σ H Q, t' σ H Q → t σ H Q) : PO X o t' := ⟨fun pins s σ H Q I q => h.run pins s σ H Q I (i σ H Q q)⟩
theorem mo_none {G : GX} : PO X none (TOm G mNoPart) := PO.imp' po_none fun σ H Q ⟨ρ, hs, m, sl, hr, o, hs', e, q⟩ => by
  cases e
  exact q _ _ .refl hr
theorem mo_some {G : GX} (h : PE X e (TM G fe)) : PO X (some e) (TOm G (mPart fe)) := PO.imp' (po_some h) fun σ H Q ⟨ρ, hs, m, sl, hr, o, hs', ee, q⟩ => by
  unfold mPart at ee
  split at ee
  · rename_i i hs1 e1
    cases ee
    exact ⟨ρ, hs, m, sl, hr, _, _, e1, fun v H' m' n' hr' rv => ⟨i, by cases rv; rfl, q H' m' n' hr'⟩⟩
  · cases ee
def mSl (f3 : F3) (f : EM) (l u : OM) : EM := fun ρ hs => match f ρ hs with
  | some (d, hs1) => match l ρ hs1 with
    | some (lo, hs2) => match u ρ hs2 with
      | some (hi, hs3) => f3 d lo hi hs3
      | none => none
    | none => none
  | none => none
theorem m_slice {lo hi : Option Expr} {fl fh : OM} {p2 : Pos} (he : PE X e (TM (GO X tb) fe)) (hl : PO X lo (TOm (GO X tb) fl)) (hu : PO X hi (TOm (GO X tb) fh)) : PE X (.Subscript e (.Slice lo hi none p2) pos) (TM (GO X tb) (mSl slF fe fl fh)) := by
  refine (pe_slice (sl_M (tb := tb)) he hl hu).imp fun σ H Q ⟨ρ, hs, m, sl, hr, r, hs', ee, q⟩ => ?_
  unfold mSl at ee
  split at ee
  · rename_i d hs1 e1
    split at ee
    · rename_i lo hs2 e2
      split at ee
      · rename_i hi hs3 e3
        refine ⟨ρ, hs, m, sl, hr, _, _, e1, fun x H1 m1 n1 hr1 rx => ?_⟩
        refine ⟨ρ, hs1, m1, sl.nx hr n1, hr1, _, _, e2, fun H2 m2 n2 hr2 => ?_⟩
        refine ⟨ρ, hs2, m2, (sl.nx hr n1).nx hr1 n2, hr2, _, _, e3, fun H3 m3 n3 hr3 => ?_⟩
        exact ⟨d, hs3, m3, hr3, (rx.nx hr1 n2).nx hr2 n3, r, hs', ee, fun v H' m' n' => q v H' m' (((n1.trans n2).trans n3).trans n')⟩
      · cases ee
    · cases ee
  · cases ee
end
end Mir

/-! MirE: quiet mirrors, what they leave is dropped; calls of defs and of built-ins. -/
namespace Mir
open PySem PySem.Spec PyProof.Rows L2

/-! ### quiet: only new things behind the heap -/
def Grows (hs hs' : Hs) : Prop := ∃ r, hs' = hs ++ r
theorem Grows.refl {hs : Hs} : Grows hs hs := ⟨[], by simp⟩
theorem Grows.trans {a b c : Hs} (x : Grows a b) (y : Grows b c) : Grows a c := by
  obtain ⟨r, rfl⟩ := x
  obtain ⟨r', rfl⟩ := y
  exact ⟨r ++ r', by rw [List.append_assoc]⟩
theorem Grows.one {hs : Hs} {o : O} : Grows hs (hs ++ [o]) := ⟨[o], rfl⟩
class QE (f : EM) : Prop where
  q : ∀ ρ hs d hs', f ρ hs = some (d, hs') → Grows hs hs'
class QB (f : BM) : Prop where
  q : ∀ ρ hs d hs', f ρ hs = some (d, hs') → Grows hs hs'
class QA (f : AM) : Prop where
  q : ∀ ρ hs d hs', f ρ hs = some (d, hs') → Grows hs hs'
class QO (f : OM) : Prop where
  q : ∀ ρ hs d hs', f ρ hs = some (d, hs') → Grows hs hs'
class Q2 (f : F2) : Prop where
  q : ∀ d e hs r hs', f d e hs = some (r, hs') → Grows hs hs'
class Q1 (f : F1) : Prop where
  q : ∀ d hs r hs', f d hs = some (r, hs') → Grows hs hs'
class Q3 (f : F3) : Prop where
  q : ∀ d lo hi hs r hs', f d lo hi hs = some (r, hs') → Grows hs hs'
abbrev FM := List D → Hs → Option (D × Hs)
class QF (f : FM) : Prop where
  q : ∀ ds hs d hs', f ds hs = some (d, hs') → Grows hs hs'

instance {i : Nat} : QE (mVar i) := ⟨fun ρ hs d hs' h => by
  unfold mVar at h
  split at h
  · cases h; exact .refl
  · cases h⟩
instance {d : D} : QE (mC d) := ⟨fun ρ hs d' hs' h => by cases h; exact .refl⟩
instance {f2 : F2} {f g : EM} [a : QE f] [b : QE g] [c : Q2 f2] : QE (mBin f2 f g) := ⟨fun ρ hs d hs' h => by
  unfold mBin at h
  split at h
  · rename_i d1 h1 e1
    split at h
    · rename_i d2 h2 e2
      exact ((a.q _ _ _ _ e1).trans (b.q _ _ _ _ e2)).trans (c.q _ _ _ _ _ h)
    · cases h
  · cases h⟩
instance {f1 : F1} {f : EM} [a : QE f] [c : Q1 f1] : QE (mUn f1 f) := ⟨fun ρ hs d hs' h => by
  unfold mUn at h
  split at h
  · rename_i d1 h1 e1
    exact (a.q _ _ _ _ e1).trans (c.q _ _ _ _ h)
  · cases h⟩
instance : Q2 addD := ⟨fun d e hs r hs' h => by
  unfold addD at h
  split at h
  · cases h; exact .refl
  · split at h
    · cases h; exact .refl
    · cases h
  · split at h
    · split at h
      · cases h; exact .one
      · cases h
    · cases h
  · split at h
    · cases h; exact .refl
    · cases h
  · cases h⟩
instance : Q2 subD := ⟨fun d e hs r hs' h => by
  unfold subD at h
  split at h
  · cases h; exact .refl
  · cases h⟩
instance : Q2 mulI := ⟨fun d e hs r hs' h => by
  unfold mulI at h
  split at h
  · split at h
    · cases h; exact .refl
    · cases h
  · cases h⟩
instance : Q2 modD := ⟨fun d e hs r hs' h => by
  unfold modD at h
  split at h
  · split at h
    · cases h; exact .refl
    · cases h
  · cases h⟩
instance : Q2 fdivD := ⟨fun d e hs r hs' h => by
  unfold fdivD at h
  split at h
  · split at h
    · split at h
      · cases h; exact .refl
      · cases h
    · cases h
  · cases h⟩
instance : Q2 powD := ⟨fun d e hs r hs' h => by
  unfold powD at h
  split at h
  · split at h
    · cases h; exact .refl
    · cases h
  · cases h⟩
instance : Q1 negD := ⟨fun d hs r hs' h => by
  unfold negD at h
  split at h
  · cases h; exact .refl
  · cases h⟩
instance {p : Int → Int → Bool} : Q2 (cmpI p) := ⟨fun d e hs r hs' h => by
  unfold cmpI at h
  split at h
  · cases h; exact .refl
  · cases h⟩
instance : Q2 ltD := inferInstanceAs (Q2 (cmpI _))
instance : Q2 leD := inferInstanceAs (Q2 (cmpI _))
instance : Q2 gtD := inferInstanceAs (Q2 (cmpI _))
instance : Q2 geD := inferInstanceAs (Q2 (cmpI _))
instance : Q2 eqD := ⟨fun d e hs r hs' h => by
  unfold eqD at h
  split at h
  · cases h; exact .refl
  · split at h
    · split at h
      · cases h; exact .refl
      · cases h
    · cases h
  · split at h
    · cases h; exact .refl
    · cases h⟩
instance : Q2 inD := ⟨fun d e hs r hs' h => by
  unfold inD at h
  split at h
  · split at h
    · cases h; exact .refl
    · cases h
  · split at h
    · split at h
      · cases h; exact .refl
      · cases h
    · cases h
  · cases h⟩
instance {f : F2} [a : Q2 f] : Q2 (notF f) := ⟨fun d e hs r hs' h => by
  unfold notF at h
  split at h
  · rename_i e1; cases h; exact a.q _ _ _ _ _ e1
  · cases h⟩
instance : Q2 ixF := ⟨fun d e hs r hs' h => by
  unfold ixF at h
  split at h
  · split at h
    · split at h
      · cases h; exact .refl
      · cases h
    · split at h
      · cases h; exact .refl
      · cases h
    · split at h
      · split at h
        · cases h; exact .refl
        · cases h
      · cases h
    · split at h
      · split at h
        · split at h
          · cases h; exact .refl
          · cases h
        · cases h
      · cases h
    · cases h
  · cases h⟩
instance : Q3 slF := ⟨fun d lo hi hs r hs' h => by
  unfold slF at h
  split at h
  · cases h; exact .refl
  · split at h
    · cases h; exact .one
    · cases h
  · cases h⟩
instance : QO mNoPart := ⟨fun ρ hs d hs' h => by cases h; exact .refl⟩
instance {f : EM} [a : QE f] : QO (mPart f) := ⟨fun ρ hs d hs' h => by
  unfold mPart at h
  split at h
  · rename_i e1; cases h; exact a.q _ _ _ _ e1
  · cases h⟩
instance {f3 : F3} {f : EM} {l u : OM} [a : QE f] [b : QO l] [c : QO u] [e : Q3 f3] : QE (mSl f3 f l u) := ⟨fun ρ hs d hs' h => by
  unfold mSl at h
  split at h
  · rename_i e1
    split at h
    · rename_i e2
      split at h
      · rename_i e3
        exact (((a.q _ _ _ _ e1).trans (b.q _ _ _ _ e2)).trans (c.q _ _ _ _ e3)).trans (e.q _ _ _ _ _ _ h)
      · cases h
    · cases h
  · cases h⟩
instance {f2 f2' : F2} {f g k : EM} [a : QE f] [b : QE g] [c : QE k] [p : Q2 f2] [p' : Q2 f2'] : QE (mChain f2 f2' f g k) := ⟨fun ρ hs d hs' h => by
  unfold mChain at h
  split at h
  · rename_i e1
    split at h
    · rename_i e2
      split at h
      · rename_i e3
        split at h
        · rename_i e4
          exact ((((a.q _ _ _ _ e1).trans (b.q _ _ _ _ e2)).trans (p.q _ _ _ _ _ e3)).trans (c.q _ _ _ _ e4)).trans (p'.q _ _ _ _ _ h)
        · cases h
      · rename_i e3
        cases h
        exact ((a.q _ _ _ _ e1).trans (b.q _ _ _ _ e2)).trans (p.q _ _ _ _ _ e3)
      · cases h
    · cases h
  · cases h⟩
instance {f : EM} [a : QE f] : QB (mTest f) := ⟨fun ρ hs d hs' h => by
  unfold mTest at h
  split at h
  · rename_i e1; cases h; exact a.q _ _ _ _ e1
  · cases h⟩
instance {f : EM} [a : QE f] : QB (mTru f) := ⟨fun ρ hs d hs' h => by
  unfold mTru at h
  split at h
  · rename_i e1
    split at h
    · cases h; exact a.q _ _ _ _ e1
    · cases h
  · cases h⟩
instance {f g : BM} [a : QB f] [b : QB g] : QB (mAndB f g) := ⟨fun ρ hs d hs' h => by
  unfold mAndB at h
  split at h
  · rename_i e1; exact (a.q _ _ _ _ e1).trans (b.q _ _ _ _ h)
  · rename_i e1; cases h; exact a.q _ _ _ _ e1
  · cases h⟩
instance {f g : BM} [a : QB f] [b : QB g] : QB (mOrB f g) := ⟨fun ρ hs d hs' h => by
  unfold mOrB at h
  split at h
  · rename_i e1; exact (a.q _ _ _ _ e1).trans (b.q _ _ _ _ h)
  · rename_i e1; cases h; exact a.q _ _ _ _ e1
  · cases h⟩
instance {f : BM} [a : QB f] : QB (mNotB f) := ⟨fun ρ hs d hs' h => by
  unfold mNotB at h
  split at h
  · rename_i e1; cases h; exact a.q _ _ _ _ e1
  · cases h⟩
instance {f g : EM} [a : QE f] [b : QE g] : QE (mAndV f g) := ⟨fun ρ hs d hs' h => by
  unfold mAndV at h
  split at h
  · rename_i e1
    split at h
    · exact (a.q _ _ _ _ e1).trans (b.q _ _ _ _ h)
    · cases h; exact a.q _ _ _ _ e1
    · cases h
  · cases h⟩
instance {f g : EM} [a : QE f] [b : QE g] : QE (mOrV f g) := ⟨fun ρ hs d hs' h => by
  unfold mOrV at h
  split at h
  · rename_i e1
    split at h
    · exact (a.q _ _ _ _ e1).trans (b.q _ _ _ _ h)
    · cases h; exact a.q _ _ _ _ e1
    · cases h
  · cases h⟩
instance {f : EM} [a : QE f] : QE (mNotV f) := ⟨fun ρ hs d hs' h => by
  unfold mNotV at h
  split at h
  · rename_i e1
    split at h
    · cases h; exact a.q _ _ _ _ e1
    · cases h
  · cases h⟩
instance {c : BM} {f g : EM} [a : QB c] [b : QE f] [e : QE g] : QE (mIfE c f g) := ⟨fun ρ hs d hs' h => by
  unfold mIfE at h
  split at h
  · rename_i e1; exact (a.q _ _ _ _ e1).trans (b.q _ _ _ _ h)
  · rename_i e1; exact (a.q _ _ _ _ e1).trans (e.q _ _ _ _ h)
  · cases h⟩
instance : QA mNil := ⟨fun ρ hs d hs' h => by cases h; exact .refl⟩
instance {f : EM} {g : AM} [a : QE f] [b : QA g] : QA (mCons f g) := ⟨fun ρ hs d hs' h => by
  unfold mCons at h
  split at h
  · rename_i e1
    split at h
    · rename_i e2; cases h; exact (a.q _ _ _ _ e1).trans (b.q _ _ _ _ e2)
    · cases h
  · cases h⟩
instance {g : AM} [a : QA g] : QE (mTup g) := ⟨fun ρ hs d hs' h => by
  unfold mTup at h
  split at h
  · rename_i e1
    split at h
    · cases h; exact a.q _ _ _ _ e1
    · cases h
  · cases h⟩
instance {g : AM} [a : QA g] : QE (mLst g) := ⟨fun ρ hs d hs' h => by
  unfold mLst at h
  split at h
  · rename_i e1
    split at h
    · cases h; exact (a.q _ _ _ _ e1).trans .one
    · cases h
  · cases h⟩

/-! ### what a quiet mirror left is dropped -/
section
variable {G : GX} {K : PySem.W.Frag} {m m' : List Addr} {hs hs' r : Hs} {H H' : Hp}
mutual
theorem Rep.cut (hm : ∃ t, m' = m ++ t) : ∀ {d : D} {v v' : V}, Rep K H m d v → Rep K H' m' d v' → Rep K H' m d v'
  | _, _, _, .non, s => by cases s; exact .non
  | _, _, _, .bl b, s => by cases s; exact .bl b
  | _, _, _, .int i, s => by cases s; exact .int i
  | _, _, _, .str x, s => by cases s; exact .str x
  | _, _, _, .ref e, s => by
    cases s with
    | ref e' =>
      obtain ⟨t, rfl⟩ := hm
      obtain ⟨h, _⟩ := List.getElem?_eq_some_iff.mp e
      rw [List.getElem?_append_left h] at e'
      exact .ref e'
  | _, _, _, .tup _ q, s => by
    cases s with
    | tup h2 q2 => exact .tup h2 (Reps.cut hm q q2)
  | _, _, _, .fro _ q, s => by
    cases s with
    | fro h2 q2 => exact .fro h2 (Reps.cut hm q q2)
  | _, _, _, .tuf _ _ q, s => by
    cases s with
    | tuf h2 d2 q2 => exact .tuf h2 d2 (Reps.cut hm q q2)
  | _, _, _, .obj _ _ _ _ q, s => by
    cases s with
    | obj h2 z2 d2 a2 q2 => exact .obj h2 z2 d2 a2 (Reps.cut hm q q2)
theorem Reps.cut (hm : ∃ t, m' = m ++ t) : ∀ {ds : List D} {vs vs' : List V}, Reps K H m ds vs → Reps K H' m' ds vs' → Reps K H' m ds vs'
  | _, _, _, .nil, s => by cases s; exact .nil
  | _, _, _, .cons q t, s => by
    cases s with
    | cons q2 t2 => exact .cons (Rep.cut hm q q2) (Reps.cut hm t t2)
end
theorem Nx.cut (n : Nx m H m' H') : Nx m H m H' := ⟨⟨[], by simp⟩, fun a h z => absurd h z, n.keep, n.there⟩
theorem HR.cut (hr : HR G m hs H) (n : Nx m H m' H') (hr' : HR G m' (hs ++ r) H') : HR G m hs H' := by
  refine ⟨hr.len, hr.nd, fun i a o e1 e2 => ?_, hr'.tab⟩
  have e2' : (hs ++ r)[i]? = some o := by
    obtain ⟨h, _⟩ := List.getElem?_eq_some_iff.mp e2
    rw [List.getElem?_append_left h]; exact e2
  have q := hr.obj i a o e1 e2
  have q' := hr'.obj i a o (n.ix e1) e2'
  cases o with
  | lst ds =>
    obtain ⟨xs, _, r1⟩ := q
    obtain ⟨ys, h2, r2⟩ := q'
    exact ⟨ys, h2, r1.cut n.pre r2⟩
  | dK ds =>
    obtain ⟨xs, _, _, r1⟩ := q
    obtain ⟨ys, h2, k2, r2⟩ := q'
    exact ⟨ys, h2, k2, r1.cut n.pre r2⟩
  | dT ds =>
    obtain ⟨xs, _, _, r1⟩ := q
    obtain ⟨ys, h2, k2, r2⟩ := q'
    exact ⟨ys, h2, k2, r1.cut n.pre r2⟩
  | opq c => exact q'
/-- a value without places stands over any heap -/
theorem pure_reps {n : Nat} (ih : ∀ (d : D) (v : V), shal n d = true → Rep K H m d v → ∀ m', Rep K H m' d v) : ∀ {ds : List D} {vs : List V}, allL (shal n) ds = true → Reps K H m ds vs → ∀ m', Reps K H m' ds vs
  | [], _, _, r, _ => by cases r; exact .nil
  | d :: ds, _, h, r, m' => by
    obtain ⟨h1, h2⟩ := allL_cons h
    cases r with
    | cons r t => exact .cons (ih _ _ h1 r m') (pure_reps ih h2 t m')
theorem Rep.pure : ∀ (n : Nat) (d : D) (v : V), shal n d = true → Rep K H m d v → ∀ m', Rep K H m' d v
  | n, .non, _, _, r, _ => by cases r; exact .non
  | n, .bl b, _, _, r, _ => by cases r; exact .bl b
  | n, .int i, _, _, r, _ => by cases r; exact .int i
  | n, .str s, _, _, r, _ => by cases r; exact .str s
  | n, .ref i, _, h, _, _ => by cases n <;> cases h
  | n, .tuf i, _, h, _, _ => by cases n <;> cases h
  | n, .obj _ i, _, h, _, _ => by cases n <;> cases h
  | 0, .tup ds, _, h, _, _ => by cases h
  | 0, .fro ds, _, h, _, _ => by cases h
  | n + 1, .tup ds, _, h, r, m' => by
    cases r with
    | tup hx rx => exact .tup hx (pure_reps (Rep.pure n) h rx m')
  | n + 1, .fro ds, _, h, r, m' => by
    cases r with
    | fro hx rx => exact .fro hx (pure_reps (Rep.pure n) h rx m')
end
/-- the value, and the heap as it was if the value is without places -/
def mQ (f : EM) : EM := fun ρ hs => match f ρ hs with
  | some (d, hs') => match shal 12 d with
    | true => some (d, hs)
    | false => some (d, hs')
  | none => none
def mQB (f : BM) : BM := fun ρ hs => match f ρ hs with
  | some (b, _) => some (b, hs)
  | none => none
theorem tm_Q {G : GX} {f : EM} [qf : QE f] {σ : L2.St} {H : Hp} {Q : VK} (h : TM G (mQ f) σ H Q) : TM G f σ H Q := by
  obtain ⟨ρ, hs, m, sl, hr, r, hs', e, q⟩ := h
  unfold mQ at e
  split at e
  · rename_i d hs1 e1
    obtain ⟨t, rfl⟩ := qf.q _ _ _ _ e1
    split at e
    · rename_i sd
      cases e
      exact ⟨ρ, _, m, sl, hr, _, _, e1, fun v H' m' n' hr' rv => q v H' m n'.cut (hr.cut n' hr') (rv.pure 12 _ _ sd m)⟩
    · cases e
      exact ⟨ρ, _, m, sl, hr, _, _, e1, q⟩
  · cases e
theorem tb_Q {G : GX} {f : BM} [qf : QB f] {σ : L2.St} {H : Hp} {Q : Bool → Hp → Prop} (h : TB G (mQB f) σ H Q) : TB G f σ H Q := by
  obtain ⟨ρ, hs, m, sl, hr, r, hs', e, q⟩ := h
  unfold mQB at e
  split at e
  · rename_i d hs1 e1
    obtain ⟨t, rfl⟩ := qf.q _ _ _ _ e1
    cases e
    exact ⟨ρ, _, m, sl, hr, _, _, e1, fun H' m' n' hr' => q H' m n'.cut (hr.cut n' hr')⟩
  · cases e
instance {f : EM} [a : QE f] : QE (mQ f) := ⟨fun ρ hs d hs' h => by
  unfold mQ at h
  split at h
  · rename_i e1
    split at h
    · cases h; exact .refl
    · cases h; exact a.q _ _ _ _ e1
  · cases h⟩
instance {f : BM} : QB (mQB f) := ⟨fun ρ hs d hs' h => by
  unfold mQB at h
  split at h
  · cases h; exact .refl
  · cases h⟩
section
variable {X : Cx} {G : GX} {e : Expr} {f : EM} {b : BM}
theorem m_Q [QE f] (h : PE X e (TM G f)) : PE X e (TM G (mQ f)) := h.imp fun _ _ _ => tm_Q
theorem mt_Q [QB b] (h : PT X e (TB G b)) : PT X e (TB G (mQB b)) := h.imp fun _ _ _ => tb_Q
end

/-! ### promises of defs -/
def spM (G : GX) (n : Nat) (F : FM) : Sp := fun vs H Q _ => vs.length = n ∧ ∃ ds hs m, HR G m hs H ∧ Reps G.K H m ds vs ∧ ∃ d hs', F ds hs = some (d, hs') ∧ ∀ v H' m', Nx m H m' H' → HR G m' hs' H' → Rep G.K H' m' d v → Q v H'
/-- a def's body as a function of its arguments; k more slots -/
def mBody (f : SM) (k : Nat) : FM := fun ds hs => match f (ds.map some ++ List.replicate k none) hs with
  | some (.nx _ hs') => some (.non, hs')
  | some (.ret d hs') => some (d, hs')
  | _ => none
theorem body_of {G : GX} {f : SM} {k : Nat} {N : List Str} {n : Nat} (hN : N.length = n + k) {vs : List V} {H : Hp} {Q : VK} {E : XK} (h : spM G n (mBody f k) vs H Q E) :
    TSM G f { nx := fun _ H' => Q .non H', rt := Q } (L2.start N vs) H := by
  obtain ⟨hl, ds, hs, m, hr, r, d, hs', e, q⟩ := h
  have sl : SL G H m (ds.map some ++ List.replicate k none) (L2.start N vs) := by
    unfold L2.start
    have hd := r.length
    refine ⟨by simp only [List.length_append, List.length_map, List.length_replicate]; omega, fun i d' ei => ?_⟩
    by_cases hi : i < ds.length
    · rw [List.getElem?_append_left (by rw [List.length_map]; exact hi), List.getElem?_map] at ei
      rw [List.getElem?_append_left (by rw [List.length_map]; omega), List.getElem?_map]
      cases e1 : ds[i]? with
      | none => rw [e1] at ei; cases ei
      | some d2 =>
        rw [e1] at ei
        cases ei
        obtain ⟨v, h1, h2⟩ := r.get e1
        exact ⟨v, by rw [h1]; rfl, h2⟩
    · rw [List.getElem?_append_right (by rw [List.length_map]; omega), List.getElem?_replicate] at ei
      split at ei <;> cases ei
  unfold mBody at e
  split at e
  · rename_i ρ' hs1 e1
    cases e
    exact ⟨_, hs, m, sl, hr, _, e1, fun σ' H' m' n' hr' _ => q .non H' m' n' hr' .non⟩
  · rename_i d' hs1 e1
    cases e
    exact ⟨_, hs, m, sl, hr, _, e1, fun v H' m' n' hr' rv => q v H' m' n' hr' rv⟩
  · cases e

/-! ### a call whose arguments are without places: the callee begins with an empty heap -/
mutual
def shD (n : Nat) : D → D
  | .ref i => .ref (n + i)
  | .tup ds => .tup (shL n ds)
  | .fro ds => .fro (shL n ds)
  | .tuf ds => .tuf (shL n ds)
  | .obj ns ds => .obj ns (shL n ds)
  | .non => .non
  | .bl b => .bl b
  | .int i => .int i
  | .str s => .str s
def shL (n : Nat) : List D → List D
  | [] => []
  | d :: ds => shD n d :: shL n ds
end
def shK (n : Nat) : List (D × D) → List (D × D)
  | [] => []
  | (k, d) :: r => (k, shD n d) :: shK n r
def shO (n : Nat) : O → O
  | .lst ds => .lst (shL n ds)
  | .dK kvs => .dK (shK n kvs)
  | .dT kvs => .dT (shK n kvs)
  | .opq c => .opq c
section
variable {G : GX} {K : PySem.W.Frag} {m m' : List Addr} {hs hs' : Hs} {H H' : Hp}
mutual
theorem Rep.sh : ∀ {d : D} {v : V}, Rep K H m' d v → Rep K H (m ++ m') (shD m.length d) v
  | _, _, .non => by unfold shD; exact .non
  | _, _, .bl b => by unfold shD; exact .bl b
  | _, _, .int i => by unfold shD; exact .int i
  | _, _, .str x => by unfold shD; exact .str x
  | _, _, .ref e => by
    unfold shD
    exact .ref (by rw [List.getElem?_append_right (by omega), Nat.add_sub_cancel_left]; exact e)
  | _, _, .tup h q => by unfold shD; exact .tup h (Reps.sh q)
  | _, _, .fro h q => by unfold shD; exact .fro h (Reps.sh q)
  | _, _, .tuf h d q => by unfold shD; exact .tuf h d (Reps.sh q)
  | _, _, .obj h z d a q => by unfold shD; exact .obj h z d a (Reps.sh q)
theorem Reps.sh : ∀ {ds : List D} {vs : List V}, Reps K H m' ds vs → Reps K H (m ++ m') (shL m.length ds) vs
  | _, _, .nil => by unfold shL; exact .nil
  | _, _, .cons q t => by unfold shL; exact .cons (Rep.sh q) (Reps.sh t)
end
theorem shK_keys (n : Nat) : ∀ kvs : List (D × D), (shK n kvs).map (·.1) = kvs.map (·.1)
  | [] => rfl
  | (k, d) :: r => by simp only [shK, List.map_cons, shK_keys n r]
theorem shK_vals (n : Nat) : ∀ kvs : List (D × D), (shK n kvs).map (·.2) = shL n (kvs.map (·.2))
  | [] => rfl
  | (k, d) :: r => by simp only [shK, shL, List.map_cons, shK_vals n r]
theorem RepO.sh {a : Addr} {o : O} (h : RepO K H m' a o) : RepO K H (m ++ m') a (shO m.length o) := by
  cases o with
  | lst ds => obtain ⟨xs, e, r⟩ := h; exact ⟨xs, e, r.sh⟩
  | dK ds => obtain ⟨xs, e, k, r⟩ := h; exact ⟨xs, e, by rw [shK_keys]; exact k, by rw [shK_vals]; exact r.sh⟩
  | dT ds => obtain ⟨xs, e, k, r⟩ := h; exact ⟨xs, e, by rw [shK_keys]; exact k, by rw [shK_vals]; exact r.sh⟩
  | opq c => exact h
theorem HR.empty (hr : HR G m hs H) : HR G [] [] H := ⟨rfl, .nil, fun i a o e => by simp at e, hr.tab⟩
/-- behind a callee that began with nothing -/
theorem HR.join (hr : HR G m hs H) (n : Nx [] H m' H') (hr' : HR G m' hs' H') : Nx m H (m ++ m') H' ∧ HR G (m ++ m') (hs ++ hs'.map (shO m.length)) H' := by
  have dj : ∀ a ∈ m, a ∉ m' := fun a ha hb => hr.no_none (n.fresh a hb (by simp)) ha
  have nx : Nx m H (m ++ m') H' := ⟨⟨m', rfl⟩, fun a h z => by
      rcases List.mem_append.mp h with h | h
      · exact absurd h z
      · exact n.fresh a h (by simp), fun a o e _ nt => n.keep a o e (by simp) nt, n.there⟩
  refine ⟨nx, ⟨by rw [List.length_append, List.length_append, List.length_map, hr.len, hr'.len], ?_, fun i a o e1 e2 => ?_, hr'.tab⟩⟩
  · rw [List.nodup_append]
    exact ⟨hr.nd, hr'.nd, fun a ha b hb e => dj a ha (e ▸ hb)⟩
  · by_cases hi : i < m.length
    · rw [List.getElem?_append_left hi] at e1
      rw [List.getElem?_append_left (by rw [← hr.len]; exact hi)] at e2
      have q := hr.obj i a o e1 e2
      obtain ⟨w, hw, _, _, nt, _⟩ := q.some
      exact q.nx hr nx ((n.keep a w hw (by simp) nt).trans hw.symm)
    · rw [List.getElem?_append_right (by omega)] at e1
      rw [List.getElem?_append_right (by rw [← hr.len]; omega), List.getElem?_map, ← hr.len] at e2
      cases z : hs'[i - m.length]? with
      | none => rw [z] at e2; cases e2
      | some o' =>
        rw [z] at e2
        cases e2
        exact (hr'.obj _ a o' e1 z).sh
end
def FP (F : FM) : FM := fun ds hs => match allL (shal 12) ds with
  | true => match F ds [] with
    | some (d, hs') => match shal 12 d with
      | true => some (d, hs)
      | false => some (shD hs.length d, hs ++ hs'.map (shO hs.length))
    | none => none
  | false => none
instance {F : FM} : QF (FP F) := ⟨fun ds hs d hs' h => by
  unfold FP at h
  split at h
  · split at h
    · split at h
      · cases h; exact .refl
      · cases h; exact ⟨_, rfl⟩
    · cases h
  · cases h⟩
theorem spM_FP {G : GX} {n : Nat} {F : FM} {vs : List V} {H : Hp} {Q : VK} {E : XK} (h : spM G n (FP F) vs H Q E) : spM G n F vs H Q E := by
  obtain ⟨hl, ds, hs, m, hr, r, d, hs', e, q⟩ := h
  unfold FP at e
  split at e
  · rename_i sd
    split at e
    · rename_i d1 hs1 e1
      have r0 : Reps G.K H [] ds vs := pure_reps (Rep.pure 12) sd r []
      refine ⟨hl, ds, [], [], hr.empty, r0, d1, hs1, e1, fun v H' m' n' hr' rv => ?_⟩
      split at e
      · rename_i s1
        cases e
        obtain ⟨nx, hr2⟩ := hr.join n' hr'
        exact q v H' m nx.cut (hr.cut nx hr2) (rv.pure 12 _ _ s1 m)
      · cases e
        obtain ⟨nx, hr2⟩ := hr.join n' hr'
        rw [hr.len] at hr2
        have rv2 : Rep G.K H' (m ++ m') (shD m.length d1) v := rv.sh
        rw [hr.len] at rv2
        exact q v H' (m ++ m') nx hr2 rv2
    · cases e
  · cases e
def mCall (F : FM) (g : AM) : EM := fun ρ hs => match g ρ hs with
  | some (ds, hs1) => F ds hs1
  | none => none
instance {F : FM} {g : AM} [a : QA g] [b : QF F] : QE (mCall F g) := ⟨fun ρ hs d hs' h => by
  unfold mCall at h
  split at h
  · rename_i e1; exact (a.q _ _ _ _ e1).trans (b.q _ _ _ _ h)
  · cases h⟩
section
variable {X : Cx} {tb : TBs} {CX : CXT} {k n : Nat} {f : Addr} {fd : FuncData} {ps : List Str} {F : FM} {g : AM} {E : XK} {x : Str} {p pos : Pos} {e : Expr} {es : List Expr}
theorem tm_call {G : GX} {F : FM} {g : AM} {n : Nat} {dvs : List V} {dds : List D} {E : XK} {σ : L2.St} {H : Hp} {Q : VK} (hd : ∀ H m, Reps G.K H m dds dvs) (hn : ∀ ρ hs ds hs', g ρ hs = some (ds, hs') → ds.length + dds.length = n)
    (h : TM G (mCall (fun ds => F (ds ++ dds)) g) σ H Q) : tCall (spM G n F) dvs E (TAm G g) σ H Q := by
  obtain ⟨ρ, hs, m, sl, hr, r, hs', ee, q⟩ := h
  unfold mCall at ee
  split at ee
  · rename_i ds hs1 e1
    refine ⟨ρ, hs, m, sl, hr, _, _, e1, fun vs H1 m1 n1 hr1 rv => ?_⟩
    have rd := hd H1 m1
    refine ⟨by rw [List.length_append, ← rv.length, ← rd.length]; exact hn _ _ _ _ e1, ds ++ dds, hs1, m1, hr1, rv.append rd, r, hs', ee, fun v H' m' n' => q v H' m' (n1.trans n')⟩
  · cases ee
/-- the number of the arguments -/
class AN (g : AM) (n : outParam Nat) : Prop where
  n : ∀ ρ hs ds hs', g ρ hs = some (ds, hs') → ds.length = n
instance : AN mNil 0 := ⟨fun ρ hs ds hs' h => by cases h; rfl⟩
instance {f : EM} {g : AM} {n : Nat} [a : AN g n] : AN (mCons f g) (n + 1) := ⟨fun ρ hs ds hs' h => by
  unfold mCons at h
  split at h
  · split at h
    · rename_i e2; cases h; rw [List.length_cons, a.n _ _ _ _ e2]
    · cases h
  · cases h⟩
theorem tm_call0 {G : GX} {F : FM} {g : AM} {n : Nat} [a : AN g n] {E : XK} {σ : L2.St} {H : Hp} {Q : VK} (h : TM G (mCall F g) σ H Q) : tCall (spM G n F) [] E (TAm G g) σ H Q := by
  refine tm_call (dds := []) (fun _ _ => .nil) (fun ρ hs ds hs' e => ?_) ?_
  · exact a.n _ _ _ _ e
  · have e : (fun ds : List D => F (ds ++ [])) = F := by funext ds; rw [List.append_nil]
    rw [e]; exact h
/-- f(e, ..) -/
theorem m_call {a : Nat} [AN g a] (FO : FnOk X.prog X.w X.K X.mg X.base CX0 k f fd ps (spM (GO X tb) a F)) (hr : Room k X.A) (hg : Gl X x) (hm : X.mg x = some (.ref f)) (hk : PySem.W.keepIn X.K (.ref f) = true) (hb : Binds X.K fd ps [])
    (ha : PA X (e :: es) (TAm (GO X tb) g)) (hdb : (x == ("__debug__" : Str)) = false := by decide) (he : starEach (e :: es) X.env = (false, eval e X.env) :: starEach es X.env := by rfl) (hpl : (backTo pos (starEach es X.env)).any (·.1) = false := by rfl) :
    PE X (.Call (.Name x p) (e :: es) [] pos) (TM (GO X tb) (mCall F g)) :=
  (pe_call FO hr hg hm hk hb .nil pass0 ha hdb he hpl).imp fun _ _ _ => tm_call0
/-- .. whose last parameters take their defaults -/
theorem m_callD {a : Nat} [an : AN g a] {dvs : List V} {ds : List Value} {dds : List D} {b : Nat} (FO : FnOk X.prog X.w X.K X.mg X.base CX0 k f fd ps (spM (GO X tb) b F)) (hr : Room k X.A) (hg : Gl X x) (hm : X.mg x = some (.ref f)) (hk : PySem.W.keepIn X.K (.ref f) = true) (hb : Binds X.K fd ps ds)
    (hd : Vals dvs ds) (hdd : ∀ H m, Reps X.K H m dds dvs) (hab : a + dds.length = b) (ha : PA X (e :: es) (TAm (GO X tb) g)) (hdb : (x == ("__debug__" : Str)) = false := by decide) (he : starEach (e :: es) X.env = (false, eval e X.env) :: starEach es X.env := by rfl) (hpl : (backTo pos (starEach es X.env)).any (·.1) = false := by rfl) :
    PE X (.Call (.Name x p) (e :: es) [] pos) (TM (GO X tb) (mCall (fun ds => F (ds ++ dds)) g)) :=
  (pe_call FO hr hg hm hk hb hd pass0 ha hdb he hpl).imp fun _ _ _ => tm_call hdd fun _ _ _ _ ee => by rw [an.n _ _ _ _ ee]; exact hab
end
instance {F : FM} {dds : List D} [b : QF F] : QF (fun ds => F (ds ++ dds)) := ⟨fun ds hs d hs' h => b.q _ _ _ _ h⟩

/-! ### calls of built-ins -/
def RLM (G : GX) (g : FM) : List V → Hp → VK → Prop := fun vs H Q => ∃ ds hs m, HR G m hs H ∧ Reps G.K H m ds vs ∧ ∃ d hs', g ds hs = some (d, hs') ∧ ∀ v H' m', Nx m H m' H' → HR G m' hs' H' → Rep G.K H' m' d v → Q v H'
theorem CallR.imp' {X : Cx} {f : Value} {r r' : List V → Hp → VK → Prop} (h : CallR X f r) (i : ∀ xs H Q, r' xs H Q → r xs H Q) : CallR X f r' := fun pins s σ H xs us Q I r q => h pins s σ H xs us Q I r (i xs H Q q)
theorem CallR.or' {X : Cx} {f : Value} {r r' : List V → Hp → VK → Prop} (h : CallR X f r) (h' : CallR X f r') : CallR X f (fun xs H Q => r xs H Q ∨ r' xs H Q) := fun pins s σ H xs us Q I rr q => q.elim (h pins s σ H xs us Q I rr) (h' pins s σ H xs us Q I rr)
theorem tm_callB {G : GX} {F : FM} {g : AM} {σ : L2.St} {H : Hp} {Q : VK} (h : TM G (mCall F g) σ H Q) : tCB (RLM G F) (TAm G g) σ H Q := by
  obtain ⟨ρ, hs, m, sl, hr, r, hs', ee, q⟩ := h
  unfold mCall at ee
  split at ee
  · rename_i ds hs1 e1
    exact ⟨ρ, hs, m, sl, hr, _, _, e1, fun vs H1 m1 n1 hr1 rv => ⟨ds, hs1, m1, hr1, rv, r, hs', ee, fun v H' m' n' => q v H' m' (n1.trans n')⟩⟩
  · cases ee
section
variable {X : Cx} {tb : TBs} {F : FM} {g : AM} {x : Str} {id T : String} {p pos : Pos} {e : Expr} {es : List Expr}
theorem m_callB (hc : CallR X (.builtin id) (RLM (GO X tb) F)) (hg : Gl X x) (hm : X.mg x = none) (hv : bootBuiltins x = some (.builtin id)) (ha : PA X (e :: es) (TAm (GO X tb) g)) (hn : x ≠ "__name__" := by decide) (hdb : (x == ("__debug__" : Str)) = false := by decide)
    (he : starEach (e :: es) X.env = (false, eval e X.env) :: starEach es X.env := by rfl) (hpl : (backTo pos (starEach es X.env)).any (·.1) = false := by rfl) : PE X (.Call (.Name x p) (e :: es) [] pos) (TM (GO X tb) (mCall F g)) :=
  (pe_callB hc hg hm hv ha hn hdb he hpl).imp fun _ _ _ => tm_callB
theorem m_callTy (hc : CallR X (.type T) (RLM (GO X tb) F)) (hg : Gl X x) (hm : X.mg x = none) (hv : bootBuiltins x = some (.type T)) (ha : PA X (e :: es) (TAm (GO X tb) g)) (hn : x ≠ "__name__" := by decide) (hdb : (x == ("__debug__" : Str)) = false := by decide)
    (he : starEach (e :: es) X.env = (false, eval e X.env) :: starEach es X.env := by rfl) (hpl : (backTo pos (starEach es X.env)).any (·.1) = false := by rfl) : PE X (.Call (.Name x p) (e :: es) [] pos) (TM (GO X tb) (mCall F g)) :=
  (pe_callTy hc hg hm hv ha hn hdb he hpl).imp fun _ _ _ => tm_callB
end
def lenL : FM := fun ds hs => match ds with
  | [.tup a] => some (.int a.length, hs)
  | [.fro a] => some (.int a.length, hs)
  | [.str s] => if cap s.length then some (.int s.length, hs) else none
  | [.ref i] => match at? hs i with
    | some (.lst a) => some (.int a.length, hs)
    | some (.dT a) => some (.int a.length, hs)
    | _ => none
  | _ => none
instance : QF lenL := ⟨fun ds hs d hs' h => by
  unfold lenL at h
  split at h
  · cases h; exact .refl
  · cases h; exact .refl
  · split at h
    · cases h; exact .refl
    · cases h
  · split at h
    · cases h; exact .refl
    · cases h; exact .refl
    · cases h
  · cases h⟩
theorem reps1 {K : PySem.W.Frag} {H : Hp} {m : List Addr} {d : D} {vs : List V} (r : Reps K H m [d] vs) : ∃ v, vs = [v] ∧ Rep K H m d v := by
  cases r with
  | cons r t => cases t; exact ⟨_, rfl, r⟩
theorem reps2 {K : PySem.W.Frag} {H : Hp} {m : List Addr} {d e : D} {vs : List V} (r : Reps K H m [d, e] vs) : ∃ v w, vs = [v, w] ∧ Rep K H m d v ∧ Rep K H m e w := by
  cases r with
  | cons r t =>
    obtain ⟨w, rfl, r2⟩ := reps1 t
    exact ⟨_, w, rfl, r, r2⟩
theorem cr_len {X : Cx} {tb : TBs} : CallR X (.builtin "len") (RLM (GO X tb) lenL) := by
  refine CallR.imp' (CallR.or' (call_len (X := X)) call_len_dT) fun vs H Q h => ?_
  obtain ⟨ds, hs, m, hr, r, d, hs', e, q⟩ := h
  unfold lenL at e
  split at e
  · cases e
    obtain ⟨v, rfl, rv⟩ := reps1 r
    cases rv with
    | tup hx rx => exact .inl ⟨_, _, rfl, .inr ⟨_, sqt hx, rfl⟩, by rw [← rx.length]; exact q _ _ _ .refl hr (.int _)⟩
  · cases e
    obtain ⟨v, rfl, rv⟩ := reps1 r
    cases rv with
    | fro hx rx => exact .inl ⟨_, _, rfl, .inl ⟨_, hx.sq, rfl⟩, by rw [← rx.length]; exact q _ _ _ .refl hr (.int _)⟩
  · split at e
    · rename_i hc
      cases e
      obtain ⟨v, rfl, rv⟩ := reps1 r
      cases rv
      exact .inl ⟨_, _, rfl, ⟨cap_le hc, rfl⟩, q _ _ _ .refl hr (.int _)⟩
    · cases e
  · split at e
    · rename_i ei
      cases e
      obtain ⟨v, rfl, rv⟩ := reps1 r
      cases rv with
      | ref e1 =>
        obtain ⟨xs, hx, rx⟩ := hr.lst e1 ei
        exact .inl ⟨_, _, rfl, .inl ⟨_, .of hx, rfl⟩, by rw [← rx.length]; exact q _ _ _ .refl hr (.int _)⟩
    · rename_i a ei
      cases e
      obtain ⟨v, rfl, rv⟩ := reps1 r
      cases rv with
      | ref e1 =>
        obtain ⟨ks, hx, hk, rx⟩ := hr.dT e1 ei
        have hl := congrArg List.length hk
        rw [List.length_map, List.length_map] at hl
        exact .inr ⟨_, _, rfl, hx, by rw [← hl]; exact q _ _ _ .refl hr (.int _)⟩
    · cases e
  · cases e
/-- tuple(x), list(x) -/
def tupL : FM := fun ds hs => match ds with
  | [.tup a] => some (.tup a, hs)
  | [.fro a] => some (.tup a, hs)
  | [.ref i] => match at? hs i with
    | some (.lst a) => some (.tup a, hs)
    | _ => none
  | _ => none
def lstL : FM := fun ds hs => match ds with
  | [.tup a] => some (.ref hs.length, hs ++ [.lst a])
  | [.fro a] => some (.ref hs.length, hs ++ [.lst a])
  | [.ref i] => match at? hs i with
    | some (.lst a) => some (.ref hs.length, hs ++ [.lst a])
    | _ => none
  | _ => none
instance : QF tupL := ⟨fun ds hs d hs' h => by
  unfold tupL at h
  split at h
  · cases h; exact .refl
  · cases h; exact .refl
  · split at h
    · cases h; exact .refl
    · cases h
  · cases h⟩
instance : QF lstL := ⟨fun ds hs d hs' h => by
  unfold lstL at h
  split at h
  · cases h; exact .one
  · cases h; exact .one
  · split at h
    · cases h; exact .one
    · cases h
  · cases h⟩
theorem cr_tup {X : Cx} {tb : TBs} : CallR X (.type "tuple") (RLM (GO X tb) tupL) := by
  refine CallR.imp' (call_tuple_of (X := X)) fun vs H Q h => ?_
  obtain ⟨ds, hs, m, hr, r, d, hs', e, q⟩ := h
  unfold tupL at e
  split at e
  · cases e
    obtain ⟨v, rfl, rv⟩ := reps1 r
    cases rv with
    | tup hx rx => exact ⟨_, _, rfl, .inr ⟨sqt hx, q _ _ _ .refl hr (.tup hx rx)⟩⟩
  · cases e
    obtain ⟨v, rfl, rv⟩ := reps1 r
    cases rv with
    | fro hx rx => exact ⟨_, _, rfl, .inl ⟨hx.sq, fun p hp => fin_tup hr rx hp q⟩⟩
  · split at e
    · rename_i ei
      cases e
      obtain ⟨v, rfl, rv⟩ := reps1 r
      cases rv with
      | ref e1 =>
        obtain ⟨xs, hx, rx⟩ := hr.lst e1 ei
        exact ⟨_, _, rfl, .inl ⟨.of hx, fun p hp => fin_tup hr rx hp q⟩⟩
    · cases e
  · cases e
theorem cr_lst {X : Cx} {tb : TBs} : CallR X (.type "list") (RLM (GO X tb) lstL) := by
  refine CallR.imp' (call_list_of (X := X)) fun vs H Q h => ?_
  obtain ⟨ds, hs, m, hr, r, d, hs', e, q⟩ := h
  unfold lstL at e
  split at e
  · cases e
    obtain ⟨v, rfl, rv⟩ := reps1 r
    cases rv with
    | tup hx rx => exact ⟨_, _, rfl, .inr (sqt hx), fun p hp => fin_lst hr rx hp q⟩
  · cases e
    obtain ⟨v, rfl, rv⟩ := reps1 r
    cases rv with
    | fro hx rx => exact ⟨_, _, rfl, .inl hx.sq, fun p hp => fin_lst hr rx hp q⟩
  · split at e
    · rename_i ei
      cases e
      obtain ⟨v, rfl, rv⟩ := reps1 r
      cases rv with
      | ref e1 =>
        obtain ⟨xs, hx, rx⟩ := hr.lst e1 ei
        exact ⟨_, _, rfl, .inl (.of hx), fun p hp => fin_lst hr rx hp q⟩
    · cases e
  · cases e
/-- ints of a list -/
def intsOf : List D → Option (List Int)
  | [] => some []
  | .int i :: r => match intsOf r with
    | some l => some (i :: l)
    | none => none
  | _ => none
theorem intsOf_eq : ∀ {ds : List D} {ns : List Int}, intsOf ds = some ns → ds = ns.map D.int
  | [], _, h => by cases h; rfl
  | .int i :: r, ns, h => by
    unfold intsOf at h
    split at h
    · rename_i l e
      cases h
      rw [intsOf_eq e]; rfl
    · cases h
  | .non :: _, _, h => by simp [intsOf] at h
  | .bl _ :: _, _, h => by simp [intsOf] at h
  | .str _ :: _, _, h => by simp [intsOf] at h
  | .tup _ :: _, _, h => by simp [intsOf] at h
  | .fro _ :: _, _, h => by simp [intsOf] at h
  | .tuf _ :: _, _, h => by simp [intsOf] at h
  | .obj _ _ :: _, _, h => by simp [intsOf] at h
  | .ref _ :: _, _, h => by simp [intsOf] at h
def sumI : List Int → Int
  | [] => 0
  | i :: r => i + sumI r
theorem sumI_eq : ∀ l : List Int, sumI l = l.sum
  | [] => rfl
  | i :: r => by simp [sumI, sumI_eq r]
def rSumT (K : PySem.W.Frag) : List V → Hp → VK → Prop := fun vs H Q => ∃ (a : Addr) (ns : List Int), vs = [V.ref a] ∧ SqT K H a (ns.map V.int) ∧ Q (.int ns.sum) H
theorem cr_sumT {X : Cx} (hc : X.calm = true) : CallR X (.builtin "sum") (rSumT X.K) := by
  intro pins s σ H vs us Q I r h
  obtain ⟨a, ns, rfl, hs, q⟩ := h
  obtain ⟨its, rv, hl, _⟩ := I.tuple hs
  rw [Vals.ref1 r]
  obtain ⟨xs, e⟩ := rv.ints.allInts.items
  have hn : numsOf (intItems xs).toList = ns := by rw [← e]; exact rv.ints.numsOf
  rw [nums_intItems] at hn
  have hl' : s.heap.IsTuple a (intItems xs) := by rw [← e]; exact hl
  refine PySem.W.ktm_sumG (I.ok.hd hc) hl' fun h' tk t' hk => ?_
  rw [preSum_eq, List.take_of_length_le (by simp), hn]
  exact ⟨.int _, H, I.kept hk, ⟨_, rfl⟩, q⟩
def sumL : FM := fun ds hs => match ds with
  | [.ref i] => match at? hs i with
    | some (.lst a) => match intsOf a with
      | some ns => some (.int (sumI ns), hs)
      | none => none
    | _ => none
  | [.tup a] => match intsOf a with
    | some ns => some (.int (sumI ns), hs)
    | none => none
  | _ => none
instance : QF sumL := ⟨fun ds hs d hs' h => by
  unfold sumL at h
  split at h
  · split at h
    · split at h
      · cases h; exact .refl
      · cases h
    · cases h
  · split at h
    · cases h; exact .refl
    · cases h
  · cases h⟩
theorem cr_sumM {X : Cx} {tb : TBs} (hc : X.calm = true) : CallR X (.builtin "sum") (RLM (GO X tb) sumL) := by
  refine CallR.imp' (CallR.or' (cr_sum hc) (cr_sumT hc)) fun vs H Q h => ?_
  obtain ⟨ds, hs, m, hr, r, d, hs', e, q⟩ := h
  unfold sumL at e
  split at e
  · split at e
    · rename_i ei
      split at e
      · rename_i ns en
        cases e
        obtain ⟨v, rfl, rv⟩ := reps1 r
        cases rv with
        | ref e1 =>
          obtain ⟨xs, hx, rx⟩ := hr.lst e1 ei
          rw [intsOf_eq en] at rx
          have ex := rx.ints
          subst ex
          exact .inl ⟨_, ns, rfl, .of hx, by rw [← sumI_eq]; exact q _ _ _ .refl hr (.int _)⟩
      · cases e
    · cases e
  · split at e
    · rename_i ns en
      cases e
      obtain ⟨v, rfl, rv⟩ := reps1 r
      cases rv with
      | tup hx rx =>
        rw [intsOf_eq en] at rx
        have ex := rx.ints
        subst ex
        exact .inr ⟨_, ns, rfl, sqt hx, by rw [← sumI_eq]; exact q _ _ _ .refl hr (.int _)⟩
    · cases e
  · cases e
def abs1 : FM := fun ds hs => match ds with
  | [.int i] => some (.int (if i < 0 then -i else i), hs)
  | _ => none
def int1 : FM := fun ds hs => match ds with
  | [.int i] => some (.int i, hs)
  | [.bl b] => some (.int (if b then 1 else 0), hs)
  | _ => none
def max2 : FM := fun ds hs => match ds with
  | [.int i, .int j] => some (.int (if j > i then j else i), hs)
  | _ => none
def min2 : FM := fun ds hs => match ds with
  | [.int i, .int j] => some (.int (if j < i then j else i), hs)
  | _ => none
instance : QF abs1 := ⟨fun ds hs d hs' h => by
  unfold abs1 at h
  split at h
  · cases h; exact .refl
  · cases h⟩
instance : QF int1 := ⟨fun ds hs d hs' h => by
  unfold int1 at h
  split at h
  · cases h; exact .refl
  · cases h; exact .refl
  · cases h⟩
instance : QF max2 := ⟨fun ds hs d hs' h => by
  unfold max2 at h
  split at h
  · cases h; exact .refl
  · cases h⟩
instance : QF min2 := ⟨fun ds hs d hs' h => by
  unfold min2 at h
  split at h
  · cases h; exact .refl
  · cases h⟩
theorem cr_abs {X : Cx} {tb : TBs} : CallR X (.builtin "abs") (RLM (GO X tb) abs1) := by
  refine CallR.imp' (call_abs (X := X)) fun vs H Q h => ?_
  obtain ⟨ds, hs, m, hr, r, d, hs', e, q⟩ := h
  unfold abs1 at e
  split at e
  · cases e
    obtain ⟨v, rfl, rv⟩ := reps1 r
    cases rv
    exact ⟨_, rfl, q _ _ _ .refl hr (.int _)⟩
  · cases e
theorem cr_int {X : Cx} {tb : TBs} : CallR X (.type "int") (RLM (GO X tb) int1) := by
  refine CallR.imp' (call_int1 (X := X)) fun vs H Q h => ?_
  obtain ⟨ds, hs, m, hr, r, d, hs', e, q⟩ := h
  unfold int1 at e
  split at e
  · cases e
    obtain ⟨v, rfl, rv⟩ := reps1 r
    cases rv
    exact .inl ⟨_, rfl, q _ _ _ .refl hr (.int _)⟩
  · cases e
    obtain ⟨v, rfl, rv⟩ := reps1 r
    cases rv
    exact .inr ⟨_, rfl, q _ _ _ .refl hr (.int _)⟩
  · cases e
theorem cr_max2 {X : Cx} {tb : TBs} (hc : X.calm = true) : CallR X (.builtin "max") (RLM (GO X tb) max2) := by
  refine CallR.imp' (call_max2 hc) fun vs H Q h => ?_
  obtain ⟨ds, hs, m, hr, r, d, hs', e, q⟩ := h
  unfold max2 at e
  split at e
  · cases e
    obtain ⟨v, w, rfl, rv, rw⟩ := reps2 r
    cases rv; cases rw
    exact ⟨_, _, rfl, q _ _ _ .refl hr (.int _)⟩
  · cases e
theorem cr_min2 {X : Cx} {tb : TBs} (hc : X.calm = true) : CallR X (.builtin "min") (RLM (GO X tb) min2) := by
  refine CallR.imp' (call_min2 hc) fun vs H Q h => ?_
  obtain ⟨ds, hs, m, hr, r, d, hs', e, q⟩ := h
  unfold min2 at e
  split at e
  · cases e
    obtain ⟨v, w, rfl, rv, rw⟩ := reps2 r
    cases rv; cases rw
    exact ⟨_, _, rfl, q _ _ _ .refl hr (.int _)⟩
  · cases e
end Mir

/-! MirF: targets, what is walked, comprehensions, for. -/
namespace Mir
open PySem PySem.Spec PyProof.Rows L2

/-! ### targets -/
abbrev GM := D → En → Option En
/-- all slots but those at ts are as they were -/
structure Off (ts : List Nat) (σ σ' : L2.St) : Prop where
  len : σ'.length = σ.length
  same : ∀ i, i ∉ ts → σ'[i]? = σ[i]?
theorem Off.refl {ts : List Nat} {σ : L2.St} : Off ts σ σ := ⟨rfl, fun _ _ => rfl⟩
theorem Off.set {ts : List Nat} {σ : L2.St} {i : Nat} {v : Option V} (h : i ∈ ts) : Off ts σ (σ.set i v) :=
  ⟨by rw [List.length_set], fun j hj => List.getElem?_set_ne (fun e => hj (by rw [← e]; exact h))⟩
theorem Off.trans {ts : List Nat} {a b c : L2.St} (x : Off ts a b) (y : Off ts b c) : Off ts a c := ⟨y.len.trans x.len, fun i h => (y.same i h).trans (x.same i h)⟩
theorem Off.mono {ts us : List Nat} {a b : L2.St} (x : Off ts a b) (h : ∀ i ∈ ts, i ∈ us) : Off us a b := ⟨x.len, fun i hi => x.same i fun z => hi (h i z)⟩
def TGM (G : GX) (ts : List Nat) (g : GM) : TG := fun v σ H Q => ∃ d ρ hs m, SL G H m ρ σ ∧ HR G m hs H ∧ Rep G.K H m d v ∧ ∃ ρ', g d ρ = some ρ' ∧ ∀ σ', SL G H m ρ' σ' → Off ts σ σ' → Q σ' H
def setN (i : Nat) : GM := fun d ρ => some (put ρ i (some d))
def putAll : List Nat → List D → En → Option En
  | [], [], ρ => some ρ
  | i :: is, d :: ds, ρ => putAll is ds (put ρ i (some d))
  | _, _, _ => none
def setT (is : List Nat) : GM := fun d ρ => match d with
  | .tup ds => putAll is ds ρ
  | _ => none
theorem PG.imp' {X : Cx} {e : Expr} {t t' : TG} (h : PG X e t) (i : ∀ v σ H Q, t' v σ H Q → t v σ H Q) : PG X e t' := ⟨fun pins s σ H v u Q I r q => h.run pins s σ H v u Q I r (i v σ H Q q)⟩
theorem mg_name {X : Cx} {G : GX} {i : Nat} {x : Str} {pos : Pos} (hN : X.N.Nodup) (hi : X.N[i]? = some x) (hx : Loc X.env.scope x) (hf : X.fn x = true ∨ X.env.scope.names.lookup x = some .local := by first | exact .inl rfl | exact .inr rfl | assumption) : PG X (.Name x pos) (TGM G [i] (setN i)) :=
  PG.imp' (pg_name hN hi hx hf) fun v σ H Q ⟨d, ρ, hs, m, sl, hr, r, ρ', e, q⟩ => by
    cases e
    exact q _ (sl.set r i) (.set (by simp))
/-- the places of a tuple's targets -/
def gNs : List Nat → TGs
  | [] => gNil
  | i :: r => gCons (gName i) (gNs r)
theorem mgs_nil {X : Cx} : PGs X [] (gNs []) := pgs_nil
theorem mgs_cons {X : Cx} {i : Nat} {is : List Nat} {x : Str} {pos : Pos} {es : List Expr} (hN : X.N.Nodup) (hi : X.N[i]? = some x) (hx : Loc X.env.scope x) (h : PGs X es (gNs is)) (hf : X.fn x = true ∨ X.env.scope.names.lookup x = some .local := by first | exact .inl rfl | exact .inr rfl | assumption)
    (hs : (assignEach (.Name x pos :: es) X.env).map (·.2) = assign (.Name x pos) X.env :: (assignEach es X.env).map (·.2) := by rfl) : PGs X (.Name x pos :: es) (gNs (i :: is)) := pgs_cons (pg_name hN hi hx hf) h hs
theorem gNs_ok {G : GX} {H : Hp} {m : List Addr} {ts : List Nat} : ∀ {is : List Nat} {ds : List D} {xs : List V} {ρ ρ' : En} {σ : L2.St} {Q : L2.St → Hp → Prop}, (∀ i ∈ is, i ∈ ts) → SL G H m ρ σ → Reps G.K H m ds xs → putAll is ds ρ = some ρ' →
    (∀ σ', SL G H m ρ' σ' → Off ts σ σ' → Q σ' H) → gNs is xs σ H Q
  | [], [], _, _, _, _, _, _, sl, r, e, q => by
    cases r; cases e
    exact ⟨rfl, q _ sl .refl⟩
  | i :: is, d :: ds, _, ρ, ρ', σ, Q, hi, sl, r, e, q => by
    cases r with
    | cons r t =>
      rename_i v vs
      refine ⟨v, vs, rfl, ?_⟩
      exact gNs_ok (fun j hj => hi j (List.mem_cons_of_mem _ hj)) (sl.set r i) t e fun σ' sl' o' => q σ' sl' ((Off.set (hi i List.mem_cons_self)).trans o')
  | [], _ :: _, _, _, _, _, _, _, _, _, e, _ => by cases e
  | _ :: _, [], _, _, _, _, _, _, _, _, e, _ => by cases e
theorem putAll_len : ∀ {is : List Nat} {ds : List D} {ρ ρ' : En}, putAll is ds ρ = some ρ' → ds.length = is.length
  | [], [], _, _, _ => rfl
  | i :: is, d :: ds, ρ, ρ', e => congrArg (· + 1) (putAll_len (is := is) (ds := ds) (show putAll is ds (put ρ i (some d)) = some ρ' from e))
  | [], _ :: _, _, _, e => by cases e
  | _ :: _, [], _, _, e => by cases e
theorem mg_tup {X : Cx} {tb : TBs} {es : List Expr} {k : Nat} {is : List Nat} {pos : Pos} (hc : X.calm = true) (h : PGs X es (gNs is)) (hn : (assignEach es X.env).length = is.length := by rfl) (hst : (assignEach es X.env).findIdx? (·.1) = none := by rfl) :
    PG X (.Tuple es k pos) (TGM (GO X tb) is (setT is)) :=
  PG.imp' (pg_tup hc h hn hst) fun v σ H Q ⟨d, ρ, hs, m, sl, hr, r, ρ', e, q⟩ => by
    unfold setT at e
    split at e
    · rename_i ds
      cases r with
      | tup hx rx =>
        exact ⟨_, _, rfl, sqt hx, by rw [← rx.length]; exact putAll_len e, gNs_ok (fun i hi => hi) sl rx e q⟩
    · cases e
/-- target = e -/
def mAsgT (g : GM) (f : EM) : SM := fun ρ hs => match f ρ hs with
  | some (d, hs') => match g d ρ with
    | some ρ' => some (.nx ρ' hs')
    | none => none
  | none => none
theorem ms_asg {X : Cx} {G : GX} {tg e : Expr} {f : EM} {ts : List Nat} {g : GM} {pos : Pos} (he : PE X e (TM G f)) (hg : PG X tg (TGM G ts g)) (hs : swapsWithSole [tg] e pos.line X.env = pure false := by rfl) (hw : swappedStores [tg] e X.env = pure none := by rfl)
    (h1 : (assignEach [tg] X.env).map (·.2) = [assign tg X.env] := by rfl) : PS X (.Assign [tg] e pos) (TSM G (mAsgT g f)) := by
  refine (ps_asg he hg hs hw h1).imp fun D σ H ⟨ρ, hs, m, sl, hr, r, ee, q⟩ => ?_
  unfold mAsgT at ee
  split at ee
  · rename_i d hs1 e1
    split at ee
    · rename_i ρ' e2
      cases ee
      exact ⟨ρ, hs, m, sl, hr, _, _, e1, fun v H' m' n' hr' rv => ⟨d, ρ, hs1, m', sl.nx hr n', hr', rv, ρ', e2, fun σ' sl' _ => q σ' H' m' n' hr' sl'⟩⟩
    · cases ee
  · cases ee
/-- a, b = x, y -/
def mPar (i j : Nat) (g : AM) : SM := fun ρ hs => match g ρ hs with
  | some ([d, e], hs') => some (.nx (put (put ρ i (some d)) j (some e)) hs')
  | _ => none
theorem ms_par {X : Cx} {G : GX} {i j : Nat} {x y : Str} {a b : Expr} {g : AM} {px py pt pos : Pos} {kt k2 pt2} (hc : X.calm = true) (hN : X.N.Nodup) (hi : X.N[i]? = some x) (hj : X.N[j]? = some y) (hij : i ≠ j)
    (hx : X.env.scope.names.lookup x = some .local) (hy : X.env.scope.names.lookup y = some .local) (ha : PA X [a, b] (TAm G g))
    (hw : swappedStores [.Tuple [.Name x px, .Name y py] kt pt] (.Tuple [a, b] k2 pt2) X.env = pure (some [x, y]))
    (hs : swapsWithSole [.Tuple [.Name x px, .Name y py] kt pt] (.Tuple [a, b] k2 pt2) pos.line X.env = pure false := by rfl) :
    PS X (.Assign [.Tuple [.Name x px, .Name y py] kt pt] (.Tuple [a, b] k2 pt2) pos) (TSM G (mPar i j g)) := by
  refine (ps_par hc hN hi hj hij hx hy ha hw hs).imp fun D σ H ⟨ρ, hs, m, sl, hr, r, ee, q⟩ => ?_
  unfold mPar at ee
  split at ee
  · rename_i d e hs1 e1
    cases ee
    refine ⟨ρ, hs, m, sl, hr, _, _, e1, fun vs H' m' n' hr' rv => ?_⟩
    obtain ⟨v, w, rfl, r1, r2⟩ := reps2 rv
    exact ⟨v, w, rfl, q _ H' m' n' hr' (((sl.nx hr n').set r1 i).set r2 j)⟩
  · cases ee

/-! ### what is walked -/
abbrev IM := En → Hs → Option (List D × Hs)
/-- J yields just ds, as long as nothing that stood is changed (weak), whatever is changed (strong) -/
def JAt (G : GX) (J : It) (ds : List D) (m' : List Addr) (hs' : Hs) (H' : Hp) : Prop := ∀ i : Nat,
  (∀ d, ds[i]? = some d → J.go i H' ∧ ∀ x H2, J.yld i H' x H2 → Nx m' H' m' H2 ∧ HR G m' hs' H2 ∧ Rep G.K H2 m' d x) ∧ (ds.length ≤ i → J.stop i H')
def JW (G : GX) (J : It) (ds : List D) (m : List Addr) (hs : Hs) (H : Hp) : Prop := ∀ m' H' r, Nx m H m' H' → HR G m' (hs ++ r) H' → JAt G J ds m' (hs ++ r) H'
def JS (G : GX) (J : It) (ds : List D) (m : List Addr) (hs : Hs) (H : Hp) : Prop := ∀ m' H' hs', Nx m H m' H' → HR G m' hs' H' → JAt G J ds m' hs' H'
def TIW (G : GX) (f : IM) : TI := fun σ H R => ∃ ρ hs m, SL G H m ρ σ ∧ HR G m hs H ∧ ∃ ds hs', f ρ hs = some (ds, hs') ∧ ∀ J H' m', Nx m H m' H' → HR G m' hs' H' → JW G J ds m' hs' H' → R J H'
def TIS (G : GX) (f : IM) : TI := fun σ H R => ∃ ρ hs m, SL G H m ρ σ ∧ HR G m hs H ∧ ∃ ds hs', f ρ hs = some (ds, hs') ∧ ∀ J H' m', Nx m H m' H' → HR G m' hs' H' → JS G J ds m' hs' H' → R J H'
theorem JS.w {G : GX} {J : It} {ds : List D} {m : List Addr} {hs : Hs} {H : Hp} (h : JS G J ds m hs H) : JW G J ds m hs H := fun m' H' r n hr => h m' H' _ n hr
theorem PI.imp' {X : Cx} {tg e : Expr} {t t' : TI} (h : PI X tg e t) (i : ∀ σ H R, t' σ H R → t σ H R) : PI X tg e t' := ⟨fun pins s σ H R I q => h.run pins s σ H R I (i σ H R q)⟩
theorem mi_w {X : Cx} {G : GX} {tg e : Expr} {f : IM} (h : PI X tg e (TIS G f)) : PI X tg e (TIW G f) := PI.imp' h fun σ H R ⟨ρ, hs, m, sl, hr, ds, hs', e, q⟩ => ⟨ρ, hs, m, sl, hr, ds, hs', e, fun J H' m' n hr' j => q J H' m' n hr' j.w⟩

section
variable {G : GX} {m : List Addr} {hs : Hs} {H : Hp} {ds : List D} {xs : List V} {a : Addr}
theorem jat_list {J : It} {m' : List Addr} {hs' : Hs} {H' : Hp} (hJ : J = Itl G.K a ∨ False) (hx : SqL G.K H' a xs) (r : Reps G.K H' m' ds xs) (hr : HR G m' hs' H') : JAt G (Itl G.K a) ds m' hs' H' := fun i => by
  refine ⟨fun d e => ?_, fun h => ⟨xs, hx, by rw [← r.length]; exact h⟩⟩
  obtain ⟨v, h1, h2⟩ := r.get e
  refine ⟨⟨xs, v, hx, h1⟩, fun x H2 y => ?_⟩
  obtain ⟨rfl, y⟩ := y
  have e2 := y xs hx
  rw [h1] at e2; cases e2
  exact ⟨.refl, hr, h2⟩
theorem jat_tup {m' : List Addr} {hs' : Hs} {H' : Hp} (hx : SqT G.K H' a xs) (r : Reps G.K H' m' ds xs) (hr : HR G m' hs' H') : JAt G (Itt G.K a) ds m' hs' H' := fun i => by
  refine ⟨fun d e => ?_, fun h => ⟨xs, hx, by rw [← r.length]; exact h⟩⟩
  obtain ⟨v, h1, h2⟩ := r.get e
  refine ⟨⟨xs, v, hx, h1⟩, fun x H2 y => ?_⟩
  obtain ⟨rfl, y⟩ := y
  have e2 := y xs hx
  rw [h1] at e2; cases e2
  exact ⟨.refl, hr, h2⟩
theorem js_tup (hx : SqT G.K H a xs) (r : Reps G.K H m ds xs) (hr : HR G m hs H) : JS G (Itt G.K a) ds m hs H := fun m' H' hs' n hr' =>
  jat_tup (sqT_nx hr n hx) (r.nx hr n) hr'
theorem js_fro (hx : FrL G.K H a xs) (r : Reps G.K H m ds xs) (hr : HR G m hs H) : JS G (Itl G.K a) ds m hs H := fun m' H' hs' n hr' =>
  jat_list (.inl rfl) (frL_nx hr n hx).sq (r.nx hr n) hr'
/-- a list that the mirror's heap does not tell -/
theorem js_off (hx : H a = some (.lst xs)) (ha : a ∉ m) (r : Reps G.K H m ds xs) (hr : HR G m hs H) : JS G (Itl G.K a) ds m hs H := fun m' H' hs' n hr' =>
  jat_list (.inl rfl) (.of (n.keep a _ hx ha fun _ z => by cases z)) (r.nx hr n) hr'
theorem jw_lst {i : Nat} (e : m[i]? = some a) (h : at? hs i = some (.lst ds)) (hr : HR G m hs H) : JW G (Itl G.K a) ds m hs H := fun m' H' r n hr' => by
  have e2 : at? (hs ++ r) i = some (.lst ds) := by
    rw [at?_eq] at h ⊢
    obtain ⟨h1, _⟩ := List.getElem?_eq_some_iff.mp h
    rw [List.getElem?_append_left h1]; exact h
  obtain ⟨xs, hx, rx⟩ := hr'.lst (n.ix e) e2
  exact jat_list (.inl rfl) (.of hx) rx hr'
/-- lo, lo + 1, .. -/
def rngL (lo : Int) : Nat → List D
  | 0 => []
  | n + 1 => .int lo :: rngL (lo + 1) n
theorem rngL_length : ∀ (n : Nat) (lo : Int), (rngL lo n).length = n
  | 0, _ => rfl
  | n + 1, lo => congrArg (· + 1) (rngL_length n (lo + 1))
theorem rngL_get : ∀ (n : Nat) (lo : Int) (i : Nat) (d : D), (rngL lo n)[i]? = some d → i < n ∧ d = .int (lo + i)
  | 0, _, _, _, h => by simp [rngL] at h
  | n + 1, lo, 0, d, h => by
    simp [rngL] at h
    exact ⟨Nat.succ_pos n, by rw [← h]; simp⟩
  | n + 1, lo, i + 1, d, h => by
    simp [rngL] at h
    obtain ⟨h1, h2⟩ := rngL_get n (lo + 1) i d h
    exact ⟨Nat.succ_lt_succ h1, by rw [h2]; congr 1; omega⟩
theorem js_rng {lo : Int} {n : Nat} : JS G (Itr lo n) (rngL lo n) m hs H := fun m' H' hs' _ hr' i => by
  refine ⟨fun d e => ?_, fun h => by rw [rngL_length] at h; exact h⟩
  obtain ⟨h1, h2⟩ := rngL_get n lo i d e
  refine ⟨h1, fun x H2 y => ?_⟩
  obtain ⟨rfl, rfl⟩ := y
  rw [h2]
  exact ⟨.refl, hr', .int _⟩
/-- lo, lo + c, .. -/
def stpL (lo c : Int) : Nat → List D
  | 0 => []
  | n + 1 => .int lo :: stpL (lo + c) c n
theorem stpL_length : ∀ (n : Nat) (lo c : Int), (stpL lo c n).length = n
  | 0, _, _ => rfl
  | n + 1, lo, c => congrArg (· + 1) (stpL_length n (lo + c) c)
theorem stpL_get : ∀ (n : Nat) (lo c : Int) (i : Nat) (d : D), (stpL lo c n)[i]? = some d → i < n ∧ d = .int (lo + (i : Nat) * c)
  | 0, _, _, _, _, h => by simp [stpL] at h
  | n + 1, lo, c, 0, d, h => by
    simp [stpL] at h
    exact ⟨Nat.succ_pos n, by rw [← h]; simp⟩
  | n + 1, lo, c, i + 1, d, h => by
    simp [stpL] at h
    obtain ⟨h1, h2⟩ := stpL_get n (lo + c) c i d h
    refine ⟨Nat.succ_lt_succ h1, ?_⟩
    rw [h2]
    congr 1
    rw [show ((i + 1 : Nat) : Int) = (i : Int) + 1 from rfl, Int.add_mul, Int.one_mul]
    omega
theorem js_stp {lo c : Int} {n : Nat} : JS G (Itc lo c n) (stpL lo c n) m hs H := fun m' H' hs' _ hr' i => by
  refine ⟨fun d e => ?_, fun h => by rw [stpL_length] at h; exact h⟩
  obtain ⟨h1, h2⟩ := stpL_get n lo c i d e
  refine ⟨h1, fun x H2 y => ?_⟩
  obtain ⟨rfl, rfl⟩ := y
  rw [h2]
  exact ⟨.refl, hr', .int _⟩
end

/-- a list or a tuple, by what the value is -/
def iSeq (K : PySem.W.Frag) (tl : TE) : TI := fun σ H R => tl σ H fun x H1 => ∃ a, x = .ref a ∧ (((∃ xs, SqL K H1 a xs) ∧ R (Itl K a) H1) ∨ ((∃ xs, SqT K H1 a xs) ∧ R (Itt K a) H1))
theorem pi_seq {X : Cx} {tg l : Expr} {tl : TE} (hl : PE X l tl) : PI X tg l (iSeq X.K tl) := by
  refine ⟨fun pins s σ H R I h => ?_⟩
  refine thn (hl.run pins s σ H _ I h) fun v s1 ⟨x, H1, I1, r1, q1⟩ => ?_
  obtain ⟨a, e, q1⟩ := q1
  subst e
  cases r1
  rcases q1 with ⟨⟨xs, hq⟩, q⟩ | ⟨⟨xs, hq⟩, q⟩
  · obtain ⟨its, rv, p, hz⟩ := I1.list hq
    refine wpAny_pyIter_list p.isList ?_
    refine ⟨s1.heap.objs.size, [s1.heap.objs.size], _, _, H1, rfl, I1.kept (t' := s1.toks) fun b o e => Heap.get?_push_of_some _ e, turn_list a _, ⟨_, Heap.get?_push_size _ rfl, rfl, rfl⟩, fun b hb => ?_, q⟩
    have e : b = s1.heap.objs.size := by simpa using hb
    subst e
    exact I1.fpOk (Nat.le_refl _) (I1.hok.fresh (Nat.le_refl _))
  · obtain ⟨its, rv, p, hz⟩ := I1.tuple hq
    refine wpAny_pyIter_tuple (show s1.heap.IsTuple a its.toArray from p) ?_
    refine ⟨s1.heap.objs.size, [s1.heap.objs.size], _, _, H1, rfl, I1.kept (t' := s1.toks) fun b o e => Heap.get?_push_of_some _ e, turn_tuple a _, ⟨_, Heap.get?_push_size _ rfl, rfl, rfl⟩, fun b hb => ?_, q⟩
    have e : b = s1.heap.objs.size := by simpa using hb
    subst e
    exact I1.fpOk (Nat.le_refl _) (I1.hok.fresh (Nat.le_refl _))
/-- a tuple, or a list that nobody else holds -/
def mSeqS (f : EM) : IM := fun ρ hs => match f ρ hs with
  | some (.tup ds, hs') => some (ds, hs')
  | some (.fro ds, hs') => some (ds, hs')
  | some (.ref n, hs') => match Nat.ble hs.length n, at? hs' n with
    | true, some (.lst ds) => match allL (shal 12) ds with
      | true => some (ds, hs)
      | false => none
    | _, _ => none
  | _ => none
/-- a tuple or a list -/
def mSeqW (f : EM) : IM := fun ρ hs => match f ρ hs with
  | some (.tup ds, hs') => some (ds, hs')
  | some (.fro ds, hs') => some (ds, hs')
  | some (.ref n, hs') => match at? hs' n with
    | some (.lst ds) => some (ds, hs')
    | _ => none
  | _ => none
section
variable {X : Cx} {tb : TBs} {tg e : Expr} {f : EM}
theorem mi_seqS [qf : QE f] (h : PE X e (TM (GO X tb) f)) : PI X tg e (TIS (GO X tb) (mSeqS f)) := PI.imp' (pi_seq h) fun σ H R ⟨ρ, hs, m, sl, hr, ds, hs', ee, q⟩ => by
  unfold mSeqS at ee
  split at ee
  · rename_i e1
    cases ee
    refine ⟨ρ, hs, m, sl, hr, _, _, e1, fun v H' m' n' hr' rv => ?_⟩
    cases rv with
    | tup hx rx => exact ⟨_, rfl, .inr ⟨⟨_, sqt hx⟩, q _ H' m' n' hr' (js_tup (sqt hx) rx hr')⟩⟩
  · rename_i e1
    cases ee
    refine ⟨ρ, hs, m, sl, hr, _, _, e1, fun v H' m' n' hr' rv => ?_⟩
    cases rv with
    | fro hx rx => exact ⟨_, rfl, .inl ⟨⟨_, hx.sq⟩, q _ H' m' n' hr' (js_fro hx rx hr')⟩⟩
  · rename_i n hs1 e1
    split at ee
    · rename_i hb ea
      split at ee
      · rename_i sd
        cases ee
        refine ⟨ρ, _, m, sl, hr, _, _, e1, fun v H' m' n' hr' rv => ?_⟩
        cases rv with
        | ref e2 =>
          rename_i a
          obtain ⟨t, rfl⟩ := qf.q _ _ _ _ e1
          obtain ⟨xs, hx, rx⟩ := hr'.lst e2 ea
          have hc := hr.cut n' hr'
          have ha : a ∉ m := fun z => by
            obtain ⟨j, hj, ej⟩ := List.getElem_of_mem z
            have e3 : m[j]? = some a := by rw [List.getElem?_eq_getElem hj, ej]
            have e4 := n'.ix e3
            obtain ⟨h1, q1⟩ := List.getElem?_eq_some_iff.mp e2
            obtain ⟨h2, q2⟩ := List.getElem?_eq_some_iff.mp e4
            have e5 := (List.getElem_inj hr'.nd).mp (q1.trans q2.symm)
            have hb' := Nat.le_of_ble_eq_true hb
            rw [← hr.len] at hb'
            omega
          exact ⟨_, rfl, .inl ⟨⟨_, .of hx⟩, q _ H' m n'.cut hc (js_off hx ha (pure_reps (Rep.pure 12) sd rx m) hc)⟩⟩
      · cases ee
    · cases ee
  · cases ee
theorem mi_seqW (h : PE X e (TM (GO X tb) f)) : PI X tg e (TIW (GO X tb) (mSeqW f)) := PI.imp' (pi_seq h) fun σ H R ⟨ρ, hs, m, sl, hr, ds, hs', ee, q⟩ => by
  unfold mSeqW at ee
  split at ee
  · rename_i e1
    cases ee
    refine ⟨ρ, hs, m, sl, hr, _, _, e1, fun v H' m' n' hr' rv => ?_⟩
    cases rv with
    | tup hx rx => exact ⟨_, rfl, .inr ⟨⟨_, sqt hx⟩, q _ H' m' n' hr' (js_tup (sqt hx) rx hr').w⟩⟩
  · rename_i e1
    cases ee
    refine ⟨ρ, hs, m, sl, hr, _, _, e1, fun v H' m' n' hr' rv => ?_⟩
    cases rv with
    | fro hx rx => exact ⟨_, rfl, .inl ⟨⟨_, hx.sq⟩, q _ H' m' n' hr' (js_fro hx rx hr').w⟩⟩
  · rename_i n hs1 e1
    split at ee
    · rename_i ea
      cases ee
      refine ⟨ρ, _, m, sl, hr, _, _, e1, fun v H' m' n' hr' rv => ?_⟩
      cases rv with
      | ref e2 =>
        obtain ⟨xs, hx, rx⟩ := hr'.lst e2 ea
        exact ⟨_, rfl, .inl ⟨⟨_, .of hx⟩, q _ H' m' n' hr' (jw_lst e2 ea hr')⟩⟩
    · cases ee
  · cases ee
def mRng1 (g : AM) : IM := fun ρ hs => match g ρ hs with
  | some ([.int j], hs') => if Nat.blt j.natAbs (2 ^ 62) then some (rngL 0 j.toNat, hs') else none
  | _ => none
def mRng2 (g : AM) : IM := fun ρ hs => match g ρ hs with
  | some ([.int i, .int j], hs') => if (Nat.blt i.natAbs (2 ^ 62) && Nat.blt j.natAbs (2 ^ 62)) = true then some (rngL i (j - i).toNat, hs') else none
  | _ => none
theorem blt_abs {j : Int} (h : Nat.blt j.natAbs (2 ^ 62) = true) : -(2 ^ 62) ≤ j ∧ j < 2 ^ 62 := by
  have h1 : j.natAbs < 2 ^ 62 := Nat.le_of_ble_eq_true h
  omega
variable {a b : Expr} {g : AM} {p pos : Pos}
theorem mi_range1 (hg : Gl X "range") (hm : X.mg "range" = none) (ha : PA X [a] (TAm (GO X tb) g)) (hs : starEach [a] X.env = [(false, eval a X.env)] := by rfl) : PI X tg (.Call (.Name "range" p) [a] [] pos) (TIS (GO X tb) (mRng1 g)) :=
  PI.imp' (pi_range1 hg hm ha hs) fun σ H R ⟨ρ, hs, m, sl, hr, ds, hs', ee, q⟩ => by
    unfold mRng1 at ee
    split at ee
    · rename_i j hs1 e1
      split at ee
      · rename_i hb
        cases ee
        obtain ⟨b1, b2⟩ := blt_abs hb
        refine ⟨ρ, hs, m, sl, hr, _, _, e1, fun vs H' m' n' hr' rv => ?_⟩
        obtain ⟨v, rfl, rw⟩ := reps1 rv
        obtain rfl := rw.int_inv
        exact ⟨j, rfl, b1, b2, q _ H' m' n' hr' js_rng⟩
      · cases ee
    · cases ee
theorem mi_range2 (hg : Gl X "range") (hm : X.mg "range" = none) (ha : PA X [a, b] (TAm (GO X tb) g)) (hs : starEach [a, b] X.env = [(false, eval a X.env), (false, eval b X.env)] := by rfl) (hs2 : starEach [b] X.env = [(false, eval b X.env)] := by rfl) : PI X tg (.Call (.Name "range" p) [a, b] [] pos) (TIS (GO X tb) (mRng2 g)) :=
  PI.imp' (pi_range2 hg hm ha hs hs2) fun σ H R ⟨ρ, hs, m, sl, hr, ds, hs', ee, q⟩ => by
    unfold mRng2 at ee
    split at ee
    · rename_i i j hs1 e1
      split at ee
      · rename_i hb
        rw [Bool.and_eq_true] at hb
        cases ee
        obtain ⟨b1, b2⟩ := blt_abs hb.1
        obtain ⟨b3, b4⟩ := blt_abs hb.2
        refine ⟨ρ, hs, m, sl, hr, _, _, e1, fun vs H' m' n' hr' rv => ?_⟩
        obtain ⟨v, w, rfl, r1, r2⟩ := reps2 rv
        obtain rfl := r1.int_inv
        obtain rfl := r2.int_inv
        exact ⟨i, j, rfl, ⟨b1, b2, b3, b4⟩, q _ H' m' n' hr' js_rng⟩
      · cases ee
    · cases ee
end
class QI (f : IM) : Prop where
  q : ∀ ρ hs ds hs', f ρ hs = some (ds, hs') → Grows hs hs'
instance {f : EM} [a : QE f] : QI (mSeqS f) := ⟨fun ρ hs d hs' h => by
  unfold mSeqS at h
  split at h
  · rename_i e1; cases h; exact a.q _ _ _ _ e1
  · rename_i e1; cases h; exact a.q _ _ _ _ e1
  · split at h
    · split at h
      · cases h; exact .refl
      · cases h
    · cases h
  · cases h⟩
instance {f : EM} [a : QE f] : QI (mSeqW f) := ⟨fun ρ hs d hs' h => by
  unfold mSeqW at h
  cases e1 : f ρ hs with
  | none => rw [e1] at h; cases h
  | some p =>
    obtain ⟨x, h1⟩ := p
    rw [e1] at h
    have g1 := a.q _ _ _ _ e1
    cases x with
    | tup ds => cases h; exact g1
    | fro ds => cases h; exact g1
    | ref n =>
      simp only at h
      split at h
      · cases h; exact g1
      · cases h
    | _ => cases h⟩
instance {g : AM} [a : QA g] : QI (mRng1 g) := ⟨fun ρ hs d hs' h => by
  unfold mRng1 at h
  split at h
  · rename_i e1
    split at h
    · cases h; exact a.q _ _ _ _ e1
    · cases h
  · cases h⟩
instance {g : AM} [a : QA g] : QI (mRng2 g) := ⟨fun ρ hs d hs' h => by
  unfold mRng2 at h
  split at h
  · rename_i e1
    split at h
    · cases h; exact a.q _ _ _ _ e1
    · cases h
  · cases h⟩

/-! ### for -/
def forGo (g : GM) (b : SM) : List D → En → Hs → Option Rs
  | [], ρ, hs => some (.nx ρ hs)
  | d :: ds, ρ, hs => match g d ρ with
    | some ρ' => match b ρ' hs with
      | some (.nx ρ2 hs2) => forGo g b ds ρ2 hs2
      | some (.ct ρ2 hs2) => forGo g b ds ρ2 hs2
      | some (.bk ρ2 hs2) => some (.nx ρ2 hs2)
      | some (.ret d hs2) => some (.ret d hs2)
      | none => none
    | none => none
def mFor (f : IM) (g : GM) (b : SM) : SM := fun ρ hs => match f ρ hs with
  | some (ds, hs1) => forGo g b ds ρ hs1
  | none => none
theorem ms_for {X : Cx} {G : GX} {tg iter : Expr} {body : List Stmt} {f : IM} {ts : List Nat} {g : GM} {b : SM} {pos : Pos} (hp : PassesOwn (model X.prog X.w) X.A X.env X.xe) (hc : X.calm = true) (hi : PI X tg iter (TIS G f)) (hg : PG X tg (TGM G ts g)) (hb : PSs X body (TSM G b))
    (hs : ∀ x, foldedSetIterable iter X.env x = pure x := by intro _; rfl) : PS X (.For tg iter body [] pos) (TSM G (mFor f g b)) := by
  refine (ps_for hp hc hi hg hb hs).imp fun D σ H ⟨ρ, hs, m, sl, hr, r, ee, q⟩ => ?_
  unfold mFor at ee
  split at ee
  · rename_i ds hs1 e1
    refine ⟨ρ, hs, m, sl, hr, ds, hs1, e1, fun J H1 m1 n1 hr1 js => ?_⟩
    refine ⟨fun i n σ H' => n = ds.length - i ∧ i ≤ ds.length ∧ ∃ ρ' hs' m', SL G H' m' ρ' σ ∧ Nx m1 H1 m' H' ∧ HR G m' hs' H' ∧ forGo g b (ds.drop i) ρ' hs' = some r, ⟨ds.length, by simp, Nat.zero_le _, ρ, hs1, m1, sl.nx hr n1, .refl, hr1, ee⟩, ?_⟩
    rintro i n σ' H' ⟨rfl, hi, ρ', hs', m', sl', nx', hr', er⟩
    have qj := js m' H' hs' nx' hr' i
    by_cases hlt : i < ds.length
    · have ed : ds[i]? = some ds[i] := List.getElem?_eq_getElem hlt
      obtain ⟨go, yl⟩ := qj.1 _ ed
      rw [List.drop_eq_getElem_cons hlt] at er
      unfold forGo at er
      refine .inr ⟨go, fun σ'' H'' => ∃ ρ'' hs'' m'', SL G H'' m'' ρ'' σ'' ∧ Nx m1 H1 m'' H'' ∧ HR G m'' hs'' H'' ∧ forGo g b (ds.drop (i + 1)) ρ'' hs'' = some r, fun σ'' H'' h => ⟨ds.length - (i + 1), by omega, rfl, hlt, h⟩, fun x H2 y => ?_⟩
      obtain ⟨n2, hr2, rx⟩ := yl x H2 y
      split at er
      · rename_i ρ2 e2
        refine ⟨ds[i], ρ', hs', m', sl'.nx hr' n2, hr2, rx, ρ2, e2, fun σ2 sl2 _ => ?_⟩
        refine ⟨ρ2, hs', m', sl2, hr2, ?_⟩
        have nb := nx'.trans n2
        split at er
        · rename_i ρ3 hs3 e3
          exact ⟨_, e3, fun σ4 H4 m4 n4 hr4 sl4 => ⟨ρ3, hs3, m4, sl4, nb.trans n4, hr4, er⟩⟩
        · rename_i ρ3 hs3 e3
          exact ⟨_, e3, fun σ4 H4 m4 n4 hr4 sl4 => ⟨ρ3, hs3, m4, sl4, nb.trans n4, hr4, er⟩⟩
        · rename_i ρ3 hs3 e3
          cases er
          exact ⟨_, e3, fun σ4 H4 m4 n4 hr4 sl4 => q σ4 H4 m4 ((n1.trans nb).trans n4) hr4 sl4⟩
        · rename_i d hs3 e3
          cases er
          exact ⟨_, e3, fun v H4 m4 n4 hr4 rv => q v H4 m4 ((n1.trans nb).trans n4) hr4 rv⟩
        · cases er
      · cases er
    · have ei : i = ds.length := by omega
      subst ei
      rw [List.drop_length] at er
      cases er
      exact .inl ⟨qj.2 (Nat.le_refl _), q σ' H' m' (n1.trans nx') hr' sl'⟩
  · cases ee
/-- over a list at its place, as it stands at each turn; N: a bound of the turns -/
def forGoL (n : Nat) (g : GM) (b : SM) : Nat → Nat → En → Hs → Option Rs
  | 0, _, _, _ => none
  | N + 1, i, ρ, hs => match at? hs n with
    | some (.lst ds) => match at? ds i with
      | none => some (.nx ρ hs)
      | some d => match g d ρ with
        | some ρ' => match b ρ' hs with
          | some (.nx ρ2 hs2) => forGoL n g b N (i + 1) ρ2 hs2
          | some (.ct ρ2 hs2) => forGoL n g b N (i + 1) ρ2 hs2
          | some (.bk ρ2 hs2) => some (.nx ρ2 hs2)
          | some (.ret d hs2) => some (.ret d hs2)
          | none => none
        | none => none
    | _ => none
def mForL (N : Nat) (f : EM) (g : GM) (b : SM) : SM := fun ρ hs => match f ρ hs with
  | some (.ref n, hs1) => forGoL n g b N 0 ρ hs1
  | _ => none
theorem ms_forL (N : Nat) {X : Cx} {tb : TBs} {tg iter : Expr} {body : List Stmt} {f : EM} {ts : List Nat} {g : GM} {b : SM} {pos : Pos} (hp : PassesOwn (model X.prog X.w) X.A X.env X.xe) (hc : X.calm = true) (hi : PE X iter (TM (GO X tb) f)) (hg : PG X tg (TGM (GO X tb) ts g)) (hb : PSs X body (TSM (GO X tb) b))
    (hs : ∀ x, foldedSetIterable iter X.env x = pure x := by intro _; rfl) : PS X (.For tg iter body [] pos) (TSM (GO X tb) (mForL N f g b)) := by
  refine (ps_for hp hc (pi_list hi) hg hb hs).imp fun D σ H ⟨ρ, hs, m, sl, hr, r, ee, q⟩ => ?_
  unfold mForL at ee
  split at ee
  · rename_i k hs1 e1
    refine ⟨ρ, hs, m, sl, hr, _, _, e1, fun v H1 m1 n1 hr1 rv => ?_⟩
    cases rv with
    | ref e2 =>
      rename_i a
      refine ⟨a, rfl, ?_, ?_⟩
      · cases N with
        | zero => cases ee
        | succ N =>
          unfold forGoL at ee
          split at ee
          · rename_i ds ed
            obtain ⟨xs, hx, rx⟩ := hr1.lst e2 ed
            exact ⟨xs, .of hx⟩
          · cases ee
      · refine ⟨fun i n σ H' => ∃ ρ' hs' m', SL (GO X tb) H' m' ρ' σ ∧ Nx m1 H1 m' H' ∧ HR (GO X tb) m' hs' H' ∧ forGoL k g b n i ρ' hs' = some r, ⟨N, ρ, hs1, m1, sl.nx hr n1, .refl, hr1, ee⟩, ?_⟩
        rintro i n σ' H' ⟨ρ', hs', m', sl', nx', hr', er⟩
        cases n with
        | zero => cases er
        | succ n =>
          unfold forGoL at er
          split at er
          · rename_i ds ed
            obtain ⟨xs, hx, rx⟩ := hr'.lst (nx'.ix e2) ed
            split at er
            · rename_i ei
              cases er
              rw [at?_eq] at ei
              refine .inl ⟨⟨xs, .of hx, ?_⟩, q σ' H' m' (n1.trans nx') hr' sl'⟩
              rw [← rx.length]
              exact List.getElem?_eq_none_iff.mp ei
            · rename_i d ei
              rw [at?_eq] at ei
              obtain ⟨v, h1, h2⟩ := rx.get ei
              refine .inr ⟨⟨xs, v, .of hx, h1⟩, fun σ'' H'' => ∃ ρ'' hs'' m'', SL (GO X tb) H'' m'' ρ'' σ'' ∧ Nx m1 H1 m'' H'' ∧ HR (GO X tb) m'' hs'' H'' ∧ forGoL k g b n (i + 1) ρ'' hs'' = some r, fun σ'' H'' h => ⟨n, Nat.lt_succ_self n, h⟩, fun x H2 y => ?_⟩
              obtain ⟨rfl, y⟩ := y
              have ex := y xs (.of hx)
              rw [h1] at ex; cases ex
              split at er
              · rename_i ρ2 e3
                refine ⟨d, ρ', hs', m', sl', hr', h2, ρ2, e3, fun σ2 sl2 _ => ?_⟩
                refine ⟨ρ2, hs', m', sl2, hr', ?_⟩
                split at er
                · rename_i ρ3 hs3 e3
                  exact ⟨_, e3, fun σ4 H4 m4 n4 hr4 sl4 => ⟨ρ3, hs3, m4, sl4, nx'.trans n4, hr4, er⟩⟩
                · rename_i ρ3 hs3 e3
                  exact ⟨_, e3, fun σ4 H4 m4 n4 hr4 sl4 => ⟨ρ3, hs3, m4, sl4, nx'.trans n4, hr4, er⟩⟩
                · rename_i ρ3 hs3 e3
                  cases er
                  exact ⟨_, e3, fun σ4 H4 m4 n4 hr4 sl4 => q σ4 H4 m4 ((n1.trans nx').trans n4) hr4 sl4⟩
                · rename_i d hs3 e3
                  cases er
                  exact ⟨_, e3, fun v H4 m4 n4 hr4 rv => q v H4 m4 ((n1.trans nx').trans n4) hr4 rv⟩
                · cases er
              · cases er
          · cases er
  · cases ee

/-! ### list comprehensions -/
def wipeE (ρ : En) : List Nat → En
  | [] => ρ
  | v :: vs => put (wipeE ρ vs) v none
theorem wipe_get (σ : L2.St) (i : Nat) : ∀ vs : List Nat, (wipe σ vs)[i]? = if i ∈ vs ∧ i < σ.length then some none else σ[i]?
  | [] => by simp [wipe]
  | v :: vs => by
    unfold wipe
    by_cases hv : v = i
    · subst hv
      by_cases hl : v < σ.length
      · rw [List.getElem?_set_self (by rw [wipe_length]; exact hl), if_pos ⟨List.mem_cons_self, hl⟩]
      · rw [List.set_eq_of_length_le (by rw [wipe_length]; omega), wipe_get σ v vs, if_neg (fun z => hl z.2), if_neg (fun z => hl z.2)]
    · rw [List.getElem?_set_ne hv, wipe_get σ i vs]
      by_cases h1 : i ∈ vs ∧ i < σ.length
      · rw [if_pos h1, if_pos ⟨List.mem_cons_of_mem _ h1.1, h1.2⟩]
      · rw [if_neg h1, if_neg]
        rintro ⟨z1, z2⟩
        rcases List.mem_cons.mp z1 with z | z
        · exact hv z.symm
        · exact h1 ⟨z, z2⟩
theorem wipeE_len (ρ : En) : ∀ vs : List Nat, (wipeE ρ vs).length = ρ.length
  | [] => rfl
  | v :: vs => by unfold wipeE; rw [put_length, wipeE_len ρ vs]
theorem SL.wipe {G : GX} {H : Hp} {m : List Addr} {ρ : En} {σ : L2.St} (s : SL G H m ρ σ) : ∀ vs : List Nat, SL G H m (wipeE ρ vs) (L2.wipe σ vs)
  | [] => s
  | v :: vs => by
    have ih := s.wipe vs
    unfold wipeE L2.wipe
    refine ⟨by rw [put_length, List.length_set]; exact ih.len, fun i d e => ?_⟩
    rw [put_eq] at e
    by_cases hv : v = i
    · subst hv
      by_cases hl : v < (wipeE ρ vs).length
      · rw [List.getElem?_set_self hl] at e; cases e
      · rw [List.getElem?_eq_none (by simpa using hl)] at e; cases e
    · rw [List.getElem?_set_ne hv] at e
      rw [List.getElem?_set_ne hv]
      exact ih.at_ i d e
theorem Off.wipe {ts vs : List Nat} {σ σ' : L2.St} (o : Off ts (L2.wipe σ vs) σ') (h : ∀ i ∈ ts, i ∈ vs) : L2.wipe σ' vs = L2.wipe σ vs := by
  have hl : σ'.length = σ.length := o.len.trans (wipe_length σ vs)
  refine List.ext_getElem? fun i => ?_
  rw [wipe_get, wipe_get]
  by_cases hi : i ∈ vs ∧ i < σ.length
  · rw [if_pos hi, if_pos ⟨hi.1, by rw [hl]; exact hi.2⟩]
  · rw [if_neg hi, if_neg (fun z => hi ⟨z.1, by rw [← hl]; exact z.2⟩)]
    by_cases hv : i ∈ vs
    · have h1 : σ.length ≤ i := Nat.le_of_not_lt fun z => hi ⟨hv, z⟩
      rw [List.getElem?_eq_none h1, List.getElem?_eq_none (by omega)]
    · rw [o.same i (fun z => hv (h i z)), wipe_get, if_neg (fun z => hv z.1)]

/-- a list beside the mirror's heap -/
theorem HR.aside {G : GX} {m : List Addr} {hs : Hs} {H : Hp} {L : Addr} {xs ys : List V} (hr : HR G m hs H) (hL : H L = some (.lst xs)) (hn : L ∉ m) : HR G m hs (upd H L (.lst ys)) ∧ (∀ d v, Rep G.K H m d v → Rep G.K (upd H L (.lst ys)) m d v) := by
  have hp : ∀ b u, H b = some u → (∀ zs, u ≠ .lst zs) → b ≠ L := fun b u e h z => by rw [z, hL] at e; exact h xs (Option.some.inj e).symm
  have sq : ∀ {a : Addr} {zs : List V}, SqT G.K H a zs → SqT G.K (upd H L (.lst ys)) a zs := fun {a zs} h => by
    rcases h with (h | ⟨o, h⟩) | h
    · exact .inl (.inl (by rw [upd_ne (hp a _ h fun _ z => by cases z)]; exact h))
    · exact .inl (.inr ⟨o, by rw [upd_ne (hp a _ h fun _ z => by cases z)]; exact h⟩)
    · exact .inr h
  have fr : ∀ {a : Addr} {zs : List V}, FrL G.K H a zs → FrL G.K (upd H L (.lst ys)) a zs := fun {a zs} h => by
    rcases h with ⟨o, h⟩ | h
    · exact .inl ⟨o, by rw [upd_ne (hp a _ h fun _ z => by cases z)]; exact h⟩
    · exact .inr h
  have go : ∀ (d : D) (v : V), Rep G.K H m d v → Rep G.K (upd H L (.lst ys)) m d v := fun d v h =>
    Rep.rec (motive_1 := fun d v _ => Rep G.K (upd H L (.lst ys)) m d v) (motive_2 := fun ds vs _ => Reps G.K (upd H L (.lst ys)) m ds vs)
      .non .bl .int .str (fun e => .ref e) (fun h _ ih => .tup (by rw [upd_ne (hp _ _ h fun _ z => by cases z)]; exact h) ih) (fun h _ ih => .fro (fr h) ih) (fun h d _ ih => .tuf (by rw [upd_ne (hp _ _ h fun _ z => by cases z)]; exact h) d ih) (fun h z c a _ ih => .obj (by rw [upd_ne (hp _ _ h fun _ z => by cases z)]; exact h) z c a ih) .nil (fun _ _ a b => .cons a b) h
  have gos : ∀ (ds : List D) (vs : List V), Reps G.K H m ds vs → Reps G.K (upd H L (.lst ys)) m ds vs := fun ds => by
    induction ds with
    | nil => intro vs r; cases r; exact .nil
    | cons d ds ih => intro vs r; cases r with | cons r t => exact .cons (go _ _ r) (ih _ t)
  refine ⟨⟨hr.len, hr.nd, fun i a o e1 e2 => ?_, hr.tab.keep fun b o eb ho => ?_⟩, go⟩
  · have q := hr.obj i a o e1 e2
    have na : a ≠ L := fun z => hn (z ▸ List.mem_of_getElem? e1)
    cases o with
    | lst ds => obtain ⟨zs, h1, r⟩ := q; exact ⟨zs, by rw [upd_ne na]; exact h1, gos _ _ r⟩
    | dK ds => obtain ⟨zs, h1, k, r⟩ := q; exact ⟨zs, by rw [upd_ne na]; exact h1, k, gos _ _ r⟩
    | dT ds => obtain ⟨zs, h1, k, r⟩ := q; exact ⟨zs, by rw [upd_ne na]; exact h1, k, gos _ _ r⟩
    | opq c => obtain ⟨dx, h1⟩ := q; exact ⟨dx, by rw [upd_ne na]; exact h1⟩
  · rw [upd_ne (hp b _ eb fun _ z => by rcases ho with ⟨ps, e⟩ | ⟨ob, u, e⟩ <;> (rw [e] at z; cases z))]; exact eb
theorem Nx.aside {m m' : List Addr} {H H' : Hp} {L : Addr} {u : HO} (n : Nx m H m' H') (h0 : H L = none) : Nx m H m' (upd H' L u) :=
  ⟨n.pre, n.fresh, fun a o e h t => by rw [upd_ne (ne_of_none e h0)]; exact n.keep a o e h t, fun a e => by
    by_cases h : a = L
    · rw [h, upd_same]; simp
    · rw [upd_ne h]; exact n.there a e⟩
/-- .. is told by it -/
theorem Rep.widen {K : PySem.W.Frag} {H : Hp} {m t : List Addr} {d : D} {v : V} (h : Rep K H m d v) : Rep K H (m ++ t) d v :=
  Rep.rec (motive_1 := fun d v _ => Rep K H (m ++ t) d v) (motive_2 := fun ds vs _ => Reps K H (m ++ t) ds vs)
    .non .bl .int .str (fun e => .ref (by rw [List.getElem?_append_left (List.getElem?_eq_some_iff.mp e).1]; exact e)) (fun h _ ih => .tup h ih) (fun h _ ih => .fro h ih) (fun h d _ ih => .tuf h d ih) (fun h z c a _ ih => .obj h z c a ih) .nil (fun _ _ a b => .cons a b) h
theorem Reps.widen {K : PySem.W.Frag} {H : Hp} {m t : List Addr} : ∀ {ds : List D} {vs : List V}, Reps K H m ds vs → Reps K H (m ++ t) ds vs
  | _, _, .nil => .nil
  | _, _, .cons r q => .cons r.widen q.widen
theorem HR.adopt {G : GX} {m : List Addr} {hs : Hs} {H : Hp} {L : Addr} {xs : List V} {ds : List D} (hr : HR G m hs H) (hL : H L = some (.lst xs)) (hn : L ∉ m) (r : Reps G.K H m ds xs) : HR G (m ++ [L]) (hs ++ [.lst ds]) H := by
  refine ⟨by rw [List.length_append, List.length_append, hr.len]; rfl, ?_, fun i a o' e1 e2 => ?_, hr.tab⟩
  · rw [List.nodup_append]
    refine ⟨hr.nd, by simp, fun a ha b hb => ?_⟩
    rw [List.mem_singleton.mp hb]
    intro e; rw [e] at ha; exact hn ha
  · by_cases hi : i < m.length
    · rw [List.getElem?_append_left hi] at e1
      rw [List.getElem?_append_left (by rw [← hr.len]; exact hi)] at e2
      have q := hr.obj i a o' e1 e2
      cases o' with
      | lst ds => obtain ⟨zs, h1, r⟩ := q; exact ⟨zs, h1, r.widen⟩
      | dK ds => obtain ⟨zs, h1, k, r⟩ := q; exact ⟨zs, h1, k, r.widen⟩
      | dT ds => obtain ⟨zs, h1, k, r⟩ := q; exact ⟨zs, h1, k, r.widen⟩
      | opq c => exact q
    · rw [List.getElem?_append_right (by omega)] at e1
      rw [List.getElem?_append_right (by rw [← hr.len]; omega)] at e2
      have h0 : i - m.length = 0 := by
        obtain ⟨z, _⟩ := List.getElem?_eq_some_iff.mp e1
        simp at z; omega
      rw [h0] at e1
      rw [← hr.len, h0] at e2
      cases e1; cases e2
      exact ⟨xs, hL, r.widen⟩

def lcGo (g : GM) (c : BM) (f : EM) (ρ : En) : List D → Hs → List D → Option (List D × Hs)
  | [], hs, acc => some (acc.reverse, hs)
  | d :: ds, hs, acc => match g d ρ with
    | some ρ' => match c ρ' hs with
      | some (true, hs1) => match f ρ' hs1 with
        | some (x, hs2) => lcGo g c f ρ ds hs2 (x :: acc)
        | none => none
      | some (false, hs1) => lcGo g c f ρ ds hs1 acc
      | none => none
    | none => none
def mLc (s : IM) (g : GM) (c : BM) (f : EM) (vs : List Nat) : EM := fun ρ hs => match s ρ hs with
  | some (ds, hs1) => if cap (ds.length + 1) then match lcGo g c f (wipeE ρ vs) ds hs1 [] with
    | some (xs, hs2) => some (.ref hs2.length, hs2 ++ [.lst xs])
    | none => none else none
  | none => none
def mYes : BM := fun _ hs => some (true, hs)
instance : QB mYes := ⟨fun ρ hs d hs' h => by cases h; exact .refl⟩
theorem lcGo_grows {g : GM} {c : BM} {f : EM} [qc : QB c] [qf : QE f] {ρ : En} : ∀ {ds : List D} {hs : Hs} {acc : List D} {r : List D × Hs}, lcGo g c f ρ ds hs acc = some r → Grows hs r.2
  | [], hs, acc, r, h => by cases h; exact .refl
  | d :: ds, hs, acc, r, h => by
    unfold lcGo at h
    split at h
    · split at h
      · rename_i e1
        split at h
        · rename_i e2
          exact ((qc.q _ _ _ _ e1).trans (qf.q _ _ _ _ e2)).trans (lcGo_grows h)
        · cases h
      · rename_i e1
        exact (qc.q _ _ _ _ e1).trans (lcGo_grows h)
      · cases h
    · cases h
instance {s : IM} {g : GM} {c : BM} {f : EM} {vs : List Nat} [a : QI s] [qc : QB c] [qf : QE f] : QE (mLc s g c f vs) := ⟨fun ρ hs d hs' h => by
  unfold mLc at h
  split at h
  · rename_i e1
    split at h
    · split at h
      · rename_i e2
        cases h
        exact ((a.q _ _ _ _ e1).trans (lcGo_grows e2)).trans .one
      · cases h
    · cases h
  · cases h⟩
/-- the reading of a comprehension -/
theorem tm_lc {G : GX} {s : IM} {ts vs : List Nat} {g : GM} {c : BM} {f : EM} [qc : QB c] [qf : QE f] (hts : ∀ i ∈ ts, i ∈ vs) {σ : L2.St} {H : Hp} {Q : VK} (h : TM G (mLc s g c f vs) σ H Q) : tLc (TIW G s) (TGM G ts g) (TB G c) (TM G f) vs σ H Q := by
  obtain ⟨ρ, hs, m, sl, hr, r, hs', ee, q⟩ := h
  unfold mLc at ee
  split at ee
  · rename_i ds hs1 e1
    split at ee
    · rename_i hcap
      have hcap := cap_le hcap
      split at ee
      · rename_i xs hs2 eg
        cases ee
        refine ⟨ρ, hs, m, sl, hr, ds, hs1, e1, fun J H1 m1 n1 hr1 jw L hL => ?_⟩
        have sl1 := sl.nx hr n1
        have nL1 : L ∉ m1 := hr1.no_none hL
        refine ⟨fun i k H' => k = ds.length - i ∧ i ≤ ds.length ∧ ∃ m' r acc ys, Nx m1 H1 m' H' ∧ HR G m' (hs1 ++ r) H' ∧ L ∉ m' ∧ H' L = some (.lst ys) ∧ Reps G.K H' m' acc.reverse ys ∧ acc.length ≤ i ∧ lcGo g c f (wipeE ρ vs) (ds.drop i) (hs1 ++ r) acc = some (xs, hs2),
          ⟨ds.length, by simp, Nat.zero_le _, m1, [], [], [], (Nx.refl).aside hL, ?_, nL1, upd_same, .nil, Nat.zero_le _, by rw [List.append_nil]; exact eg⟩, ?_⟩
        · rw [List.append_nil]; exact hr1.more hL
        rintro i k H' ⟨rfl, hi, m', t, acc, ys, n', hr', nL, eL, racc, lacc, er⟩
        have qj := jw m' H' t n' hr' i
        by_cases hlt : i < ds.length
        · have ed : ds[i]? = some ds[i] := List.getElem?_eq_getElem hlt
          obtain ⟨go, yl⟩ := qj.1 _ ed
          rw [List.drop_eq_getElem_cons hlt] at er
          unfold lcGo at er
          refine .inr ⟨go, fun H'' => ∃ m' r acc ys, Nx m1 H1 m' H'' ∧ HR G m' (hs1 ++ r) H'' ∧ L ∉ m' ∧ H'' L = some (.lst ys) ∧ Reps G.K H'' m' acc.reverse ys ∧ acc.length ≤ i + 1 ∧ lcGo g c f (wipeE ρ vs) (ds.drop (i + 1)) (hs1 ++ r) acc = some (xs, hs2),
            fun H'' h => ⟨ds.length - (i + 1), by omega, rfl, hlt, h⟩, fun x H2 y => ?_⟩
          obtain ⟨n2, hr2, rx⟩ := yl x H2 y
          -- what stays of the new list
          have keepL : ∀ {H3 : Hp} {m3 : List Addr}, Nx m' H2 m3 H3 → H3 L = some (.lst ys) ∧ L ∉ m3 := fun {H3 m3} n3 => by
            have e2 : H2 L = some (.lst ys) := n2.keep L _ eL nL fun _ z => by cases z
            refine ⟨n3.keep L _ e2 nL (fun _ z => by cases z), fun z => ?_⟩
            have := n3.fresh L z nL
            rw [e2] at this; cases this
          split at er
          · rename_i ρ2 e2
            refine ⟨ds[i], wipeE ρ vs, hs1 ++ t, m', (((sl1.nx hr1 n').nx hr' n2).wipe vs), hr2, rx, ρ2, e2, fun σ2 sl2 off => ?_⟩
            refine ⟨off.wipe hts, ?_⟩
            refine ⟨ρ2, hs1 ++ t, m', sl2, hr2, ?_⟩
            split at er
            · rename_i hs3 e3
              obtain ⟨t3, rfl⟩ := qc.q _ _ _ _ e3
              refine ⟨true, _, e3, fun H3 m3 n3 hr3 => iteT ⟨ρ2, _, m3, sl2.nx hr2 n3, hr3, ?_⟩⟩
              split at er
              · rename_i x1 hs4 e4
                obtain ⟨t4, rfl⟩ := qf.q _ _ _ _ e4
                refine ⟨x1, _, e4, fun yv H4 m4 n4 hr4 ry => ?_⟩
                have n24 := n3.trans n4
                obtain ⟨eL4, nL4⟩ := keepL n24
                have racc4 := (racc.nx hr' n2).nx hr2 n24
                have la := racc4.length
                rw [List.length_reverse] at la
                refine ⟨ys, eL4, by omega, m4, t ++ t3 ++ t4, x1 :: acc, ys ++ [yv], ((n'.trans n2).trans n24).aside hL, ?_, nL4, upd_same, ?_, by simp; omega, ?_⟩
                · have e5 : hs1 ++ (t ++ t3 ++ t4) = hs1 ++ t ++ t3 ++ t4 := by simp only [List.append_assoc]
                  rw [e5]
                  exact (hr4.aside eL4 nL4).1
                · rw [List.reverse_cons]
                  have ra := (hr4.aside (ys := ys ++ [yv]) eL4 nL4).2
                  have rs : ∀ (ds : List D) (vs : List V), Reps G.K H4 m4 ds vs → Reps G.K (upd H4 L (.lst (ys ++ [yv]))) m4 ds vs := fun ds => by
                    induction ds with
                    | nil => intro vs r; cases r; exact .nil
                    | cons d ds ih => intro vs r; cases r with | cons r t => exact .cons (ra _ _ r) (ih _ t)
                  exact (rs _ _ racc4).append (.cons (ra _ _ ry) .nil)
                · have e5 : hs1 ++ (t ++ t3 ++ t4) = hs1 ++ t ++ t3 ++ t4 := by simp only [List.append_assoc]
                  rw [e5]; exact er
              · cases er
            · rename_i hs3 e3
              obtain ⟨t3, rfl⟩ := qc.q _ _ _ _ e3
              refine ⟨false, _, e3, fun H3 m3 n3 hr3 => iteF ?_⟩
              obtain ⟨eL3, nL3⟩ := keepL n3
              refine ⟨m3, t ++ t3, acc, ys, (n'.trans n2).trans n3, ?_, nL3, eL3, (racc.nx hr' n2).nx hr2 n3, by omega, ?_⟩
              · rw [← List.append_assoc]; exact hr3
              · rw [← List.append_assoc]; exact er
            · cases er
          · cases er
        · have ei : i = ds.length := by omega
          subst ei
          rw [List.drop_length] at er
          cases er
          refine .inl ⟨qj.2 (Nat.le_refl _), ?_⟩
          have ha := hr'.adopt eL nL racc
          refine q _ H' (m' ++ [L]) ⟨?_, fun a h1 h2 => ?_, (n1.trans n').keep, (n1.trans n').there⟩ ha (.ref ?_)
          · obtain ⟨t2, e2⟩ := (n1.trans n').pre
            exact ⟨t2 ++ [L], by rw [e2, List.append_assoc]⟩
          · rcases List.mem_append.mp h1 with h1 | h1
            · exact (n1.trans n').fresh a h1 h2
            · rw [List.mem_singleton.mp h1]
              cases z : H L with
              | none => rfl
              | some o => exact absurd hL (n1.there L (by rw [z]; simp))
          · rw [← hr'.len, List.getElem?_append_right (Nat.le_refl _), Nat.sub_self]; rfl
      · cases ee
    · cases ee
  · cases ee
section
variable {X : Cx} {tb : TBs} {elt tg iter : Expr} {ifs : List Expr} {scope : Scope} {own : List (Str × Nat)} {pos : Pos} {s : IM} {ts : List Nat} {g : GM} {c : BM} {f : EM}
/-- [elt for tg in iter if ..] -/
theorem m_lc [qc : QB c] [qf : QE f] (hc : X.calm = true) (hN : X.N.Nodup) (hi : PI X tg iter (TIW (GO X tb) s)) (ok : BlkOk X.N X.env.scope scope own)
    (hg : ∀ (s : Shared) (H : Hp) (C : Addr) (cl : List (Str × Addr)) (fp : List Addr), PG (X.blk s H scope (compEnvC scope cl C X.env) fp) tg (TGM (GO X tb) ts g)) (ht : ∀ (s : Shared) (H : Hp) (C : Addr) (cl : List (Str × Addr)) (fp : List Addr), PTs (X.blk s H scope (compEnvC scope cl C X.env) fp) ifs (TB (GO X tb) c))
    (he : ∀ (s : Shared) (H : Hp) (C : Addr) (cl : List (Str × Addr)) (fp : List Addr), PE (X.blk s H scope (compEnvC scope cl C X.env) fp) elt (TM (GO X tb) f)) (hts : ∀ i ∈ ts, i ∈ own.map (·.2) := by decide) (hs : ∀ x, foldedSetIterable iter X.env x = pure x := by intro _; rfl) :
    PE X (.ListComp elt [⟨tg, iter, ifs, 0⟩] scope pos) (TM (GO X tb) (mLc s g c f (own.map (·.2)))) :=
  (pe_lc hc hN hi ok hg ht he hs).imp fun _ _ _ => tm_lc hts
theorem ms_setLc [qc : QB c] [qf : QE f] {i : Nat} {y : Str} {py spos : Pos} (hc : X.calm = true) (hN : X.N.Nodup) (hy : X.N[i]? = some y) (hyl : X.env.scope.names.lookup y = some .local)
    (hsw : swapsWith (.ListComp elt [⟨tg, iter, ifs, 0⟩] scope pos) (some (.Name y py)) spos.line X.env = pure true) (hi : PI X tg iter (TIW (GO X tb) s)) (ok : BlkOk X.N X.env.scope scope own)
    (hg : ∀ (s : Shared) (H : Hp) (C : Addr) (cl : List (Str × Addr)) (fp : List Addr), PG (X.blk s H scope (compEnvC scope cl C X.env) fp) tg (TGM (GO X tb) ts g)) (ht : ∀ (s : Shared) (H : Hp) (C : Addr) (cl : List (Str × Addr)) (fp : List Addr), PTs (X.blk s H scope (compEnvC scope cl C X.env) fp) ifs (TB (GO X tb) c))
    (he : ∀ (s : Shared) (H : Hp) (C : Addr) (cl : List (Str × Addr)) (fp : List Addr), PE (X.blk s H scope (compEnvC scope cl C X.env) fp) elt (TM (GO X tb) f)) (hts : ∀ i ∈ ts, i ∈ own.map (·.2) := by decide) (hs : ∀ x, foldedSetIterable iter X.env x = pure x := by intro _; rfl) :
    PS X (.Assign [.Name y py] (.ListComp elt [⟨tg, iter, ifs, 0⟩] scope pos) spos) (TSM (GO X tb) (mSet i (mLc s g c f (own.map (·.2))))) := by
  refine (ps_setLc hc hN hy hyl hsw hi ok hg ht he hs).imp fun D σ H ⟨ρ, hs, m, sl, hr, r, ee, q⟩ => ?_
  unfold mSet at ee
  split at ee
  · rename_i d hs' e'
    cases ee
    exact tm_lc hts ⟨ρ, hs, m, sl, hr, d, hs', e', fun v H' m' n' hr' rv => q _ H' m' n' hr' ((sl.nx hr n').set rv i)⟩
  · cases ee
theorem mts_nil {G : GX} : PTs X [] (TB G mYes) := ⟨fun pins s σ H Q I ⟨ρ, hs, m, sl, hr, b, hs', e, q⟩ => by
  cases e
  exact pts_nil.run pins s σ H Q I (q H m .refl hr)⟩
theorem mts_one {G : GX} {e : Expr} (h : PT X e (TB G c)) : PTs X [e] (TB G c) := pts_one h
end
end Mir

/-! MirG: any, all of a generator expression. -/
namespace L2
open PySem PySem.Spec PyProof.Rows GenW

theorem Inv.same {X : Cx} {pins : List (Addr × Obj)} {σ : St} {H : Hp} {s s' : Shared} (I : Inv X pins σ H s) (h : s'.heap = s.heap) (o : s'.os = s.os) (g : AllBare s'.gens) : Inv X pins σ H s' :=
  ⟨I.ok, o.trans I.os, g, by rw [h]; exact I.base, by rw [h]; exact I.loc, fun x c e => by rw [h]; exact I.cell x c e, I.free, I.freeC, fun p hp => by rw [h]; exact I.pin p hp, by rw [h]; exact I.hok, I.len⟩

/-- the context of a generator expression's frame -/
abbrev Cx.gx (X : Cx) (s : Shared) (H : Hp) (cenv : Env) (fp : List Addr) (A : Around) : Cx :=
  { X with s_0 := s, H_0 := H, env := cenv, outer := X.stack, stack := cenv :: X.stack, ex := fp, fn := fun _ => false, pn := [], A := A, xe := fun _ _ => False }

section
variable {X : Cx} {pins : List (Addr × Obj)} {σ : St} {H : Hp} {s s' : Shared}
theorem gx_start {scope : Scope} {own : List (Str × Nat)} {fp : List Addr} {C a : Addr} {code : Value} {A' : Around} {m : Str → Option Value} {o : Obj} (I : Inv X pins σ H s) (ok : BlkOk X.N X.env.scope scope own) (hcell : ∀ y ∈ scope.names, y.2 ≠ .cell) (hN : X.N.Nodup)
    (hfp : ∀ b ∈ fp, FpOk X pins H b ∧ b < s.heap.objs.size) (hC : C = s.heap.objs.size) (hA : A'.handled = none) (hfr : A'.frames = some (genEnv scope (cloFrom X.env.cells scope.names []) C code builtinsNs X.env :: X.stack))
    (kp : ∀ b u, s.heap.get? b = some u → s'.heap.get? b = some u) (hn : s'.heap.Ns C m) (hos : s'.os = s.os) (hb : AllBare s'.gens) (ha : s.heap.objs.size < a) (hao : s'.heap.get? a = some o) (hod : ∀ v, o.data ≠ .cell v) :
    Inv (X.gx s H (genEnv scope (cloFrom X.env.cells scope.names []) C code builtinsNs X.env) fp A') [(a, o)] (wipe σ (own.map (·.2))) H s' := by
  have hfree : ∀ y ∈ scope.names, y.2 = .free → ∃ c, X.env.cells.lookup y.1 = some c := fun y hy e => by
    rcases ok.free y hy e with k | k
    · exact I.ok.has _ (.inl k)
    · exact I.ok.has _ (.inr k)
  have cm : ∀ {y c}, (cloFrom X.env.cells scope.names []).lookup y = some c → X.env.cells.lookup y = some c ∧ c < s.heap.objs.size := fun {y c} hm => by
    rcases cloFrom_mem (PySem.mem_of_lookup hm) with hm | ⟨h1, rfl⟩
    · cases hm
    · obtain ⟨c, hc⟩ := hfree _ h1 rfl
      rw [hc]
      obtain ⟨w, z⟩ := I.cell _ _ hc
      exact ⟨rfl, z.lt⟩
  have look : ∀ {y}, scope.names.lookup y = some .free → ∃ c, (cloFrom X.env.cells scope.names []).lookup y = some c ∧ X.env.cells.lookup y = some c := fun {y} hl => by
    obtain ⟨c', e'⟩ := mem_lookup (cloFrom_has (cells := X.env.cells) (acc := []) (PySem.mem_of_lookup hl))
    exact ⟨c', e', (cm e').1⟩
  have okB : (X.gx s H (genEnv scope (cloFrom X.env.cells scope.names []) C code builtinsNs X.env) fp A').Ok := by
    refine ⟨I.ok.mod, ok.kind, I.ok.glob, rfl, by show s.heap.objs.size ≤ C; rw [hC]; exact Nat.le_refl _,
      fun y z c e1 e2 => I.ok.inj y z c (cm e1).1 (cm e2).1, fun y hy => ?_, fun y c z e => ?_, fun _ => hA, hfr, .inr ⟨rfl, rfl⟩, fun b hb => ⟨?_, fun y c e z => ?_⟩, I.bs, Nat.le_trans I.ok.bsz I.sz, fun b o e hb => ?_, fun b hb z => ?_, I.stack, I.stkFree⟩
    · rcases hy with hy | hy
      · have hy : scope.names.lookup y = some .cell := hy
        exact absurd rfl (hcell _ (PySem.mem_of_lookup hy))
      · have hy : scope.names.lookup y = some .free := hy
        obtain ⟨c, h1, _⟩ := look hy
        exact ⟨c, h1⟩
    · exact absurd z Bool.false_ne_true
    · show b ≠ C
      rw [hC]; exact Nat.ne_of_lt (hfp b hb).2
    · exact (hfp b hb).1.2.2.2.2.1 y c (cm e).1 z
    · rcases (hfp b hb).1.2.2.2.1 with z | z
      · exact I.ok.noex b o e z
      · exact absurd (Nat.lt_of_lt_of_le (Heap.lt_size e) (Nat.le_trans I.ok.bsz z)) (Nat.lt_irrefl _)
    · rcases List.mem_cons.mp (I.stkSub b z) with z | z
      · exact (hfp b hb).1.2.1 z
      · exact (hfp b hb).1.2.2.1 z
  refine ⟨okB, hos, hb, Un.kept kp, ⟨m, hn, fun i y av e1 e2 e3 => ?_⟩, fun y c e => ?_, ?_, fun y c e => ?_, fun p hp => ?_, I.hok.kept kp, by rw [wipe_length]; exact I.len⟩
  · obtain ⟨e2, hne⟩ := wipe_some e2
    have e3 : Vis scope y := e3
    have no : ∀ k, scope.names.lookup y = some k → ¬ (k = .local ∨ k = .cell) := fun k e hh => by
      rcases ok.own _ (PySem.mem_of_lookup e) hh with e' | e'
      · obtain ⟨p, hp, hpy⟩ := List.mem_map.mp e'
        have e3 := ok.ix p hp
        have : p.1 = y := hpy
        rw [this] at e3
        exact hne (List.mem_map.mpr ⟨p, hp, nodup_ix hN e3 e1⟩)
      · exact e' (List.mem_of_getElem? e1)
    have hfr : scope.names.lookup y = some .free := by
      rcases e3 with e3 | e3 | e3
      · exact absurd (.inl rfl) (no _ e3)
      · exact absurd (.inr rfl) (no _ e3)
      · exact e3
    obtain ⟨m, hn, hl⟩ := I.loc
    have hvis : Vis X.env.scope y := (ok.free _ (PySem.mem_of_lookup hfr) rfl).elim (fun k => .inr (.inl k)) (fun k => .inr (.inr k))
    obtain ⟨w, r, q⟩ := hl i y av e1 e2 hvis
    refine ⟨w, r, .inr ⟨.inr hfr, ?_⟩⟩
    obtain ⟨c, h1, h2⟩ := look hfr
    rcases q with ⟨k, _⟩ | ⟨_, c', e', z⟩
    · have k : X.env.scope.names.lookup y = some .local := k
      rcases ok.free _ (PySem.mem_of_lookup hfr) rfl with k' | k' <;> rw [show X.env.scope.names.lookup y = _ from k'] at k <;> cases k
    · rw [h2] at e'; cases e'
      exact ⟨c, h1, z.keeps kp⟩
  · obtain ⟨w, z⟩ := I.cell y c (cm e).1
    exact ⟨w, z.keeps kp⟩
  · show H C = none
    rw [hC]; exact I.hok.fresh (Nat.le_refl _)
  · exact I.freeC y c (cm e).1
  · have e : p = (a, o) := by
      have hp : p ∈ ([] : List (Addr × Obj)) ++ [(a, o)] := hp
      simpa using hp
    subst e
    refine ⟨hao, I.hok.fresh (Nat.le_of_lt ha), ?_, ?_, hod⟩
    · show a ≠ C
      rw [hC]; exact Nat.ne_of_gt ha
    · show a ∉ frs X.stack
      intro z
      rcases List.mem_cons.mp (I.stkSub a z) with z | z
      · have := I.lt
        rw [← z] at this
        exact absurd (Nat.lt_trans ha this) (Nat.lt_irrefl _)
      · exact I.nofs (Nat.le_of_lt ha) z
end

/-- any, all: stop is the value that ends the walk -/
def tAnyG (P : Addr) (stop : Bool) (wi : TI) (g : TG) (tt : TT) (te : TE) (vs : List Nat) : TE := fun σ H Q => wi σ H fun J H1 => Mir.TabG H1 P ∧ ∀ H2, GxR.Tabbed P H1 H2 → ∃ W : Nat → Nat → Hp → Prop, (∃ k, W 0 k H2) ∧ ∀ i k H', W i k H' →
  (J.stop i H' ∧ Q (.bl (!stop)) H') ∨ (J.go i H' ∧ ∃ Nx : Hp → Prop, (∀ H'', Nx H'' → ∃ k', k' < k ∧ W (i + 1) k' H'') ∧ ∀ x H'', J.yld i H' x H'' → g x (wipe σ vs) H'' fun σ3 H3 => wipe σ3 vs = wipe σ vs ∧ tt σ3 H3 fun b H4 =>
    if b = true then te σ3 H4 fun y H5 => ∃ b' : Bool, y = .bl b' ∧ (b' = stop → Q (.bl stop) H5) ∧ (b' ≠ stop → Nx H5) else Nx H4)

section
variable {X : Cx} {pins : List (Addr × Obj)} {σ : St} {H : Hp} {s : Shared}
/-- the ends of the generator's run -/
abbrev RG (Xg : Cx) (pg : List (Addr × Obj)) (stop : Bool) (Q : VK) : Nat → Shared → Shared → Prop := fun _ _ s1 => ∃ σ' H', Inv Xg pg σ' H' s1 ∧ Q (.bl (!stop)) H'
/-- its yields -/
abbrev YG (Xg : Cx) (pg : List (Addr × Obj)) (stop : Bool) (Q : VK) : Protocol := fun _ _ v s1 kap => ∃ b σ' H', v = .bool b ∧ Inv Xg pg σ' H' s1 ∧ (b = stop → Q (.bl stop) H') ∧ (b ≠ stop → ∀ s'' : Shared, s''.heap = s1.heap → s''.os = s1.os → AllBare s''.gens → kap (.send .none) s'')

theorem seg_anyG {Xg : Cx} {pg : List (Addr × Obj)} {stop : Bool} {Q : VK} {A : Around} {elt tg iter : Expr} {ifs : List Expr} {scope : Scope} {pos : Pos} {it : Addr} {fp : List Addr} {tn : Nat → Heap → Prop} {J : It} {g : TG} {tt : TT} {te : TE} {σw : St} {W : Nat → Nat → Hp → Prop} {vs : List Nat} {σ₀ : St}
    (hσ : σw = wipe σ₀ vs) (hco : Xg.env.scope.isCoroutine = false) (hc : Xg.calm = true) (hXA : Xg.A = A.over (.compLoop (.GeneratorExp elt [⟨tg, iter, ifs, 0⟩] scope pos) 0 (.ref it) .none Xg.env) []) (hxe : Xg.xe = fun _ _ => False)
    (T : Turn Xg.prog Xg.w Xg.K tg J fp it tn) (hfx : ∀ b ∈ fp, b ∈ Xg.ex) (hpg : ∀ p ∈ Xg.pn ++ pg, ∀ b ∈ fp, p.1 ≠ b) (pg_ : PG Xg tg g) (pt : PTs Xg ifs tt) (pe : PE Xg elt te)
    (turn : ∀ i k H', W i k H' → (J.stop i H' ∧ Q (.bl (!stop)) H') ∨ (J.go i H' ∧ ∃ Nx : Hp → Prop, (∀ H'', Nx H'' → ∃ k', k' < k ∧ W (i + 1) k' H'') ∧ ∀ x H'', J.yld i H' x H'' → g x σw H'' fun σ3 H3 => wipe σ3 vs = σw ∧ tt σ3 H3 fun b H4 =>
      if b = true then te σ3 H4 fun y H5 => ∃ b' : Bool, y = .bl b' ∧ (b' = stop → Q (.bl stop) H5) ∧ (b' ≠ stop → Nx H5) else Nx H4)) :
    ∀ (k n i : Nat) (s₀ s : Shared) (H : Hp), k < n → Inv Xg pg σw H s → tn i s.heap → (∀ b ∈ fp, H b = none) → W i k H →
      Seg (model Xg.prog Xg.w) A (fun n s₀ r s1 => r = .ok .next ∧ RG Xg pg stop Q n s₀ s1) (YG Xg pg stop Q) n s₀
        (.compLoop (.GeneratorExp elt [⟨tg, iter, ifs, 0⟩] scope pos) 0 (.ref it) .none Xg.env)
        ((model Xg.prog Xg.w).den (.compLoop (.GeneratorExp elt [⟨tg, iter, ifs, 0⟩] scope pos) 0 (.ref it) .none Xg.env)) [] s := by
  intro k
  induction k using Nat.strongRecOn with
  | ind k ih =>
  intro n i s₀ s H hkn I st nf w
  have stat : ∀ {σ' : St} {H' : Hp} {s' : Shared}, Inv Xg pg σ' H' s' → (∀ b ∈ fp, H' b = none) → ∀ b ∈ fp, FpOk Xg pg H' b := fun {σ' H' s'} I' hn b hb =>
    ⟨hn b hb, (I'.ok.exf b (hfx b hb)).1, I'.ok.exfs b (hfx b hb), .inl (hfx b hb), fun x c e => (I'.ok.exf b (hfx b hb)).2 x c e, fun p hp => hpg p hp b hb⟩
  show Seg _ A _ _ _ s₀ _ ((compTurn (.GeneratorExp elt [⟨tg, iter, ifs, 0⟩] scope pos) 0 (.ref it) .none Xg.env).onRaise (leaving Xg.env)) [] s
  rw [compTurn_gen, Sem.onRaise_eq_wrap]
  refine seg_bind_wrap (wpAny_standAt ?_)
  rcases turn i k H w with ⟨stp, hq⟩ | ⟨go, Nx, hNx, step⟩
  · have td := T.done Xg rfl rfl rfl hc i pg s σw H (fun _ _ => False) I (stat I nf) st stp
    rw [hXA] at td
    refine seg_bind_wrap (thnF td fun r s1 ⟨hr, I1⟩ => ?_)
    subst hr
    exact seg_end (.ok .next) ⟨rfl, σw, H, I1, hq⟩
  · have ti := T.item Xg rfl rfl rfl hc i pg s σw H (fun _ _ => False) I (stat I nf) st go
    rw [hXA] at ti
    refine seg_bind_wrap (thnF ti fun r s1 ⟨u, hr, h1⟩ => ?_)
    subst hr
    refine seg_bind_wrap (thnF h1 fun _ s2 ⟨x, H2, I2, r2, y2, st2, n2⟩ => ?_)
    have I2' := I2.pinned (stat I2 n2) (T.obj _ _ st2)
    have qg := pg_.run _ s2 σw H2 x u _ I2' r2 (step x H2 y2)
    rw [hXA, hxe] at qg
    refine seg_bind_wrap (thnF qg fun _ s3 ⟨σ3, H3, I3, hw3, q3⟩ => ?_)
    have qt := pt.run _ s3 σ3 H3 _ I3 q3
    rw [hXA, hxe] at qt
    refine seg_bind_wrap (thnF qt fun b s4 ⟨H4, I4, q4⟩ => ?_)
    have fin : ∀ {s' : Shared} {H' : Hp}, Inv Xg (pg ++ pinsAt fp s2.heap) σ3 H' s' → Nx H' → ∃ k', k' < k ∧ Inv Xg pg σw H' s' ∧ tn (i + 1) s'.heap ∧ (∀ b ∈ fp, H' b = none) ∧ W (i + 1) k' H' := fun {s' H'} I' nx => by
      obtain ⟨k', hk, w'⟩ := hNx H' nx
      have pin' : ∀ b ∈ fp, ∀ o, s2.heap.get? b = some o → s'.heap.get? b = some o ∧ H' b = none := fun b hb o e =>
        let z := I'.pin (b, o) (List.mem_append_right _ (List.mem_append_right _ (mem_pinsAt hb e)))
        ⟨z.1, z.2.1⟩
      refine ⟨k', hk, (I'.unpinned (pins := pg)).weak (by rw [← hw3, wipe_length]) (fun j v e => ?_), T.keep _ _ _ st2 fun b hb o e => (pin' b hb o e).1, fun b hb => ?_, w'⟩
      · rw [← hw3] at e
        exact (wipe_some e).1
      · obtain ⟨o, e, _⟩ := T.obj _ _ st2 b hb
        exact (pin' b hb o e).2
    cases b with
    | false =>
      simp only [Bool.false_eq_true, if_false] at q4 ⊢
      obtain ⟨k', hk, I5, st5, n5, w5⟩ := fin I4 q4
      exact seg_again rfl (ih k' hk n (i + 1) s₀ s4 H4 (Nat.lt_trans hk hkn) I5 st5 n5 w5)
    | true =>
      simp only [if_true] at q4 ⊢
      have qe := pe.run _ s4 σ3 H4 _ I4 q4
      rw [hXA, hxe] at qe
      have hy : ∀ v, yieldOut Xg.env v = yieldValue v := fun v => by simp only [yieldOut, hco, Bool.false_eq_true, if_false]
      simp only [hy]
      rw [Sem.bind_eq_wrap', Sem.bind_eq_wrap', Sem.wrap_wrap, Sem.wrap_wrap]
      refine seg_wrap (thnF qe fun y s5 ⟨yv, H5, I5, r5, b', e5, q5, nx5⟩ => ?_)
      subst e5
      cases r5
      obtain ⟨n', rfl⟩ : ∃ n', n = n' + 1 := ⟨n - 1, by omega⟩
      refine seg_at (seg_yield rfl rfl rfl ⟨b', σ3, H5, rfl, I5.unpinned (pins := pg), q5, fun hb s'' h1 h2 h3 => ?_⟩)
      obtain ⟨k', hk, I6, st6, n6, w6⟩ := fin (I5.same h1 h2 h3) (nx5 hb)
      exact seg_again rfl (ih k' hk n' (i + 1) s'' s'' H5 (by omega) I6 st6 n6 w6)

theorem seg_anyStart {Xg : Cx} {pg : List (Addr × Obj)} {stop : Bool} {Q : VK} {A : Around} {elt tg iter : Expr} {ifs : List Expr} {scope : Scope} {pos : Pos} {it : Addr} {fp : List Addr} {tn : Nat → Heap → Prop} {J : It} {n : Nat} {s₀ s : Shared}
    (hc : Xg.calm = true) (T : Turn Xg.prog Xg.w Xg.K tg J fp it tn) (st : tn 0 s.heap)
    (loop : Seg (model Xg.prog Xg.w) A (fun n s₀ r s1 => r = .ok .next ∧ RG Xg pg stop Q n s₀ s1) (YG Xg pg stop Q) n s₀
        (.compLoop (.GeneratorExp elt [⟨tg, iter, ifs, 0⟩] scope pos) 0 (.ref it) .none Xg.env)
        ((model Xg.prog Xg.w).den (.compLoop (.GeneratorExp elt [⟨tg, iter, ifs, 0⟩] scope pos) 0 (.ref it) .none Xg.env)) [] s) :
      Seg (model Xg.prog Xg.w) A (fun n s₀ r s1 => r = .ok .next ∧ RG Xg pg stop Q n s₀ s1) (YG Xg pg stop Q) n s₀
        (.compStart (.GeneratorExp elt [⟨tg, iter, ifs, 0⟩] scope pos) 0 (.ref it) .none Xg.env)
        ((model Xg.prog Xg.w).den (.compStart (.GeneratorExp elt [⟨tg, iter, ifs, 0⟩] scope pos) 0 (.ref it) .none Xg.env)) [] s := by
  show Seg _ A _ _ _ s₀ _ ((compStart (.GeneratorExp elt [⟨tg, iter, ifs, 0⟩] scope pos) 0 (.ref it) .none Xg.env).onRaise (leaving Xg.env)) [] s
  unfold compStart
  rw [Sem.onRaise_eq_wrap]
  show Seg _ A _ _ _ s₀ _ ((ask >>= _).wrap _ _ _ _) [] s
  refine seg_bind_wrap (wpAny_askSetting ?_)
  split
  · exact seg_again rfl loop
  · refine seg_bind_wrap (wpAny_rule ?_)
    show Seg _ A _ _ _ s₀ _ ((standAt iter.pos >>= _).wrap _ _ _ _) [] s
    exact seg_bind_wrap (wpAny_standAt (seg_bind_wrap (T.self _ 0 s _ _ st (seg_again rfl loop))))

/-- the consumer's loop -/
theorem codeAny_allG {Xg : Cx} {pg : List (Addr × Obj)} {Q : VK} {A : Around} {a : Addr} {g : Nat} {R : Result → Shared → Prop} (hh : A.handled = none) (hroom : A.depth < recursionLimit) (hpg : ∀ {σ : St} {H : Hp} {s : Shared}, Inv Xg pg σ H s → s.heap.IsGen a g)
    (hR : ∀ σ' H' s' b, Inv Xg pg σ' H' s' → Q (.bl b) H' → R (.ok (.ret (.bool b))) s') :
    ∀ (n : Nat) (s : Shared) (σ : St) (H : Hp), Inv Xg pg σ H s → (∃ gs, s.gens[g]? = some gs ∧ gs.Goes (model Xg.prog Xg.w) A.in1.in1 (fun n s₀ r s1 => r = .ok .next ∧ RG Xg pg false Q n s₀ s1) (YG Xg pg false Q) n (.send .none) (s.setGen g .running)) →
      codeAny (model Xg.prog Xg.w) A (.builtin "all.loop" ⟨[.ref a], []⟩) R s := by
  intro n
  induction n with
  | zero =>
    intro s σ H I ⟨gs, hgs, hgo⟩
    refine codeAny_builtin F.entry_all_loop ?_
    rw [Around.under_plainId F.plain_all_loop _]
    show wpAny _ A.in1 (pyNext (.ref a) >>= _) _ _ s
    refine wpAny_bind (wpAny_pyNext_genexpQ (A := A.in1) hh I.nolimit hroom (hpg I) hgs hgo (fun v s1 gs' hb hv => ?_) fun s1 hp h' hk => ?_)
    · obtain ⟨b, σ1, H1, rfl, I1, q1, q2⟩ := hv
      have I2 : Inv Xg pg σ1 H1 (s1.setGen g gs') := I1.same rfl rfl (allBare_setGen I1.bare hb)
      refine wpAny_bind (wpAny_holding (wpAny_truthy_bool ?_))
      refine wpAny_bind (wpAny_letGo ?_)
      cases b with
      | false =>
        simp only [Bool.false_eq_true, if_false]
        exact wpAny_bind (wpAny_rule (wpAny_pure (hR _ _ _ _ I2 (q1 rfl))))
      | true => exact False.elim (q2 (by simp) s1 rfl rfl I1.bare)
    · obtain ⟨σ1, H1, I1, q1⟩ := hp
      have I2 : Inv Xg pg σ1 H1 { s1.setGen g .finished with heap := h' } := (I1.same (s' := s1.setGen g .finished) rfl rfl (allBare_setGen I1.bare rfl)).kept (t' := s1.toks) hk
      exact wpAny_bind (wpAny_rule (wpAny_pure (hR _ _ _ _ I2 q1)))
  | succ n ih =>
    intro s σ H I ⟨gs, hgs, hgo⟩
    have hgl : g < s.gens.size := (Array.getElem?_eq_some_iff.mp hgs).1
    refine codeAny_builtin F.entry_all_loop ?_
    rw [Around.under_plainId F.plain_all_loop _]
    show wpAny _ A.in1 (pyNext (.ref a) >>= _) _ _ s
    refine wpAny_bind (wpAny_gsz (n := g + 1) hgl (wpAny_pyNext_genexpQ (A := A.in1) hh I.nolimit hroom (hpg I) hgs hgo (fun v s1 gs' hb hv => ?_) fun s1 hp h' hk => ?_))
    · intro hsz
      obtain ⟨b, σ1, H1, rfl, I1, q1, q2⟩ := hv
      have I2 : Inv Xg pg σ1 H1 (s1.setGen g gs') := I1.same rfl rfl (allBare_setGen I1.bare hb)
      refine wpAny_bind (wpAny_holding (wpAny_truthy_bool ?_))
      refine wpAny_bind (wpAny_letGo ?_)
      cases b with
      | false =>
        simp only [Bool.false_eq_true, if_false]
        exact wpAny_bind (wpAny_rule (wpAny_pure (hR _ _ _ _ I2 (q1 rfl))))
      | true =>
        simp only [if_true]
        have hsz1 : g < s1.gens.size := by
          have q : (s1.setGen g gs').gens.size = s1.gens.size := setGen_size _ _ _
          have hsz' : g + 1 ≤ (s1.setGen g gs').gens.size := hsz
          omega
        exact wpAny_pure ⟨plainId_quiet F.plain_all_loop _, ih _ σ1 H1 I2 ⟨gs', setGen_at hsz1, q2 (by simp) _ rfl rfl (allBare_setGen I2.bare rfl)⟩⟩
    · intro hsz
      obtain ⟨σ1, H1, I1, q1⟩ := hp
      have I2 : Inv Xg pg σ1 H1 { s1.setGen g .finished with heap := h' } := (I1.same (s' := s1.setGen g .finished) rfl rfl (allBare_setGen I1.bare rfl)).kept (t' := s1.toks) hk
      exact wpAny_bind (wpAny_rule (wpAny_pure (hR _ _ _ _ I2 q1)))
theorem codeAny_anyG {Xg : Cx} {pg : List (Addr × Obj)} {Q : VK} {A : Around} {a : Addr} {g : Nat} {R : Result → Shared → Prop} (hh : A.handled = none) (hroom : A.depth < recursionLimit) (hpg : ∀ {σ : St} {H : Hp} {s : Shared}, Inv Xg pg σ H s → s.heap.IsGen a g)
    (hR : ∀ σ' H' s' b, Inv Xg pg σ' H' s' → Q (.bl b) H' → R (.ok (.ret (.bool b))) s') :
    ∀ (n : Nat) (s : Shared) (σ : St) (H : Hp), Inv Xg pg σ H s → (∃ gs, s.gens[g]? = some gs ∧ gs.Goes (model Xg.prog Xg.w) A.in1.in1 (fun n s₀ r s1 => r = .ok .next ∧ RG Xg pg true Q n s₀ s1) (YG Xg pg true Q) n (.send .none) (s.setGen g .running)) →
      codeAny (model Xg.prog Xg.w) A (.builtin "any.loop" ⟨[.ref a], []⟩) R s := by
  intro n
  induction n with
  | zero =>
    intro s σ H I ⟨gs, hgs, hgo⟩
    refine codeAny_builtin F.entry_any_loop ?_
    rw [Around.under_plainId F.plain_any_loop _]
    show wpAny _ A.in1 (pyNext (.ref a) >>= _) _ _ s
    refine wpAny_bind (wpAny_pyNext_genexpQ (A := A.in1) hh I.nolimit hroom (hpg I) hgs hgo (fun v s1 gs' hb hv => ?_) fun s1 hp h' hk => ?_)
    · obtain ⟨b, σ1, H1, rfl, I1, q1, q2⟩ := hv
      have I2 : Inv Xg pg σ1 H1 (s1.setGen g gs') := I1.same rfl rfl (allBare_setGen I1.bare hb)
      refine wpAny_bind (wpAny_holding (wpAny_truthy_bool ?_))
      refine wpAny_bind (wpAny_letGo ?_)
      cases b with
      | true =>
        simp only [if_true]
        exact wpAny_bind (wpAny_rule (wpAny_pure (hR _ _ _ _ I2 (q1 rfl))))
      | false => exact False.elim (q2 (by simp) s1 rfl rfl I1.bare)
    · obtain ⟨σ1, H1, I1, q1⟩ := hp
      have I2 : Inv Xg pg σ1 H1 { s1.setGen g .finished with heap := h' } := (I1.same (s' := s1.setGen g .finished) rfl rfl (allBare_setGen I1.bare rfl)).kept (t' := s1.toks) hk
      exact wpAny_bind (wpAny_rule (wpAny_pure (hR _ _ _ _ I2 q1)))
  | succ n ih =>
    intro s σ H I ⟨gs, hgs, hgo⟩
    have hgl : g < s.gens.size := (Array.getElem?_eq_some_iff.mp hgs).1
    refine codeAny_builtin F.entry_any_loop ?_
    rw [Around.under_plainId F.plain_any_loop _]
    show wpAny _ A.in1 (pyNext (.ref a) >>= _) _ _ s
    refine wpAny_bind (wpAny_gsz (n := g + 1) hgl (wpAny_pyNext_genexpQ (A := A.in1) hh I.nolimit hroom (hpg I) hgs hgo (fun v s1 gs' hb hv => ?_) fun s1 hp h' hk => ?_))
    · intro hsz
      obtain ⟨b, σ1, H1, rfl, I1, q1, q2⟩ := hv
      have I2 : Inv Xg pg σ1 H1 (s1.setGen g gs') := I1.same rfl rfl (allBare_setGen I1.bare hb)
      refine wpAny_bind (wpAny_holding (wpAny_truthy_bool ?_))
      refine wpAny_bind (wpAny_letGo ?_)
      cases b with
      | true =>
        simp only [if_true]
        exact wpAny_bind (wpAny_rule (wpAny_pure (hR _ _ _ _ I2 (q1 rfl))))
      | false =>
        simp only [Bool.false_eq_true, if_false]
        have hsz1 : g < s1.gens.size := by
          have q : (s1.setGen g gs').gens.size = s1.gens.size := setGen_size _ _ _
          have hsz' : g + 1 ≤ (s1.setGen g gs').gens.size := hsz
          omega
        exact wpAny_pure ⟨plainId_quiet F.plain_any_loop _, ih _ σ1 H1 I2 ⟨gs', setGen_at hsz1, q2 (by simp) _ rfl rfl (allBare_setGen I2.bare rfl)⟩⟩
    · intro hsz
      obtain ⟨σ1, H1, I1, q1⟩ := hp
      have I2 : Inv Xg pg σ1 H1 { s1.setGen g .finished with heap := h' } := (I1.same (s' := s1.setGen g .finished) rfl rfl (allBare_setGen I1.bare rfl)).kept (t' := s1.toks) hk
      exact wpAny_bind (wpAny_rule (wpAny_pure (hR _ _ _ _ I2 q1)))

theorem over_gx_frames {A : Around} {l : List Env} {elt tg iter : Expr} {ifs : List Expr} {scope : Scope} {pos : Pos} {it : Value} {cenv : Env} (h : A.frames = some l) :
    (A.in1.in1.over (.compLoop (.GeneratorExp elt [⟨tg, iter, ifs, 0⟩] scope pos) 0 it .none cenv) []).frames = some (cenv :: l) := by
  have e : (A.in1.in1.over (.compLoop (.GeneratorExp elt [⟨tg, iter, ifs, 0⟩] scope pos) 0 it .none cenv) []).frames = pushEnvs [cenv] A.frames := rfl
  rw [e, h]; rfl
/-- a generator made for any, all -/
def GMk (X : Cx) (pins : List (Addr × Obj)) (σ : St) (stop : Bool) (Q : VK) (a : Addr) (s5 : Shared) : Prop := ∃ (s4 : Shared) (H4 : Hp) (cenv : Env) (fp : List Addr) (A' : Around) (g : Nat) (o : Obj) (σ' : St) (H' : Hp) (n : Nat),
  Inv (X.gx s4 H4 cenv fp A') [(a, o)] σ' H' s5 ∧ (∀ {σ : St} {H : Hp} {s : Shared}, Inv (X.gx s4 H4 cenv fp A') [(a, o)] σ H s → s.heap.IsGen a g) ∧
  (∃ gs, s5.gens[g]? = some gs ∧ ∀ s'' : Shared, s''.heap = s5.heap → s''.os = s5.os → AllBare s''.gens → gs.Goes (model X.prog X.w) X.A.in1.in1 (fun n s₀ r s1 => r = .ok .next ∧ RG (X.gx s4 H4 cenv fp A') [(a, o)] stop Q n s₀ s1) (YG (X.gx s4 H4 cenv fp A') [(a, o)] stop Q) n (.send .none) s'') ∧
  ∀ σ' H' s', Inv (X.gx s4 H4 cenv fp A') [(a, o)] σ' H' s' → Inv X pins σ H' s'

theorem gen_any {c P : Addr} {elt tg iter : Expr} {ifs : List Expr} {gpos : Pos} {scope : Scope} {own : List (Str × Nat)} {wi : TI} {g : TG} {tt : TT} {te : TE} {k : Nat} {stop : Bool} {Q : VK} {Q' : Value → Shared → Prop}
    (hr : Room (k + 1) X.A) (hc : X.calm = true) (hN : X.N.Nodup) (TB : GxR.TabB X.base X.mg c P) (hcode : X.env.code = .ref c) (hco : scope.isCoroutine = false) (hcell : ∀ y ∈ scope.names, y.2 ≠ .cell) (hdot : scope.names.lookup (".0" : Str) = some NameKind.local)
    (ok : BlkOk X.N X.env.scope scope own) (hi : PI X tg iter wi)
    (hg : ∀ (s : Shared) (H : Hp) (C : Addr) (cl : List (Str × Addr)) (fp : List Addr) (code : Value) (A' : Around), Room k A' → PG (X.gx s H (genEnv scope cl C code builtinsNs X.env) fp A') tg g)
    (ht : ∀ (s : Shared) (H : Hp) (C : Addr) (cl : List (Str × Addr)) (fp : List Addr) (code : Value) (A' : Around), Room k A' → PTs (X.gx s H (genEnv scope cl C code builtinsNs X.env) fp A') ifs tt)
    (he : ∀ (s : Shared) (H : Hp) (C : Addr) (cl : List (Str × Addr)) (fp : List Addr) (code : Value) (A' : Around), Room k A' → PE (X.gx s H (genEnv scope cl C code builtinsNs X.env) fp A') elt te)
    (hs : ∀ v, genFold iter X.env v = pure v) (I : Inv X pins σ H s) (h : tAnyG P stop wi g tt te (own.map (·.2)) σ H Q) (hQ : ∀ a s5, GMk X pins σ stop Q a s5 → Q' (.ref a) s5) :
    wpAny (model X.prog X.w) X.A (eval (.GeneratorExp elt [⟨tg, iter, ifs, 0⟩] scope gpos) X.env) Q' X.xe s := by
  have hfree : ∀ y ∈ scope.names, y.2 = .free → ∃ c, X.env.cells.lookup y.1 = some c := fun y hy e => by
    rcases ok.free y hy e with k | k
    · exact I.ok.has _ (.inl k)
    · exact I.ok.has _ (.inr k)
  refine wpAny_GeneratorExp_make hco (closure_ok hfree) hcell hdot ok.kind (by have := hr.dp; omega) ?_ hs
  refine thn (hi.run pins s σ H _ I h) fun xv s1 h1 => thn h1 fun itv s2 h2 => ?_
  obtain ⟨it, fp, tn, J, H1, e, I1, T, st1, f1, ⟨ps, hP, htr⟩, q1⟩ := h2
  subst e
  have hPs : s2.heap.get? P = some { cls := .none, data := .fields ps } := I1.hok P _ hP
  have fpP : ∀ b ∈ fp, b ≠ P := fun b hb e => by
    have z := (f1 b hb).1
    rw [e, hP] at z; cases z
  have cd : PySem.W.CodeHd s2.heap c P := TB.code.keeps fun b u e => I1.bk b u e
  have cont : ∀ (code : Value) (h3 : Heap) (tk : Nat) (ps' : Array Value), Heap.ExtBut P s2.heap h3 → s2.heap.objs.size ≤ h3.objs.size → h3.get? P = some { cls := .none, data := .fields ps' } → (∃ more, ps' = ps ++ more) → TriplesOk ps'.toList →
      wpAny (model X.prog X.w) X.A (builtinsFor X.env.globals X.env.builtins) (fun bi s₄ =>
        ∀ h', h'.Ns s₄.heap.objs.size (fun y => if y = ".0" then some (.ref it) else none) → Heap.SameBut s₄.heap.objs.size (s₄.heap.push { cls := .type "frame", data := .dict #[] }) h' →
          Q' (.ref h'.objs.size) { s₄ with
            gens := s₄.gens.push (.fresh (.compStart (.GeneratorExp elt [⟨tg, iter, ifs, 0⟩] scope gpos) 0 (.ref it) .none (genEnv scope (cloFrom X.env.cells scope.names []) s₄.heap.objs.size code bi X.env))),
            toks := s₄.toks + 1 + 1 + 1,
            heap := h'.push { cls := .type "generator", data := .fields #[.int s₄.gens.size 0, .str "<genexpr>" (s₄.toks + 1), .str (X.env.qual ++ "<genexpr>") (s₄.toks + 1 + 1)] } }) X.xe { s2 with heap := h3, toks := tk } := by
    intro code h3 tk ps' hx hsz hP3 hmore ht3
    obtain ⟨bm, ob, e1, e2, e3, e4, e5, e6, e7, e8⟩ := TB.bm
    obtain ⟨more, rfl⟩ := hmore
    refine wpAny_builtinsFor (m := X.mg) (by rw [I1.ok.glob]; exact (I1.mod.glob.keeps I1.bk).extBut hx TB.gP) e1 e2 (hx _ _ e4 (I1.bk _ _ e5)) e6 e7 e8 ?_
    intro h' hn' hs'
    have I3 := GxR.inv_tab (h' := h3) (g' := s2.gens) (d' := s2.drawn) (t' := tk) I1 hP (fun b u hb e => hx b u hb e) hP3 I1.bare
    have hT : GxR.Tabbed P H1 (upd H1 P (.tbl (ps ++ more))) := ⟨⟨ps ++ more, upd_same, ht3⟩, fun b hb => upd_ne hb⟩
    obtain ⟨W, ⟨k0, w0⟩, turn⟩ := q1 _ hT
    generalize hH3 : upd H1 P (.tbl (ps ++ more)) = H3 at I3 w0
    generalize hs3 : ({ s2 with heap := h3, gens := s2.gens, drawn := s2.drawn, toks := tk } : Shared) = s3 at I3
    have hs3h : s3.heap = h3 := by rw [← hs3]
    have st3 : tn 0 s3.heap := T.keep _ _ _ st1 fun b hb o e => by rw [hs3h]; exact hx b o (fpP b hb) e
    have f3 : ∀ b ∈ fp, FpOk X pins H3 b ∧ b < s3.heap.objs.size := fun b hb => by
      refine ⟨⟨?_, (f1 b hb).2⟩, ?_⟩
      · rw [← hH3, upd_ne (fpP b hb)]; exact (f1 b hb).1
      · obtain ⟨o, e, _⟩ := T.obj _ _ st3 b hb
        exact Heap.lt_size e
    have hn' : h'.Ns s3.heap.objs.size (fun y => if y = ".0" then some (.ref it) else none) := by rw [hs3h]; exact hn'
    have hs' : Heap.SameBut s3.heap.objs.size (s3.heap.push { cls := .type "frame", data := .dict #[] }) h' := by rw [hs3h]; exact hs'
    have hsz' : h'.objs.size = s3.heap.objs.size + 1 := by rw [hs'.1, Heap.size_push]
    have keep' : ∀ b o, s3.heap.get? b = some o → h'.get? b = some o := fun b o e => hs'.extBut b o (Nat.ne_of_lt (Heap.lt_size e)) (Heap.get?_push_of_some _ e)
    generalize hcenv : genEnv scope (cloFrom X.env.cells scope.names []) s3.heap.objs.size code builtinsNs X.env = cenv
    generalize ho : ({ cls := .type "generator", data := .fields #[.int s3.gens.size 0, .str "<genexpr>" (s3.toks + 1), .str (X.env.qual ++ "<genexpr>") (s3.toks + 1 + 1)] } : Obj) = o
    generalize hs5 : ({ heap := h'.push o, gens := s3.gens.push (.fresh (.compStart (.GeneratorExp elt [⟨tg, iter, ifs, 0⟩] scope gpos) 0 (.ref it) .none cenv)), drawn := s3.drawn, toks := s3.toks + 1 + 1 + 1, os := s3.os } : Shared) = s5
    have h5h : s5.heap = h'.push o := by rw [← hs5]
    have hao : s5.heap.get? h'.objs.size = some o := by rw [h5h]; exact Heap.get?_push_size _ (by rw [← ho]; rfl)
    have keep5 : ∀ b u, s3.heap.get? b = some u → s5.heap.get? b = some u := fun b u e => by rw [h5h]; exact Heap.get?_push_of_some _ (keep' b u e)
    generalize hA' : X.A.in1.in1.over (.compLoop (.GeneratorExp elt [⟨tg, iter, ifs, 0⟩] scope gpos) 0 (.ref it) .none cenv) [] = A'
    have hfr : A'.frames = some (cenv :: X.stack) := by rw [← hA']; exact over_gx_frames I1.ok.frames
    have hrk : Room k A' := by
      rw [← hA']
      refine ⟨hr.hd, ?_, ?_⟩
      · have := hr.dp
        show X.A.depth + 0 + 1 + 3 * k + 5 < _
        omega
      · have := hr.un
        show X.A.units + 1 + 1 + 0 + 3 + 16 * k + 200 < _
        omega
    have I4 := gx_start (C := s3.heap.objs.size) (a := h'.objs.size) (code := code) (A' := A') (s' := s5) (o := o)
      I3 ok hcell hN f3 rfl hrk.hd (by rw [hcenv]; exact hfr) keep5 (by rw [h5h]; exact hn'.push _) (by rw [← hs5]) (by rw [← hs5]; exact I3.bare.push rfl) (by rw [hsz']; exact Nat.lt_succ_self _) hao (fun v z => by rw [← ho] at z; cases z)
    rw [hcenv] at I4
    have pg_ := hg s3 H3 s3.heap.objs.size (cloFrom X.env.cells scope.names []) fp code _ hrk
    have pt := ht s3 H3 s3.heap.objs.size (cloFrom X.env.cells scope.names []) fp code _ hrk
    have pe := he s3 H3 s3.heap.objs.size (cloFrom X.env.cells scope.names []) fp code _ hrk
    rw [hcenv] at pg_ pt pe
    have hsc : cenv.scope.isCoroutine = false := by rw [← hcenv]; exact hco
    have hneq : ∀ b ∈ fp, h'.objs.size ≠ b := fun b hb e => by
      have q : b < s3.heap.objs.size := (f3 b hb).2
      have e' : s3.heap.objs.size + 1 = b := hsz'.symm.trans e
      rw [← e'] at q
      exact absurd q (Nat.not_lt.mpr (Nat.le_succ _))
    have loop := seg_anyG (Xg := X.gx s3 H3 cenv fp A') (pg := [(h'.objs.size, o)]) (Q := Q) (scope := scope) (pos := gpos)
      (W := W) (σ₀ := σ) (vs := own.map (·.2)) (A := X.A.in1.in1) rfl hsc hc hA'.symm rfl T (fun b hb => hb) (fun p hp b hb => by
        have hp : p ∈ ([] : List (Addr × Obj)) ++ [(h'.objs.size, o)] := hp
        rw [List.nil_append, List.mem_singleton] at hp
        rw [hp]; exact hneq b hb) pg_ pt pe turn
    refine hQ _ _ ⟨s3, H3, cenv, fp, A', s3.gens.size, o, _, _, k0 + 1, I4, fun {σ H s} I' => ?_, ⟨.fresh (.compStart (.GeneratorExp elt [⟨tg, iter, ifs, 0⟩] scope gpos) 0 (.ref it) .none cenv), ?_, fun s'' h1 h2 h3 => ⟨rfl, ?_⟩⟩, fun σ' H' s' I' => ?_⟩
    · rw [← ho] at I'
      exact ⟨_, _, _, (I'.pin _ (List.mem_append_right _ List.mem_cons_self)).1, rfl, rfl, rfl⟩
    · rw [← hs5]; exact Array.getElem?_push_size ..
    · have I5 := I4.same h1 h2 h3
      have st5 : tn 0 s''.heap := by
        rw [h1]
        exact T.keep _ _ _ st3 fun b hb o e => keep5 b o e
      have lp := loop k0 (k0 + 1) 0 s'' s'' H3 (Nat.lt_succ_self _) I5 st5 (fun b hb => (f3 b hb).1.1) w0
      exact seg_anyStart (Xg := X.gx s3 H3 cenv fp A') hc T st5 lp
    · refine I3.call' (ch := fp) I'.os I'.base I'.hok I'.bare fun b hb => ⟨(f3 b hb).1.2.2.2.1, (f3 b hb).1.2.1, (f3 b hb).1.2.2.2.2.1, (f3 b hb).1.2.2.2.2.2⟩
  refine ⟨I1.nolimit, ?_⟩
  cases hf : codeAmong gpos ps.toList with
  | none =>
    refine wpAny_genexprCodeX hcode (cd.code hPs htr) (cd.tab hPs) hf fun c' h' tk hx hge hlt hco' _ htab' _ => ?_
    obtain ⟨o1, vs, f1, tf, fl, tg, inF, tx, tt, op, _, _, _, _, _, _, _, _, _, htr, _⟩ := hco'
    exact cont _ h' tk _ hx (Nat.le_trans hge (Nat.le_of_lt hlt)) htab'.2 ⟨_, rfl⟩ htr
  | some cv =>
    refine wpAny_genexprCode_hit hcode (cd.code hPs htr) hf ?_
    exact cont cv s2.heap s2.toks ps (Heap.ExtBut.refl _ _) (Nat.le_refl _) hPs ⟨#[], by simp⟩ htr

theorem pe_allG {c P : Addr} {elt tg iter : Expr} {ifs : List Expr} {p pos gpos : Pos} {scope : Scope} {own : List (Str × Nat)} {wi : TI} {g : TG} {tt : TT} {te : TE} {k : Nat}
    (hr : Room (k + 1) X.A) (hG : Gl X "all") (hm : X.mg "all" = none) (hc : X.calm = true) (hN : X.N.Nodup) (TB : GxR.TabB X.base X.mg c P) (hcode : X.env.code = .ref c) (hco : scope.isCoroutine = false) (hcell : ∀ y ∈ scope.names, y.2 ≠ .cell) (hdot : scope.names.lookup (".0" : Str) = some NameKind.local)
    (ok : BlkOk X.N X.env.scope scope own) (hi : PI X tg iter wi)
    (hg : ∀ (s : Shared) (H : Hp) (C : Addr) (cl : List (Str × Addr)) (fp : List Addr) (code : Value) (A' : Around), Room k A' → PG (X.gx s H (genEnv scope cl C code builtinsNs X.env) fp A') tg g)
    (ht : ∀ (s : Shared) (H : Hp) (C : Addr) (cl : List (Str × Addr)) (fp : List Addr) (code : Value) (A' : Around), Room k A' → PTs (X.gx s H (genEnv scope cl C code builtinsNs X.env) fp A') ifs tt)
    (hel : ∀ (s : Shared) (H : Hp) (C : Addr) (cl : List (Str × Addr)) (fp : List Addr) (code : Value) (A' : Around), Room k A' → PE (X.gx s H (genEnv scope cl C code builtinsNs X.env) fp A') elt te)
    (hs : ∀ v, genFold iter X.env v = pure v)
    (he : starEach [.GeneratorExp elt [⟨tg, iter, ifs, 0⟩] scope gpos] X.env = (false, eval (.GeneratorExp elt [⟨tg, iter, ifs, 0⟩] scope gpos) X.env) :: starEach [] X.env := by rfl)
    (hb : bootBuiltins "all" = some (.builtin "all") := by rfl) :
    PE X (.Call (.Name "all" p) [.GeneratorExp elt [⟨tg, iter, ifs, 0⟩] scope gpos] [] pos) (tAnyG P false wi g tt te (own.map (·.2))) := by
  refine ⟨fun pins s σ H Q I h => ?_⟩
  refine wpAny_Call_Name_kw (ld_blt I hG hm hb ?_)
  refine PyProof.Rows.callWith_builtin1 ?_ he (by rfl)
  rw [he]
  show wpAny _ _ (spliced ((false, eval (.GeneratorExp elt [⟨tg, iter, ifs, 0⟩] scope gpos) X.env) :: backTo pos (starEach [] X.env))) _ _ s
  refine Calls.spliced_cons (gen_any hr hc hN TB hcode hco hcell hdot ok hi hg ht hel hs I h fun a s5 hG => ?_)
  obtain ⟨s4, H4, cenv, fp, A', g, o, σ', H', n, I5, hgen, ⟨gs, hgs, hgo⟩, back⟩ := hG
  refine Calls.spliced_nil ?_
  refine call_function_tree F.kind_all F.plain_all F.entry_all (F.args_all1 _) ?_
  unfold Builtin.«all»
  refine wpAny_bind (m := oneArg "all" _) (wpAny_pure ?_)
  refine wpAny_bind (wpAny_pyIter_gen (hgen I5) ?_)
  exact wpAny_pure ⟨plainId_quiet F.plain_all_loop _, codeAny_allG (Xg := X.gx s4 H4 cenv fp A') (Q := Q) hr.hd (by have := hr.dp; omega) hgen (fun σ1 H1 s1 b I1 q => ⟨.bl b, H1, back σ1 H1 s1 I1, rfl, q⟩) n s5 σ' H' I5 ⟨gs, hgs, hgo _ rfl rfl (allBare_setGen I5.bare rfl)⟩⟩
theorem pe_anyG {c P : Addr} {elt tg iter : Expr} {ifs : List Expr} {p pos gpos : Pos} {scope : Scope} {own : List (Str × Nat)} {wi : TI} {g : TG} {tt : TT} {te : TE} {k : Nat}
    (hr : Room (k + 1) X.A) (hG : Gl X "any") (hm : X.mg "any" = none) (hc : X.calm = true) (hN : X.N.Nodup) (TB : GxR.TabB X.base X.mg c P) (hcode : X.env.code = .ref c) (hco : scope.isCoroutine = false) (hcell : ∀ y ∈ scope.names, y.2 ≠ .cell) (hdot : scope.names.lookup (".0" : Str) = some NameKind.local)
    (ok : BlkOk X.N X.env.scope scope own) (hi : PI X tg iter wi)
    (hg : ∀ (s : Shared) (H : Hp) (C : Addr) (cl : List (Str × Addr)) (fp : List Addr) (code : Value) (A' : Around), Room k A' → PG (X.gx s H (genEnv scope cl C code builtinsNs X.env) fp A') tg g)
    (ht : ∀ (s : Shared) (H : Hp) (C : Addr) (cl : List (Str × Addr)) (fp : List Addr) (code : Value) (A' : Around), Room k A' → PTs (X.gx s H (genEnv scope cl C code builtinsNs X.env) fp A') ifs tt)
    (hel : ∀ (s : Shared) (H : Hp) (C : Addr) (cl : List (Str × Addr)) (fp : List Addr) (code : Value) (A' : Around), Room k A' → PE (X.gx s H (genEnv scope cl C code builtinsNs X.env) fp A') elt te)
    (hs : ∀ v, genFold iter X.env v = pure v)
    (he : starEach [.GeneratorExp elt [⟨tg, iter, ifs, 0⟩] scope gpos] X.env = (false, eval (.GeneratorExp elt [⟨tg, iter, ifs, 0⟩] scope gpos) X.env) :: starEach [] X.env := by rfl)
    (hb : bootBuiltins "any" = some (.builtin "any") := by rfl) :
    PE X (.Call (.Name "any" p) [.GeneratorExp elt [⟨tg, iter, ifs, 0⟩] scope gpos] [] pos) (tAnyG P true wi g tt te (own.map (·.2))) := by
  refine ⟨fun pins s σ H Q I h => ?_⟩
  refine wpAny_Call_Name_kw (ld_blt I hG hm hb ?_)
  refine PyProof.Rows.callWith_builtin1 ?_ he (by rfl)
  rw [he]
  show wpAny _ _ (spliced ((false, eval (.GeneratorExp elt [⟨tg, iter, ifs, 0⟩] scope gpos) X.env) :: backTo pos (starEach [] X.env))) _ _ s
  refine Calls.spliced_cons (gen_any hr hc hN TB hcode hco hcell hdot ok hi hg ht hel hs I h fun a s5 hG => ?_)
  obtain ⟨s4, H4, cenv, fp, A', g, o, σ', H', n, I5, hgen, ⟨gs, hgs, hgo⟩, back⟩ := hG
  refine Calls.spliced_nil ?_
  refine call_function_tree F.kind_any F.plain_any F.entry_any (F.args_any1 _) ?_
  unfold Builtin.«any»
  refine wpAny_bind (m := oneArg "any" _) (wpAny_pure ?_)
  refine wpAny_bind (wpAny_pyIter_gen (hgen I5) ?_)
  exact wpAny_pure ⟨plainId_quiet F.plain_any_loop _, codeAny_anyG (Xg := X.gx s4 H4 cenv fp A') (Q := Q) hr.hd (by have := hr.dp; omega) hgen (fun σ1 H1 s1 b I1 q => ⟨.bl b, H1, back σ1 H1 s1 I1, rfl, q⟩) n s5 σ' H' I5 ⟨gs, hgs, hgo _ rfl rfl (allBare_setGen I5.bare rfl)⟩⟩
end
end L2
namespace Mir
open PySem PySem.Spec PyProof.Rows L2
/-- any (stop = true), all (stop = false) -/
def agGo (stop : Bool) (g : GM) (c : BM) (f : EM) (ρ : En) (hs : Hs) : List D → Option Bool
  | [] => some (!stop)
  | d :: ds => match g d ρ with
    | some ρ' => match c ρ' hs with
      | some (true, h1) => match f ρ' h1 with
        | some (.bl b, _) => match b, stop with
          | true, true => some true
          | false, false => some false
          | _, _ => agGo stop g c f ρ hs ds
        | _ => none
      | some (false, _) => agGo stop g c f ρ hs ds
      | none => none
    | none => none
def mAg (stop : Bool) (s : IM) (g : GM) (c : BM) (f : EM) (vs : List Nat) : EM := fun ρ hs => match s ρ hs with
  | some (ds, hs1) => match agGo stop g c f (wipeE ρ vs) hs1 ds with
    | some b => some (.bl b, hs1)
    | none => none
  | none => none
instance {stop : Bool} {s : IM} {g : GM} {c : BM} {f : EM} {vs : List Nat} [a : QI s] : QE (mAg stop s g c f vs) := ⟨fun ρ hs d hs' h => by
  unfold mAg at h
  split at h
  · rename_i e1
    split at h
    · cases h; exact a.q _ _ _ _ e1
    · cases h
  · cases h⟩
/-- a code table has grown -/
theorem nx_tabbed {G : GX} {m : List Addr} {hs : Hs} {H H2 : Hp} {P : Addr} (hPg : P ∈ G.tb.g) (hP : TabG H P) (h : GxR.Tabbed P H H2) (hr : HR G m hs H) : Nx m H m H2 ∧ HR G m hs H2 := by
  obtain ⟨ps, eP, _⟩ := hP
  have n : Nx m H m H2 := ⟨⟨[], by simp⟩, fun a h z => absurd h z, fun a o e hm ht => by
    have : a ≠ P := fun z => by rw [z, eP] at e; cases e; exact ht _ rfl
    rw [h.2 a this]; exact e, fun a e => by
    by_cases z : a = P
    · obtain ⟨⟨qs, q, _⟩, _⟩ := h
      rw [z, q]; simp
    · rw [h.2 a z]; exact e⟩
  refine ⟨n, hr.len, hr.nd, fun i a o e1 e2 => ?_, fun Q hQ => ?_, fun p hp => ?_, hr.tab.d, hr.tab.u⟩
  · have q := hr.obj i a o e1 e2
    have hne : a ≠ P := fun z => by
      obtain ⟨u, e, _, _, ht, _⟩ := q.some
      rw [z, eP] at e; cases e; exact ht _ rfl
    cases o with
    | lst ds => obtain ⟨xs, h1, r⟩ := q; exact ⟨xs, by rw [h.2 a hne]; exact h1, r.nx hr n⟩
    | dK ds => obtain ⟨xs, h1, k, r⟩ := q; exact ⟨xs, by rw [h.2 a hne]; exact h1, k, r.nx hr n⟩
    | dT ds => obtain ⟨xs, h1, k, r⟩ := q; exact ⟨xs, by rw [h.2 a hne]; exact h1, k, r.nx hr n⟩
    | opq c => obtain ⟨dx, h1⟩ := q; exact ⟨dx, by rw [h.2 a hne]; exact h1⟩
  · by_cases z : Q = P
    · rw [z]; exact h.1
    · obtain ⟨qs, q, t⟩ := hr.tab.g Q hQ
      exact ⟨qs, by rw [h.2 Q z]; exact q, t⟩
  · obtain ⟨qs, q, t, cs⟩ := hr.tab.l p hp
    have z : p.1 ≠ P := fun z => hr.tab.d p hp (z ▸ hPg)
    refine ⟨qs, by rw [h.2 _ z]; exact q, t, fun pos cv hc => ?_⟩
    obtain ⟨c, e, oc, u, vs, t, e1, e2⟩ := cs pos cv hc
    refine ⟨c, e, oc, u, vs, t, ?_, e2⟩
    rw [h.2 c (fun z => by rw [z, eP] at e1; cases e1)]
    exact e1
theorem tm_ag {G : GX} {P : Addr} {stop : Bool} {s : IM} {ts vs : List Nat} {g : GM} {c : BM} {f : EM} [qc : QB c] [qf : QE f] (hP : P ∈ G.tb.g) (hts : ∀ i ∈ ts, i ∈ vs) {σ : L2.St} {H : Hp} {Q : VK} (h : TM G (mAg stop s g c f vs) σ H Q) :
    tAnyG P stop (TIW G s) (TGM G ts g) (TB G c) (TM G f) vs σ H Q := by
  obtain ⟨ρ, hs, m, sl, hr, r, hs', ee, q⟩ := h
  unfold mAg at ee
  split at ee
  · rename_i ds hs1 e1
    split at ee
    · rename_i b eg
      cases ee
      refine ⟨ρ, hs, m, sl, hr, ds, hs', e1, fun J H1 m1 n1 hr1 jw => ⟨hr1.tab.g P hP, fun H2 hT => ?_⟩⟩
      have sl1 := sl.nx hr n1
      obtain ⟨n2, hr2⟩ := nx_tabbed hP (hr1.tab.g P hP) hT hr1
      refine ⟨fun i k H' => k = ds.length - i ∧ i ≤ ds.length ∧ Nx m1 H1 m1 H' ∧ HR G m1 hs' H' ∧ agGo stop g c f (wipeE ρ vs) hs' (ds.drop i) = some b, ⟨ds.length, by simp, Nat.zero_le _, n2, hr2, eg⟩, ?_⟩
      rintro i k H' ⟨rfl, hi, n', hr', er⟩
      have qj := jw m1 H' [] n' (by rw [List.append_nil]; exact hr') i
      rw [List.append_nil] at qj
      by_cases hlt : i < ds.length
      · have ed : ds[i]? = some ds[i] := List.getElem?_eq_getElem hlt
        obtain ⟨go, yl⟩ := qj.1 _ ed
        rw [List.drop_eq_getElem_cons hlt] at er
        unfold agGo at er
        refine .inr ⟨go, fun H'' => Nx m1 H1 m1 H'' ∧ HR G m1 hs' H'' ∧ agGo stop g c f (wipeE ρ vs) hs' (ds.drop (i + 1)) = some b,
          fun H'' h => ⟨ds.length - (i + 1), by omega, rfl, hlt, h⟩, fun x H3 y => ?_⟩
        obtain ⟨n3, hr3, rx⟩ := yl x H3 y
        split at er
        · rename_i ρ2 e2
          refine ⟨ds[i], wipeE ρ vs, hs', m1, (((sl1.nx hr1 n').nx hr' n3).wipe vs), hr3, rx, ρ2, e2, fun σ2 sl2 off => ?_⟩
          refine ⟨off.wipe hts, ?_⟩
          refine ⟨ρ2, hs', m1, sl2, hr3, ?_⟩
          split at er
          · rename_i hs3 e3
            obtain ⟨t3, rfl⟩ := qc.q _ _ _ _ e3
            refine ⟨true, _, e3, fun H4 m4 n4 hr4 => iteT ⟨ρ2, _, m4, sl2.nx hr3 n4, hr4, ?_⟩⟩
            split at er
            · rename_i b1 hs4 e4
              obtain ⟨t4, rfl⟩ := qf.q _ _ _ _ e4
              refine ⟨.bl b1, _, e4, fun yv H5 m5 n5 hr5 ry => ?_⟩
              cases ry
              have n15 : Nx m1 H3 m5 H5 := n4.trans n5
              have cut := hr3.cut n15 (r := t3 ++ t4) (by rw [← List.append_assoc]; exact hr5)
              have nx1 : Nx m1 H1 m1 H5 := (n'.trans n3).trans n15.cut
              refine ⟨b1, rfl, fun hb => ?_, fun hb => ⟨nx1, cut, ?_⟩⟩
              · subst hb
                have e5 : b = b1 := by
                  cases b1 <;> (cases er; rfl)
                subst e5
                exact q _ H5 m1 (n1.trans nx1) cut (.bl _)
              · cases b1 <;> cases stop
                · exact absurd rfl hb
                · exact er
                · exact er
                · exact absurd rfl hb
            · cases er
          · rename_i hs3 e3
            obtain ⟨t3, rfl⟩ := qc.q _ _ _ _ e3
            refine ⟨false, _, e3, fun H4 m4 n4 hr4 => iteF ⟨(n'.trans n3).trans n4.cut, hr3.cut n4 hr4, er⟩⟩
          · cases er
        · cases er
      · have ei : i = ds.length := by omega
        subst ei
        rw [List.drop_length] at er
        cases er
        exact .inl ⟨qj.2 (Nat.le_refl _), q _ H' m1 (n1.trans n') hr' (.bl _)⟩
    · cases ee
  · cases ee
section
variable {X : Cx} {tb : TBs} {elt tg iter : Expr} {ifs : List Expr} {scope : Scope} {own : List (Str × Nat)} {pos p gpos : Pos} {s : IM} {ts : List Nat} {g : GM} {c : BM} {f : EM} {cA P : Addr} {k : Nat}
/-- what a generator expression's own scope keeps -/
structure GxOk (scope : Scope) : Prop where
  co : scope.isCoroutine = false
  cell : ∀ y ∈ scope.names, y.2 ≠ .cell
  dot : scope.names.lookup (".0" : Str) = some NameKind.local
theorem m_all [qc : QB c] [qf : QE f] (hr : Room (k + 1) X.A) (hG : Gl X "all") (hm : X.mg "all" = none) (hc : X.calm = true) (hN : X.N.Nodup) (TBq : GxR.TabB X.base X.mg cA P) (hcode : X.env.code = .ref cA) (hP : P ∈ tb.g) (gk : GxOk scope)
    (ok : BlkOk X.N X.env.scope scope own) (hi : PI X tg iter (TIW (GO X tb) s))
    (hg : ∀ (s : Shared) (H : Hp) (C : Addr) (cl : List (Str × Addr)) (fp : List Addr) (code : Value) (A' : Around), Room k A' → PG (X.gx s H (genEnv scope cl C code builtinsNs X.env) fp A') tg (TGM (GO X tb) ts g))
    (ht : ∀ (s : Shared) (H : Hp) (C : Addr) (cl : List (Str × Addr)) (fp : List Addr) (code : Value) (A' : Around), Room k A' → PTs (X.gx s H (genEnv scope cl C code builtinsNs X.env) fp A') ifs (TB (GO X tb) c))
    (hel : ∀ (s : Shared) (H : Hp) (C : Addr) (cl : List (Str × Addr)) (fp : List Addr) (code : Value) (A' : Around), Room k A' → PE (X.gx s H (genEnv scope cl C code builtinsNs X.env) fp A') elt (TM (GO X tb) f))
    (hts : ∀ i ∈ ts, i ∈ own.map (·.2) := by decide) (hs : ∀ v, genFold iter X.env v = pure v := by intro _; rfl)
    (he : starEach [.GeneratorExp elt [⟨tg, iter, ifs, 0⟩] scope gpos] X.env = (false, eval (.GeneratorExp elt [⟨tg, iter, ifs, 0⟩] scope gpos) X.env) :: starEach [] X.env := by rfl) :
    PE X (.Call (.Name "all" p) [.GeneratorExp elt [⟨tg, iter, ifs, 0⟩] scope gpos] [] pos) (TM (GO X tb) (mAg false s g c f (own.map (·.2)))) :=
  (pe_allG hr hG hm hc hN TBq hcode gk.co gk.cell gk.dot ok hi hg ht hel hs he).imp fun _ _ _ => tm_ag hP hts
theorem m_any [qc : QB c] [qf : QE f] (hr : Room (k + 1) X.A) (hG : Gl X "any") (hm : X.mg "any" = none) (hc : X.calm = true) (hN : X.N.Nodup) (TBq : GxR.TabB X.base X.mg cA P) (hcode : X.env.code = .ref cA) (hP : P ∈ tb.g) (gk : GxOk scope)
    (ok : BlkOk X.N X.env.scope scope own) (hi : PI X tg iter (TIW (GO X tb) s))
    (hg : ∀ (s : Shared) (H : Hp) (C : Addr) (cl : List (Str × Addr)) (fp : List Addr) (code : Value) (A' : Around), Room k A' → PG (X.gx s H (genEnv scope cl C code builtinsNs X.env) fp A') tg (TGM (GO X tb) ts g))
    (ht : ∀ (s : Shared) (H : Hp) (C : Addr) (cl : List (Str × Addr)) (fp : List Addr) (code : Value) (A' : Around), Room k A' → PTs (X.gx s H (genEnv scope cl C code builtinsNs X.env) fp A') ifs (TB (GO X tb) c))
    (hel : ∀ (s : Shared) (H : Hp) (C : Addr) (cl : List (Str × Addr)) (fp : List Addr) (code : Value) (A' : Around), Room k A' → PE (X.gx s H (genEnv scope cl C code builtinsNs X.env) fp A') elt (TM (GO X tb) f))
    (hts : ∀ i ∈ ts, i ∈ own.map (·.2) := by decide) (hs : ∀ v, genFold iter X.env v = pure v := by intro _; rfl)
    (he : starEach [.GeneratorExp elt [⟨tg, iter, ifs, 0⟩] scope gpos] X.env = (false, eval (.GeneratorExp elt [⟨tg, iter, ifs, 0⟩] scope gpos) X.env) :: starEach [] X.env := by rfl) :
    PE X (.Call (.Name "any" p) [.GeneratorExp elt [⟨tg, iter, ifs, 0⟩] scope gpos] [] pos) (TM (GO X tb) (mAg true s g c f (own.map (·.2)))) :=
  (pe_anyG hr hG hm hc hN TBq hcode gk.co gk.cell gk.dot ok hi hg ht hel hs he).imp fun _ _ _ => tm_ag hP hts
end
end Mir

/-! MirH: a def's rule; isinstance, is, +=, append, min and max of a list, index of a tuple, tests by dicts. -/
namespace Mir
open PySem PySem.Spec PyProof.Rows L2

/-! ### a def -/
theorem fun_okM {P : Program} {w : World} {K : PySem.W.Frag} {mg : Str → Option Value} {base : Heap} {x qual : Str} {params : Arguments} {body : List Stmt} {scope : Scope} {dvs : List V} {kws : List (Str × V)} {p : He.Defn} {fd : FuncData} {N ps : List Str} {k n j : Nat} {f : SM} {tb : TBs}
    (F : FunD K x qual params body scope dvs kws (He.fAd K p) fd) (S : FnScope N ps scope) (hp : ps.length = n) (hN : N.length = n + j)
    (hb : ∀ (A : Around) (outer : List Env) (s : Shared) (H : Hp) (E : XK), Room k (A.deeper (envOfC qual scope s.heap.objs.size (He.fAd K p) (.ref (He.codeOf K p)))) →
      PSs (cxOf CX0 P w K mg base N qual scope (He.fAd K p) (.ref (He.codeOf K p)) A outer s H E).nox body (TSM ⟨K, tb⟩ f)) :
    FnOk P w K mg base CX0 (k + 1) (He.fAd K p) fd ps (spM ⟨K, tb⟩ n (mBody f j)) := by
  obtain ⟨oc, od, dV, kV, doc, pm, an, cdv, ct, osl, rfl, lk, hcd, _⟩ := F.ex
  obtain ⟨c, rfl⟩ := He.codeIn_ref hcd
  have ec : He.codeOf K p = c := He.codeOf_eq lk rfl
  rw [ec] at hb
  refine fn_of lk hcd S (fun vs H Q E h => ?_) fun A outer s H vs Q E hr hsp => ⟨_, (hb A outer s H E hr).nox, body_of hN hsp⟩
  obtain ⟨h1, _⟩ := h
  rw [hp]; exact h1

/-! ### the value of a name whose tuple is known -/
def nrm : D → D
  | d => d
theorem Rep.nrm {K : PySem.W.Frag} {H : Hp} {m : List Addr} {d : D} {v : V} (r : Rep K H m d v) : Rep K H m (nrm d) v := by
  cases r with
  | tuf h hd r => exact .tuf h hd r
  | obj h z c a r => exact .obj h z c a r
  | non => exact .non
  | bl b => exact .bl b
  | int i => exact .int i
  | str z => exact .str z
  | ref e => exact .ref e
  | tup h r => exact .tup h r
  | fro h r => exact .fro h r
def mNrm (f : EM) : EM := fun ρ hs => match f ρ hs with
  | some (d, hs') => some (nrm d, hs')
  | none => none
instance {f : EM} [a : QE f] : QE (mNrm f) := ⟨fun ρ hs d hs' h => by
  unfold mNrm at h
  split at h
  · rename_i e; cases h; exact a.q _ _ _ _ e
  · cases h⟩
theorem m_nrm {X : Cx} {G : GX} {e : Expr} {f : EM} (h : PE X e (TM G f)) : PE X e (TM G (mNrm f)) := h.imp fun σ H Q ⟨ρ, hs, m, sl, hr, d, hs', ee, q⟩ => by
  unfold mNrm at ee
  split at ee
  · rename_i e1
    cases ee
    exact ⟨ρ, hs, m, sl, hr, _, _, e1, fun v H' m' n' hr' rv => q v H' m' n' hr' rv.nrm⟩
  · cases ee

/-! ### isinstance(x, T), T a built-in class -/
def isiF (b : D → Option Bool) : F1 := fun d hs => match b d with
  | some c => some (.bl c, hs)
  | none => none
def isInt : D → Option Bool
  | .int _ => some true
  | .bl _ => some true
  | .tup _ => some false
  | .str _ => some false
  | .non => some false
  | _ => none
def isTup : D → Option Bool
  | .int _ => some false
  | .bl _ => some false
  | .tup _ => some true
  | .str _ => some false
  | .non => some false
  | _ => none
def isStr : D → Option Bool
  | .int _ => some false
  | .bl _ => some false
  | .tup _ => some false
  | .str _ => some true
  | .non => some false
  | _ => none
instance {b : D → Option Bool} : Q1 (isiF b) := ⟨fun d hs r hs' h => by
  unfold isiF at h
  split at h
  · cases h; exact .refl
  · cases h⟩
/-- T tells b -/
def IsiT (T : String) (b : D → Option Bool) : Prop := ∀ (K : PySem.W.Frag) (H : Hp) (m : List Addr) (d : D) (v : V) (c : Bool), Rep K H m d v → b d = some c → ∃ t, TyX K H v t ∧ PySem.W.kitOne K t (.type T) = some c
theorem tyx_tup {K : PySem.W.Frag} {H : Hp} {a : Addr} {xs : List V} (h : SqT K H a xs) : TyX K H (.ref a) (.type "tuple") := by
  rcases h with (h | ⟨o, h⟩) | ⟨o, its, n, h1, h2, _⟩
  · exact .base (.tup h)
  · exact .fTuple h
  · exact .kTuple h1 h2
theorem isi_int : IsiT "int" isInt := fun K H m d v c r e => by
  cases r <;> cases e
  · exact ⟨_, .base .non, kit_ty (by decide +kernel)⟩
  · exact ⟨_, .base (.bl _), kit_ty (by decide +kernel)⟩
  · exact ⟨_, .base (.int _), kit_ty (by decide +kernel)⟩
  · exact ⟨_, .base (.str _), kit_ty (by decide +kernel)⟩
  · rename_i h _
    exact ⟨_, tyx_tup (sqt h), kit_ty (by decide +kernel)⟩
theorem isi_tup : IsiT "tuple" isTup := fun K H m d v c r e => by
  cases r <;> cases e
  · exact ⟨_, .base .non, kit_ty (by decide +kernel)⟩
  · exact ⟨_, .base (.bl _), kit_ty (by decide +kernel)⟩
  · exact ⟨_, .base (.int _), kit_ty (by decide +kernel)⟩
  · exact ⟨_, .base (.str _), kit_ty (by decide +kernel)⟩
  · rename_i h _
    exact ⟨_, tyx_tup (sqt h), kit_ty (by decide +kernel)⟩
theorem isi_str : IsiT "str" isStr := fun K H m d v c r e => by
  cases r <;> cases e
  · exact ⟨_, .base .non, kit_ty (by decide +kernel)⟩
  · exact ⟨_, .base (.bl _), kit_ty (by decide +kernel)⟩
  · exact ⟨_, .base (.int _), kit_ty (by decide +kernel)⟩
  · exact ⟨_, .base (.str _), kit_ty (by decide +kernel)⟩
  · rename_i h _
    exact ⟨_, tyx_tup (sqt h), kit_ty (by decide +kernel)⟩
section
variable {X : Cx} {tb : TBs} {a b e : Expr} {fa fb fe : EM} {pos : Pos}
theorem pe_tyB {T : String} {x : Str} {p : Pos} (hg : Gl X x) (hm : X.mg x = none) (hv : bootBuiltins x = some (.type T)) (hn : x ≠ "__name__") (hdb : (x == ("__debug__" : Str)) = false) : PE X (.Name x p) (tC (.ty T)) :=
  ⟨fun pins s σ H Q I h => ld_blt I hg hm hv ⟨.ty T, H, I, rfl, h⟩ hn hdb⟩
theorem m_isi {T : String} {x : Str} {t : D → Option Bool} {p p2 : Pos} (hT : IsiT T t) (hg : Gl X "isinstance") (hm : X.mg "isinstance" = none) (hgT : Gl X x) (hmT : X.mg x = none) (hv : bootBuiltins x = some (.type T)) (ha : PE X a (TM (GO X tb) fa)) (hn : x ≠ "__name__" := by decide) (hdb : (x == ("__debug__" : Str)) = false := by decide)
    (he : starEach [a, .Name x p2] X.env = (false, eval a X.env) :: starEach [.Name x p2] X.env := by rfl) (hpl : (backTo pos (starEach [.Name x p2] X.env)).any (·.1) = false := by rfl) :
    PE X (.Call (.Name "isinstance" p) [a, .Name x p2] [] pos) (TM (GO X tb) (mUn (isiF t) fa)) := by
  refine PE.imp (pe_callB (r := rIsi X.K) call_isi hg hm (by rfl) (pa_cons ha (pa_cons (pe_tyB hgT hmT hv hn hdb) pa_nil) he) (he := he) (hpl := hpl)) fun σ H Q ⟨ρ, hs, m, sl, hr, d, hs', ee, q⟩ => ?_
  unfold mUn at ee
  split at ee
  · rename_i d1 h1 e1
    unfold isiF at ee
    split at ee
    · rename_i c ec
      cases ee
      refine ⟨ρ, hs, m, sl, hr, _, _, e1, fun v H' m' n' hr' rv => ?_⟩
      obtain ⟨ty, k1, k2⟩ := hT _ _ _ _ _ _ rv ec
      exact ⟨v, .ty T, ty, .type T, c, rfl, .ty T, k1, k2, q _ H' m' n' hr' (.bl c)⟩
    · cases ee
  · cases ee
end
end Mir

/-! MirI: is, +=, append, min and max of a list, a tuple that is known, index. -/
namespace Mir
open PySem PySem.Spec PyProof.Rows L2

/-! ### is, is not: against None, True, False -/
def bb : Bool → Bool → Bool
  | true, true => true
  | false, false => true
  | _, _ => false
theorem bb_eq (a b : Bool) : bb a b = decide (a = b) := by cases a <;> cases b <;> rfl
def isD : F2 := fun d e hs => match e with
  | .non => match d with
    | .non => some (.bl true, hs)
    | _ => some (.bl false, hs)
  | .bl b => match d with
    | .int _ => some (.bl false, hs)
    | .bl a => some (.bl (bb a b), hs)
    | _ => none
  | _ => none
instance : Q2 isD := ⟨fun d e hs r hs' h => by
  unfold isD at h
  split at h
  · split at h <;> (cases h; exact .refl)
  · split at h
    · cases h; exact .refl
    · cases h; exact .refl
    · cases h
  · cases h⟩
section
variable {X : Cx} {tb : TBs}
theorem not_non {K : PySem.W.Frag} {H : Hp} {m : List Addr} {d : D} {v : V} (r : Rep K H m d v) (h : d ≠ .non) : v ≠ .non := fun z => by
  subst z
  cases r
  exact h rfl
theorem isD_cases {K : PySem.W.Frag} {m : List Addr} {hs hs' : Hs} {H : Hp} {d e r : D} {x y : V} (rx : Rep K H m d x) (ry : Rep K H m e y) (h : isD d e hs = some (r, hs')) :
    hs' = hs ∧ ((y = .non ∧ r = .bl (decide (x = .non))) ∨ (∃ i b, x = .int i ∧ y = .bl b ∧ r = .bl false) ∨ ∃ a b, x = .bl a ∧ y = .bl b ∧ r = .bl (decide (a = b))) := by
  unfold isD at h
  split at h
  · cases ry
    split at h
    · cases h; cases rx
      exact ⟨rfl, .inl ⟨rfl, by simp⟩⟩
    · rename_i hn
      cases h
      have : x ≠ .non := not_non rx (fun z => hn z)
      exact ⟨rfl, .inl ⟨rfl, by simp [this]⟩⟩
  · cases ry
    split at h
    · cases h; cases rx
      exact ⟨rfl, .inr (.inl ⟨_, _, rfl, rfl, rfl⟩)⟩
    · rename_i b a
      cases h; cases rx
      exact ⟨rfl, .inr (.inr ⟨_, _, rfl, rfl, congrArg D.bl (bb_eq _ _)⟩)⟩
    · cases h
  · cases h
theorem op_isM : OpR X (compareOp .Is) (R2M (GO X tb) isD) := by
  intro pins s σ H x y v u Q I rx ry h
  obtain ⟨d, e, hs, m, hr, r1, r2, r, hs', ee, q⟩ := h
  obtain ⟨rfl, h⟩ := isD_cases r1 r2 ee
  rcases h with ⟨rfl, rfl⟩ | ⟨i, b, rfl, rfl, rfl⟩ | ⟨a, b, rfl, rfl, rfl⟩
  · exact op_isN (X := X) pins s σ H x .non v u Q I rx ry ⟨rfl, q _ _ _ .refl hr (.bl _)⟩
  · obtain ⟨t, rfl⟩ := (show ∃ t, v = Value.int i t from rx)
    cases (show u = Value.bool b from ry)
    exact wpAny_is_other rfl (fun z => nomatch z) ⟨.bl false, H, I, rfl, q _ _ _ .refl hr (.bl _)⟩
  · exact op_isBl (X := X) pins s σ H _ _ v u Q I rx ry ⟨a, b, rfl, rfl, q _ _ _ .refl hr (.bl _)⟩
theorem op_isNotM : OpR X (compareOp .IsNot) (R2M (GO X tb) (notF isD)) := by
  intro pins s σ H x y v u Q I rx ry h
  obtain ⟨d, e, hs, m, hr, r1, r2, r, hs', ee, q⟩ := h
  unfold notF at ee
  split at ee
  · rename_i c hs2 e2
    cases ee
    obtain ⟨rfl, h⟩ := isD_cases r1 r2 e2
    rcases h with ⟨rfl, e3⟩ | ⟨i, b, rfl, rfl, e3⟩ | ⟨a, b, rfl, rfl, e3⟩
    · cases e3
      exact op_notN (X := X) pins s σ H x .non v u Q I rx ry ⟨rfl, q _ _ _ .refl hr (.bl _)⟩
    · cases e3
      obtain ⟨t, rfl⟩ := (show ∃ t, v = Value.int i t from rx)
      cases (show u = Value.bool b from ry)
      exact wpAny_isNot_other rfl (fun z => nomatch z) ⟨.bl true, H, I, rfl, q _ _ _ .refl hr (.bl _)⟩
    · cases e3
      exact op_notBl (X := X) pins s σ H _ _ v u Q I rx ry ⟨a, b, rfl, rfl, q _ _ _ .refl hr (.bl _)⟩
  · cases ee

/-! ### x += e, ints -/
def mAug (i : Nat) (p : Int → Int → Int) (f : EM) : SM := fun ρ hs => match at? ρ i with
  | some (some (.int a)) => match f ρ hs with
    | some (.int b, hs') => some (.nx (put ρ i (some (.int (p a b)))) hs')
    | _ => none
  | _ => none
theorem ms_aug {G : GX} {i : Nat} {x : Str} {e : Expr} {op : Operator} {p : Int → Int → Int} {pos pos' : Pos} {fe : EM} (he : PE X e (TM G fe)) (hN : X.N.Nodup) (hi : X.N[i]? = some x) (hx : Loc X.env.scope x) (ho : PIp X op (ipI p)) (hf : X.fn x = true ∨ X.env.scope.names.lookup x = some .local := by first | exact .inl rfl | exact .inr rfl | assumption) :
    PS X (.AugAssign (.Name x pos') op e pos) (TSM G (mAug i p fe)) := by
  refine (ps_aug hN hi hx he ho hf).imp fun D σ H ⟨ρ, hs, m, sl, hr, r, ee, q⟩ => ?_
  unfold mAug at ee
  split at ee
  · rename_i a ea
    split at ee
    · rename_i b hs1 e1
      cases ee
      obtain ⟨v, h1, r1⟩ := sl.get ea
      cases r1
      refine ⟨_, h1, ρ, hs, m, sl, hr, _, _, e1, fun v H' m' n' hr' rv => ?_⟩
      cases rv
      exact ⟨a, b, rfl, rfl, q _ H' m' n' hr' ((sl.nx hr n').set (.int _) i)⟩
    · cases ee
  · cases ee

/-! ### l.append(e) -/
def mApp (fo fe : EM) : EM := fun ρ hs => match fo ρ hs with
  | some (.ref i, hs1) => match at? hs1 i with
    | some (.lst _) => match fe ρ hs1 with
      | some (d, hs2) => match at? hs2 i with
        | some (.lst ds) => match cap (ds.length + 1) with
          | true => some (.non, put hs2 i (.lst (ds ++ [d])))
          | false => none
        | _ => none
      | none => none
    | _ => none
  | _ => none
theorem upd_sq {H : Hp} {K : PySem.W.Frag} {m : List Addr} {hs : Hs} {G : GX} (hr : HR G m hs H) {a : Addr} {i : Nat} {ds ds' : List D} {xs xs' : List V} (ha : m[i]? = some a) (e : at? hs i = some (.lst ds)) (hx : H a = some (.lst xs)) (r : Reps G.K H m ds' xs') :
    Nx m H m (upd H a (.lst xs')) ∧ HR G m (put hs i (.lst ds')) (upd H a (.lst xs')) := by
  have n : Nx m H m (upd H a (.lst xs')) := .write (List.mem_of_getElem? ha)
  exact ⟨n, hr.write ha ⟨xs', upd_same, r.nx hr n⟩⟩
theorem m_append {o e : Expr} {fo fe : EM} {apos cpos : Pos} (ho : PE X o (TM (GO X tb) fo)) (he : PE X e (TM (GO X tb) fe))
    (hbase : attributeBase o "append" X.env (eval o X.env) = eval o X.env := by rfl)
    (hfew : ((backTo cpos (starEach (e :: []) X.env)).all (fun x => !x.1) && (backToKw cpos (keywordEach [] X.env)).all (fun x => x.1.isSome)
      && decide ((e :: []).length + ([] : List Keyword).length + (if ([] : List Keyword).isEmpty then 0 else 1) < 30)) = true := by rfl)
    (hline : (apos.endLine == cpos.line) = true := by rfl) (hs : starEach (e :: []) X.env = (false, eval e X.env) :: starEach [] X.env := by rfl) (hplain : (backTo cpos (starEach [] X.env)).any (·.1) = false := by rfl) :
    PE X (.Call (.Attribute o "append" apos) [e] [] cpos) (TM (GO X tb) (mApp fo fe)) := by
  refine (pe_bm PySem.F.plainAttrs_list PySem.F.slot_list_append PySem.F.type_list_append mt_append ho (pa_cons he pa_nil hs) hbase hfew hline hs hplain).imp fun σ H Q ⟨ρ, hs, m, sl, hr, d, hs', ee, q⟩ => ?_
  unfold mApp at ee
  split at ee
  · rename_i i hs1 e1
    split at ee
    · rename_i ds0 e2
      split at ee
      · rename_i d2 hs2 e3
        split at ee
        · rename_i ds e4
          split at ee
          · rename_i hc
            cases ee
            refine ⟨ρ, hs, m, sl, hr, _, _, e1, fun v H1 m1 n1 hr1 rv => ?_⟩
            cases rv with
            | ref ha =>
              rename_i a
              obtain ⟨xs0, hx0, _⟩ := hr1.lst ha e2
              refine ⟨.inl ⟨rfl, _, .of hx0⟩, ρ, hs1, m1, sl.nx hr n1, hr1, _, _, e3, fun w H2 m2 n2 hr2 rw => ?_⟩
              have ha2 := n2.ix ha
              obtain ⟨xs, hx, rx⟩ := hr2.lst ha2 e4
              obtain ⟨n3, hr3⟩ := upd_sq (K := X.K) hr2 ha2 e4 hx (rx.append (.cons rw .nil))
              have hl := cap_le hc
              refine ⟨a, xs, w, rfl, rfl, hx, by rw [← rx.length]; exact hl, q _ _ _ ((n1.trans n2).trans n3) hr3 .non⟩
          · cases ee
        · cases ee
      · cases ee
    · cases ee
  · cases ee
end

/-! ### order of ints and tuples of ints; min, max of a list -/
open PySem.W (alikeAll alike keyToksAll dataLt toks_all_cons lex_atom lex_one dataLt_all_yes dataLt_all_no dataLt_int dataLt_tuple minD maxD AlikeAll readsAll_at min_list_data max_list_data alike_unique reads_keeps)
def isI : D → Bool
  | .int _ => true
  | _ => false
def isIT : D → Bool
  | .tup ds => allL isI ds
  | _ => false
def ltT : List D → List D → Bool
  | _, [] => false
  | [], _ :: _ => true
  | .int i :: a, .int j :: b => match intEq i j with
    | true => ltT a b
    | false => decide (i < j)
  | _, _ => false
def dlt : D → D → Bool
  | .int i, .int j => decide (i < j)
  | .tup a, .tup b => ltT a b
  | _, _ => false
theorem isI_ex {d : D} (h : isI d = true) : ∃ i, d = .int i := by
  cases d with
  | int i => exact ⟨i, rfl⟩
  | _ => cases h
theorem isIT_ex {d : D} (h : isIT d = true) : ∃ ds, d = .tup ds ∧ allL isI ds = true := by
  cases d with
  | tup ds => exact ⟨ds, rfl, h⟩
  | _ => cases h
theorem alike_isI : ∀ {a b : List D}, allL isI a = true → allL isI b = true → alikeAll (pdAll a) (pdAll b) = true
  | [], _, _, _ => by simp [pdAll, alikeAll]
  | _ :: _, [], _, _ => by simp [pdAll, alikeAll]
  | x :: a, y :: b, h, h' => by
    obtain ⟨h1, h2⟩ := allL_cons h
    obtain ⟨h3, h4⟩ := allL_cons h'
    obtain ⟨i, rfl⟩ := isI_ex h1
    obtain ⟨j, rfl⟩ := isI_ex h3
    simp only [pdAll, pdOf, alikeAll, alike, Bool.true_and]
    exact alike_isI h2 h4
theorem ltT_eq : ∀ {a b : List D}, allL isI a = true → allL isI b = true → PyProof.Rows.lexLt itemOrd (keyToksAll (pdAll a)) (keyToksAll (pdAll b)) = ltT a b
  | [], [], _, _ => by
    have e := lex_irrefl (O := itemOrd) (keyToksAll (pdAll []))
    unfold ltT
    exact e
  | x :: a, [], h, _ => by
    unfold ltT
    simp only [pdAll]
    rw [toks_all_cons, keyToksAll, lex_atom (by simp), lex_one]
    rfl
  | [], y :: b, _, h => by
    unfold ltT
    simp only [pdAll]
    rw [toks_all_cons, keyToksAll, lex_atom (by simp), lex_one]
    rfl
  | x :: a, y :: b, h, h' => by
    obtain ⟨h1, h2⟩ := allL_cons h
    obtain ⟨h3, h4⟩ := allL_cons h'
    obtain ⟨i, rfl⟩ := isI_ex h1
    obtain ⟨j, rfl⟩ := isI_ex h3
    have ih := ltT_eq h2 h4
    have ha : alike (pdOf (.int i)) (pdOf (.int j)) = true := rfl
    have ev : PyData.eqv (pdOf (.int i)) (pdOf (.int j)) = intEq i j := by rw [intEq_beq]; simp [pdOf, PyData.eqv]
    unfold ltT
    simp only [pdAll]
    split
    · rename_i e
      rw [dataLt_all_yes ha (ev.trans e)]
      exact ih
    · rename_i e
      rw [dataLt_all_no ha (ev.trans e)]
      exact dataLt_int i j
theorem dlt_I {a b : D} (h : isI a = true) (h' : isI b = true) : dataLt (pdOf a) (pdOf b) = dlt a b := by
  obtain ⟨i, rfl⟩ := isI_ex h
  obtain ⟨j, rfl⟩ := isI_ex h'
  exact dataLt_int i j
theorem dlt_IT {a b : D} (h : isIT a = true) (h' : isIT b = true) : dataLt (pdOf a) (pdOf b) = dlt a b := by
  obtain ⟨i, rfl, h1⟩ := isIT_ex h
  obtain ⟨j, rfl, h2⟩ := isIT_ex h'
  exact (dataLt_tuple _ _).trans (ltT_eq h1 h2)
/-- all ints, or all tuples of ints -/
def cmpAll (ds : List D) : Bool := match allL isI ds with
  | true => true
  | false => allL isIT ds
theorem cmpAll_cases {ds : List D} (h : cmpAll ds = true) : (∀ d ∈ ds, isI d = true) ∨ ∀ d ∈ ds, isIT d = true := by
  unfold cmpAll at h
  split at h
  · rename_i e; exact .inl (allL_mem e)
  · exact .inr (allL_mem h)
theorem dlt_all {ds : List D} (h : cmpAll ds = true) : ∀ a ∈ ds, ∀ b ∈ ds, dataLt (pdOf a) (pdOf b) = dlt a b ∧ alike (pdOf a) (pdOf b) = true ∧ pdOf a ≠ .none := by
  intro a ha b hb
  rcases cmpAll_cases h with h | h
  · refine ⟨dlt_I (h a ha) (h b hb), ?_, ?_⟩
    · obtain ⟨i, rfl⟩ := isI_ex (h a ha)
      obtain ⟨j, rfl⟩ := isI_ex (h b hb)
      rfl
    · obtain ⟨i, rfl⟩ := isI_ex (h a ha)
      intro z; cases z
  · refine ⟨dlt_IT (h a ha) (h b hb), ?_, ?_⟩
    · obtain ⟨i, rfl, h1⟩ := isIT_ex (h a ha)
      obtain ⟨j, rfl, h2⟩ := isIT_ex (h b hb)
      simp only [pdOf, alike]
      exact alike_isI h1 h2
    · obtain ⟨i, rfl, h1⟩ := isIT_ex (h a ha)
      intro z; cases z
theorem pdAll_eq : ∀ ds : List D, pdAll ds = ds.map pdOf
  | [] => rfl
  | d :: ds => by rw [pdAll, pdAll_eq ds]; rfl
theorem inj_isI : ∀ {a b : List D}, allL isI a = true → allL isI b = true → pdAll a = pdAll b → a = b
  | [], [], _, _, _ => rfl
  | x :: a, [], _, _, h => by cases h
  | [], x :: a, _, _, h => by cases h
  | x :: a, y :: b, h, h', e => by
    obtain ⟨h1, h2⟩ := allL_cons h
    obtain ⟨h3, h4⟩ := allL_cons h'
    obtain ⟨i, rfl⟩ := isI_ex h1
    obtain ⟨j, rfl⟩ := isI_ex h3
    simp only [pdAll, pdOf, List.cons.injEq, PyData.int.injEq] at e
    rw [e.1, inj_isI h2 h4 e.2]
theorem pd_inj {ds : List D} (h : cmpAll ds = true) {a b : D} (ha : a ∈ ds) (hb : b ∈ ds) (e : pdOf a = pdOf b) : a = b := by
  rcases cmpAll_cases h with h | h
  · obtain ⟨i, rfl⟩ := isI_ex (h a ha)
    obtain ⟨j, rfl⟩ := isI_ex (h b hb)
    simp only [pdOf, PyData.int.injEq] at e
    rw [e]
  · obtain ⟨i, rfl, h1⟩ := isIT_ex (h a ha)
    obtain ⟨j, rfl, h2⟩ := isIT_ex (h b hb)
    simp only [pdOf, PyData.tuple.injEq] at e
    rw [inj_isI h1 h2 e]
theorem dep_isI : ∀ {a : List D}, allL isI a = true → PyData.depthAll (pdAll a) = 0
  | [], _ => rfl
  | x :: a, h => by
    obtain ⟨h1, h2⟩ := allL_cons h
    obtain ⟨i, rfl⟩ := isI_ex h1
    simp only [pdAll, pdOf, PyData.depthAll, PyData.depth, dep_isI h2]
    rfl
theorem dep_cmp {ds : List D} (h : cmpAll ds = true) : PyData.depthAll (pdAll ds) ≤ 1 := by
  have go : ∀ l : List D, (∀ d ∈ l, (pdOf d).depth ≤ 1) → PyData.depthAll (pdAll l) ≤ 1 := fun l => by
    induction l with
    | nil => intro _; simp [pdAll, PyData.depthAll]
    | cons d l ih =>
      intro hd
      have h1 := hd d List.mem_cons_self
      have h2 := ih fun x hx => hd x (List.mem_cons_of_mem _ hx)
      simp only [pdAll, PyData.depthAll]
      omega
  refine go ds fun d hd => ?_
  rcases cmpAll_cases h with h | h
  · obtain ⟨i, rfl⟩ := isI_ex (h d hd)
    simp [pdOf, PyData.depth]
  · obtain ⟨i, rfl, h1⟩ := isIT_ex (h d hd)
    simp only [pdOf, PyData.depth, dep_isI h1]
    omega
def minGo (a : D) : List D → D
  | [] => a
  | y :: r => match dlt y a with
    | true => minGo y r
    | false => minGo a r
def maxGo (a : D) : List D → D
  | [] => a
  | y :: r => match dlt a y with
    | true => maxGo y r
    | false => maxGo a r
theorem minGo_mem : ∀ (r : List D) (a : D), minGo a r ∈ a :: r
  | [], a => by simp [minGo]
  | y :: r, a => by
    unfold minGo
    split
    · have := minGo_mem r y
      exact List.mem_cons_of_mem _ this
    · have := minGo_mem r a
      rcases List.mem_cons.mp this with e | e
      · rw [e]; exact List.mem_cons_self
      · exact List.mem_cons_of_mem _ (List.mem_cons_of_mem _ e)
theorem maxGo_mem : ∀ (r : List D) (a : D), maxGo a r ∈ a :: r
  | [], a => by simp [maxGo]
  | y :: r, a => by
    unfold maxGo
    split
    · have := maxGo_mem r y
      exact List.mem_cons_of_mem _ this
    · have := maxGo_mem r a
      rcases List.mem_cons.mp this with e | e
      · rw [e]; exact List.mem_cons_self
      · exact List.mem_cons_of_mem _ (List.mem_cons_of_mem _ e)
theorem minGo_eq {ds : List D} (h : cmpAll ds = true) : ∀ (r : List D) (a : D), a ∈ ds → (∀ d ∈ r, d ∈ ds) → minD (pdOf a) (pdAll r) = pdOf (minGo a r)
  | [], a, _, _ => rfl
  | y :: r, a, ha, hr => by
    have hy := hr y List.mem_cons_self
    have e := (dlt_all h y hy a ha).1
    unfold minGo
    show minD (if dataLt (pdOf y) (pdOf a) = true then pdOf y else pdOf a) (pdAll r) = _
    rw [e]
    cases q : dlt y a with
    | true =>
      rw [if_pos rfl]
      exact minGo_eq h r y hy fun d hd => hr d (List.mem_cons_of_mem _ hd)
    | false =>
      rw [if_neg Bool.false_ne_true]
      exact minGo_eq h r a ha fun d hd => hr d (List.mem_cons_of_mem _ hd)
theorem maxGo_eq {ds : List D} (h : cmpAll ds = true) : ∀ (r : List D) (a : D), a ∈ ds → (∀ d ∈ r, d ∈ ds) → maxD (pdOf a) (pdAll r) = pdOf (maxGo a r)
  | [], a, _, _ => rfl
  | y :: r, a, ha, hr => by
    have hy := hr y List.mem_cons_self
    have e := (dlt_all h a ha y hy).1
    unfold maxGo
    show maxD (if dataLt (pdOf a) (pdOf y) = true then pdOf y else pdOf a) (pdAll r) = _
    rw [e]
    cases q : dlt a y with
    | true =>
      rw [if_pos rfl]
      exact maxGo_eq h r y hy fun d hd => hr d (List.mem_cons_of_mem _ hd)
    | false =>
      rw [if_neg Bool.false_ne_true]
      exact maxGo_eq h r a ha fun d hd => hr d (List.mem_cons_of_mem _ hd)
/-- the items of a list, a tuple -/
def itemsD (d : D) (hs : Hs) : Option (List D) := match d with
  | .tup ds => some ds
  | .ref i => match at? hs i with
    | some (.lst ds) => some ds
    | _ => none
  | _ => none
def minLM : FM := fun ds hs => match ds with
  | [.ref i] => match at? hs i with
    | some (.lst (x :: r)) => match cmpAll (x :: r) with
      | true => some (minGo x r, hs)
      | false => none
    | _ => none
  | _ => none
def maxLM : FM := fun ds hs => match ds with
  | [.ref i] => match at? hs i with
    | some (.lst (x :: r)) => match cmpAll (x :: r) with
      | true => some (maxGo x r, hs)
      | false => none
    | _ => none
  | _ => none
instance : QF minLM := ⟨fun ds hs d hs' h => by
  unfold minLM at h
  split at h
  · split at h
    · split at h
      · cases h; exact .refl
      · cases h
    · cases h
  · cases h⟩
instance : QF maxLM := ⟨fun ds hs d hs' h => by
  unfold maxLM at h
  split at h
  · split at h
    · split at h
      · cases h; exact .refl
      · cases h
    · cases h
  · cases h⟩
theorem shal_cmp {ds : List D} (h : cmpAll ds = true) : allL (shal 12) ds = true := by
  have one : ∀ d, isI d = true ∨ isIT d = true → shal 12 d = true := fun d h => by
    rcases h with h | h
    · obtain ⟨i, rfl⟩ := isI_ex h
      rfl
    · obtain ⟨ds, rfl, h1⟩ := isIT_ex h
      show allL (shal 11) ds = true
      induction ds with
      | nil => rfl
      | cons x r ih =>
        obtain ⟨h2, h3⟩ := allL_cons h1
        obtain ⟨i, rfl⟩ := isI_ex h2
        show (match shal 11 (.int i) with | true => allL (shal 11) r | false => false) = true
        exact ih h3 h3
  have go : ∀ l : List D, (∀ d ∈ l, isI d = true ∨ isIT d = true) → allL (shal 12) l = true := fun l => by
    induction l with
    | nil => intro _; rfl
    | cons x r ih =>
      intro hd
      have e := one x (hd x List.mem_cons_self)
      unfold allL
      rw [e]
      exact ih fun d hx => hd d (List.mem_cons_of_mem _ hx)
  refine go ds fun d hd => ?_
  rcases cmpAll_cases h with h | h
  · exact .inl (h d hd)
  · exact .inr (h d hd)
section
variable {X : Cx} {tb : TBs}
theorem minmax_of {pins : List (Addr × Obj)} {σ : L2.St} {H : Hp} {s : Shared} {m : List Addr} {ds : List D} {xs : List V} {a : Addr} (I : Inv X pins σ H s) (hx : H a = some (.lst xs)) (r : Reps X.K H m ds xs) (h : cmpAll ds = true) :
    ∃ (its : List Value) (as : List Addr), Vals xs its ∧ PySem.Heap.IsList s.heap a its.toArray ∧ ReadsAll s.heap its.toArray.toList (pdAll ds) as ∧ AlikeAll (pdAll ds) := by
  obtain ⟨its, rv, pl, hz⟩ := I.list (.of hx)
  have dp : DpAll X.K H xs (pdAll ds) := dp_all (n := 12) (fun d v => dp_of 12 d v) ds xs (shal_cmp h) r
  obtain ⟨as, h4⟩ := Dp.readsAll I _ _ its dp rv
  refine ⟨its, as, rv, pl.isList, by simpa using h4, ?_, ?_⟩
  · intro x hx y hy
    rw [pdAll_eq] at hx hy
    obtain ⟨d, hd, rfl⟩ := List.mem_map.mp hx
    obtain ⟨e, he, rfl⟩ := List.mem_map.mp hy
    exact (dlt_all h d hd e he).2.1
  · intro x hx
    rw [pdAll_eq] at hx
    obtain ⟨d, hd, rfl⟩ := List.mem_map.mp hx
    exact (dlt_all h d hd d hd).2.2
/-- the item that was found is the mirror's -/
theorem found_of {pins : List (Addr × Obj)} {σ : L2.St} {H : Hp} {s : Shared} {m : List Addr} {ds : List D} {xs : List V} {its : List Value} {i : Nat} {v : Value} {d : D} {bs as : List Addr} {h' : Heap} (I : Inv X pins σ H s) (r : Reps X.K H m ds xs) (h : cmpAll ds = true) (rv : Vals xs its)
    (ra : ReadsAll s.heap its (pdAll ds) as) (hd : d ∈ ds) (hi : its.toArray[i]? = some v) (rd : Reads h' v (pdOf d) bs) (k : ∀ b o, s.heap.get? b = some o → h'.get? b = some o) : ∃ w, RelV w v ∧ Rep X.K H m d w := by
  have hi : its[i]? = some v := by simpa using hi
  have hl : i < its.length := (List.getElem?_eq_some_iff.mp hi).1
  have hxl := rv.length
  have hlt : i < xs.length := by omega
  have e1 : xs[i]? = some xs[i] := List.getElem?_eq_getElem hlt
  obtain ⟨d', h1, r1⟩ := r.get' e1
  have hdm := List.mem_of_getElem? h1
  obtain ⟨u, h2, r2⟩ := rv.get e1
  rw [hi] at h2
  cases h2
  obtain ⟨bs2, rd2, h3, h4, h5⟩ := readsAll_at ra i v hi
  have e3 : (pdAll ds).getD i .none = pdOf d' := by
    rw [pdAll_eq, List.getD_eq_getElem?_getD, List.getElem?_map, h1]
    rfl
  rw [e3] at rd2
  have e4 := alike_unique _ _ _ _ _ (dlt_all h d hd d' hdm).2.1 rd (reads_keeps k rd2)
  have e5 := pd_inj h hd hdm e4
  subst e5
  exact ⟨_, r2, r1⟩
theorem cr_minLM (hc : X.calm = true) (hu : X.A.units + 64 < cLine) : CallR X (.builtin "min") (RLM (GO X tb) minLM) := by
  intro pins s σ H vs us Q I rr h
  obtain ⟨ds, hs, m, hr, r, d, hs', e, q⟩ := h
  unfold minLM at e
  split at e
  · split at e
    · rename_i x r0 ei
      split at e
      · rename_i hcm
        cases e
        obtain ⟨v, rfl, rv⟩ := reps1 r
        cases rv with
        | ref e1 =>
          rename_i a
          obtain ⟨xs, hx, rx⟩ := hr.lst e1 ei
          obtain ⟨u, rfl, ru⟩ := vals1 rr
          cases ru
          obtain ⟨its, as, rvs, hl, ra, al⟩ := minmax_of I hx rx hcm
          refine min_list_data (I.ok.hd hc) hl ra al (by have := dep_cmp hcm; simp only [pdAll] at this; omega) fun i v h' tk bs hi rd k => ?_
          rw [minGo_eq hcm r0 x List.mem_cons_self fun d hd => List.mem_cons_of_mem _ hd] at rd
          obtain ⟨w, rw, rp⟩ := found_of I rx hcm rvs (by simpa using ra) (minGo_mem r0 x) hi rd k
          exact ⟨w, H, I.kept k, rw, q _ _ _ .refl hr rp⟩
      · cases e
    · cases e
  · cases e
theorem cr_maxLM (hc : X.calm = true) (hu : X.A.units + 64 < cLine) : CallR X (.builtin "max") (RLM (GO X tb) maxLM) := by
  intro pins s σ H vs us Q I rr h
  obtain ⟨ds, hs, m, hr, r, d, hs', e, q⟩ := h
  unfold maxLM at e
  split at e
  · split at e
    · rename_i x r0 ei
      split at e
      · rename_i hcm
        cases e
        obtain ⟨v, rfl, rv⟩ := reps1 r
        cases rv with
        | ref e1 =>
          rename_i a
          obtain ⟨xs, hx, rx⟩ := hr.lst e1 ei
          obtain ⟨u, rfl, ru⟩ := vals1 rr
          cases ru
          obtain ⟨its, as, rvs, hl, ra, al⟩ := minmax_of I hx rx hcm
          refine max_list_data (I.ok.hd hc) hl ra al (by have := dep_cmp hcm; simp only [pdAll] at this; omega) fun i v h' tk bs hi rd k => ?_
          rw [maxGo_eq hcm r0 x List.mem_cons_self fun d hd => List.mem_cons_of_mem _ hd] at rd
          obtain ⟨w, rw, rp⟩ := found_of I rx hcm rvs (by simpa using ra) (maxGo_mem r0 x) hi rd k
          exact ⟨w, H, I.kept k, rw, q _ _ _ .refl hr rp⟩
      · cases e
    · cases e
  · cases e
end
end Mir

/-! MirJ: a tuple that is known, its index; dicts with keys ints and texts. -/
namespace Mir
open PySem PySem.Spec PyProof.Rows L2

/-! ### tuple(l), the object known; t.index(k), ints -/
def tufL : FM := fun ds hs => match ds with
  | [.ref i] => match at? hs i with
    | some (.lst a) => some (.tuf a, hs)
    | _ => none
  | _ => none
instance : QF tufL := ⟨fun ds hs d hs' h => by
  unfold tufL at h
  split at h
  · split at h
    · cases h; exact .refl
    · cases h
  · cases h⟩
section
variable {X : Cx} {tb : TBs}
theorem cr_tuf : CallR X (.type "tuple") (RLM (GO X tb) tufL) := by
  intro pins s σ H vs us Q I rr h
  obtain ⟨ds, hs, m, hr, r, d, hs', e, q⟩ := h
  unfold tufL at e
  split at e
  · split at e
    · rename_i a0 ei
      cases e
      obtain ⟨v, rfl, rv⟩ := reps1 r
      cases rv with
      | ref e1 =>
        obtain ⟨xs, hx, rx⟩ := hr.lst e1 ei
        obtain ⟨u, rfl, ru⟩ := vals1 rr
        cases ru
        obtain ⟨its, r', pl, hz⟩ := I.list (.of hx)
        have hlen := r'.length
        refine call_tuple_list pl.isList (fun h' kp => ?_) (by simp only [List.size_toArray] <;> omega)
        have I1 : L2.Inv X pins σ H { s with heap := h' } := I.kept (t' := s.toks) kp
        have hn := I1.hok.fresh (Nat.le_refl _)
        have I2 : L2.Inv X pins σ (upd H h'.objs.size (.frz { cls := .type "tuple", data := .seq its.toArray } (.tup xs))) { s with heap := h'.push { cls := .type "tuple", data := .seq its.toArray } } :=
          I1.laid (t' := s.toks) (fun b o e => Heap.get?_push_of_some _ e) (Nat.le_refl _) (show ObjOk X.prog X.w _ _ _ (.frz _ (.tup xs)) from ⟨Heap.get?_push_size _ rfl, hz, its, r', IsTup.new _ _⟩)
        exact ⟨.ref h'.objs.size, _, I2, rfl, q _ _ m (.fresh1 hn) (hr.more hn) (.tuf upd_same rfl (rx.nx hr (.fresh1 hn)))⟩
    · cases e
  · cases e
def idxI (k : Int) : List Int → Option Nat
  | [] => none
  | i :: r => match intEq i k with
    | true => some 0
    | false => match idxI k r with
      | some n => some (n + 1)
      | none => none
theorem idxI_eq {k : Int} : ∀ {ns : List Int} {j : Nat}, idxI k ns = some j → k ∈ ns ∧ ns.idxOf k = j
  | [], _, h => by cases h
  | i :: r, j, h => by
    unfold idxI at h
    split at h
    · rename_i e
      cases h
      rw [intEq_beq] at e
      have e := eq_of_beq e
      subst e
      exact ⟨List.mem_cons_self, List.idxOf_cons_self⟩
    · rename_i e
      rw [intEq_beq] at e
      split at h
      · rename_i n e2
        cases h
        obtain ⟨h1, h2⟩ := idxI_eq e2
        refine ⟨List.mem_cons_of_mem _ h1, ?_⟩
        rw [List.idxOf_cons, e, cond_false, h2]
      · cases h
def mTidx (fo fe : EM) : EM := fun ρ hs => match fo ρ hs with
  | some (.tuf ds, hs1) => match fe ρ hs1 with
    | some (.int k, hs2) => match intsOf ds with
      | some ns => match idxI k ns with
        | some j => some (.int (j : Nat), hs2)
        | none => none
      | none => none
    | _ => none
  | _ => none
instance {fo fe : EM} [a : QE fo] [b : QE fe] : QE (mTidx fo fe) := ⟨fun ρ hs d hs' h => by
  unfold mTidx at h
  split at h
  · rename_i e1
    split at h
    · rename_i e2
      split at h
      · split at h
        · cases h
          exact (a.q _ _ _ _ e1).trans (b.q _ _ _ _ e2)
        · cases h
      · cases h
    · cases h
  · cases h⟩
theorem m_tidx {o e : Expr} {fo fe : EM} {apos cpos : Pos} (ho : PE X o (TM (GO X tb) fo)) (ha : PE X e (TM (GO X tb) fe))
    (hbase : attributeBase o "index" X.env (eval o X.env) = eval o X.env := by rfl)
    (hfew : ((backTo cpos (starEach (e :: []) X.env)).all (fun x => !x.1) && (backToKw cpos (keywordEach [] X.env)).all (fun x => x.1.isSome)
      && decide ((e :: []).length + ([] : List Keyword).length + (if ([] : List Keyword).isEmpty then 0 else 1) < 30)) = true := by rfl)
    (hline : (apos.endLine == cpos.line) = true := by rfl) (hs : starEach (e :: []) X.env = (false, eval e X.env) :: starEach [] X.env := by rfl) (hplain : (backTo cpos (starEach [] X.env)).any (·.1) = false := by rfl) :
    PE X (.Call (.Attribute o "index" apos) [e] [] cpos) (TM (GO X tb) (mTidx fo fe)) := by
  refine ⟨fun pins s σ H Q I h => ?_⟩
  obtain ⟨ρ, hs0, m, sl, hr, d, hs', ee, q⟩ := h
  unfold mTidx at ee
  split at ee
  · rename_i ds hs1 e1
    split at ee
    · rename_i k hs2 e2
      split at ee
      · rename_i ns e3
        split at ee
        · rename_i j e4
          cases ee
          refine wpAny_Call_method_late hbase hfew hline rfl (thn (ho.run pins s σ H (fun x H1 => ∃ m1, Nx m H m1 H1 ∧ HR (GO X tb) m1 hs1 H1 ∧ Rep X.K H1 m1 (.tuf ds) x) I ⟨ρ, hs0, m, sl, hr, _, _, e1, fun v H1 m1 n1 hr1 rv => ⟨m1, n1, hr1, rv⟩⟩) fun v s1 ⟨x, H1, I1, r1, m1, n1, hr1, rv⟩ => ?_)
          cases rv with
          | tuf hx hd rx =>
            rename_i a xs o
            cases r1
            obtain ⟨ho1, hz, its, rv, ⟨o', ho', hc, hs3⟩⟩ := (show ObjOk X.prog X.w H1 s1.heap a (.frz o (.tup xs)) from I1.hok a _ hx)
            rw [ho1] at ho'; cases ho'
            refine ⟨"tuple", "tuple.index", PySem.F.plainAttrs_tuple, PySem.F.slot_tuple_index, PySem.F.type_tuple_index, ⟨o, ho1, hc⟩, fun b e => ?_, ?_⟩
            · cases e
              exact ⟨o, ho1, hd⟩
            have hA := (pa_cons ha pa_nil hs).run cpos pins s1 σ H1 (fun vs H2 => ∃ v m2, vs = [v] ∧ Nx m1 H1 m2 H2 ∧ HR (GO X tb) m2 hs' H2 ∧ Rep X.K H2 m2 (.int k) v ∧ H2 a = some (.frz o (.tup xs)) ∧ Nx m H m2 H2) I1
              ⟨ρ, hs1, m1, sl.nx hr n1, hr1, _, _, e2, fun v H2 m2 n2 hr2 rv => ⟨v, m2, rfl, n2, hr2, rv, n2.keep a _ hx (hr1.no_frz hx) fun _ z => (by cases z), n1.trans n2⟩⟩
            rw [hs] at hA ⊢
            refine Calls.callWith_builtin (by show (false || (backTo cpos (starEach [] X.env)).any (·.1)) = false; rw [hplain] <;> rfl) (Calls.evalArgs_plain ?_)
            refine thn hA fun us s2 ⟨vs, H2, I2, r2, v, m2, ev, n2, hr2, rv2, hx2, n3⟩ => ?_
            subst ev
            cases rv2
            obtain ⟨u, rfl, t, rfl⟩ := vals1 r2
            rw [intsOf_eq e3] at rx
            have ex := rx.ints
            subst ex
            obtain ⟨h5, _, its2, rv3, tp⟩ := (show ObjOk X.prog X.w H2 s2.heap a (.frz o (.tup (ns.map V.int))) from I2.hok a _ hx2)
            obtain ⟨h6, h7⟩ := idxI_eq e4
            refine PySem.SeqAt.tuple_index_ints (l := a) (vs := its2) tp rv3.ints h6 ?_
            rw [h7]
            exact ⟨.int j, H2, I2.tok _, ⟨_, rfl⟩, q _ _ m2 n3 hr2 (.int _)⟩
        · cases ee
      · cases ee
    · cases ee
  · cases ee
end
end Mir

/-! MirK: dicts with keys ints and texts. -/
namespace Mir
open PySem PySem.Spec PyProof.Rows L2

def keyOf : D → Option Key
  | .int i => some (.inl i)
  | .str s => some (.inr s)
  | _ => none
def keq : D → D → Bool
  | .int i, .int j => intEq i j
  | .str s, .str t => strEq s t
  | _, _ => false
def kget (k : D) : List (D × D) → Option D
  | [] => none
  | (j, v) :: r => match keq j k with
    | true => some v
    | false => kget k r
def kany (k : D) : List (D × D) → Bool
  | [] => false
  | (j, _) :: r => match keq j k with
    | true => true
    | false => kany k r
def krep (k v : D) : List (D × D) → List (D × D)
  | [] => []
  | (j, w) :: r => match keq j k with
    | true => (j, v) :: krep k v r
    | false => (j, w) :: krep k v r
def kput (k v : D) (kvs : List (D × D)) : List (D × D) := match kany k kvs with
  | true => krep k v kvs
  | false => kvs ++ [(k, v)]
inductive KRel (K : PySem.W.Frag) (H : Hp) (m : List Addr) : List (D × D) → List (Key × V) → Prop where
  | nil : KRel K H m [] []
  | cons {k : Key} {d : D} {v : V} {r : List (D × D)} {s : List (Key × V)} : Rep K H m d v → KRel K H m r s → KRel K H m ((keyD k, d) :: r) ((k, v) :: s)
section
variable {K : PySem.W.Frag} {H H' : Hp} {m m' : List Addr}
theorem KRel.of : ∀ {kvs : List (D × D)} {ks : List (Key × V)}, kvs.map (·.1) = ks.map (fun p => keyD p.1) → Reps K H m (kvs.map (·.2)) (ks.map (·.2)) → KRel K H m kvs ks
  | [], [], _, _ => .nil
  | [], _ :: _, h, _ => by cases h
  | _ :: _, [], h, _ => by cases h
  | (j, d) :: r, (k, v) :: s, h, q => by
    rw [List.map_cons, List.map_cons] at h
    injection h with h1 h2
    rw [List.map_cons, List.map_cons] at q
    cases q with
    | cons q t =>
      have h1 : j = keyD k := h1
      subst h1
      exact .cons q (KRel.of h2 t)
theorem KRel.keys : ∀ {kvs : List (D × D)} {ks : List (Key × V)}, KRel K H m kvs ks → kvs.map (·.1) = ks.map (fun p => keyD p.1)
  | _, _, .nil => rfl
  | _, _, .cons _ t => by rw [List.map_cons, List.map_cons, KRel.keys t]
theorem KRel.vals : ∀ {kvs : List (D × D)} {ks : List (Key × V)}, KRel K H m kvs ks → Reps K H m (kvs.map (·.2)) (ks.map (·.2))
  | _, _, .nil => .nil
  | _, _, .cons r t => .cons r (KRel.vals t)
theorem KRel.len : ∀ {kvs : List (D × D)} {ks : List (Key × V)}, KRel K H m kvs ks → kvs.length = ks.length
  | _, _, .nil => rfl
  | _, _, .cons _ t => congrArg (· + 1) t.len
theorem KRel.mapR (f : ∀ d v, Rep K H m d v → Rep K H' m' d v) : ∀ {kvs : List (D × D)} {ks : List (Key × V)}, KRel K H m kvs ks → KRel K H' m' kvs ks
  | _, _, .nil => .nil
  | _, _, .cons r t => .cons (f _ _ r) (KRel.mapR f t)
theorem keq_key (a b : Key) : keq (keyD a) (keyD b) = decide (a = b) := by
  cases a <;> cases b <;> simp [keq, keyD, intEq_beq, strEq_beq] <;> rfl
theorem keyOf_eq {d : D} {k : Key} (h : keyOf d = some k) : d = keyD k := by
  cases d <;> cases h <;> rfl
theorem keyOf_rep {d : D} {k : Key} {v : V} (h : keyOf d = some k) (r : Rep K H m d v) : v = kV k := by
  cases r <;> cases h <;> rfl
theorem kget_rel {k : Key} : ∀ {kvs : List (D × D)} {ks : List (Key × V)}, KRel K H m kvs ks → (kget (keyD k) kvs = none → valV ks k = none) ∧ ∀ d, kget (keyD k) kvs = some d → ∃ v, valV ks k = some v ∧ Rep K H m d v
  | _, _, .nil => ⟨fun _ => valV_nil, fun d h => by cases h⟩
  | _, _, .cons (k := j) (v := v) (s := s) r t => by
    have ih := kget_rel (k := k) t
    unfold kget
    rw [keq_key]
    by_cases e : j = k
    · rw [decide_eq_true e]
      refine ⟨fun h => (by cases h), fun d h => ?_⟩
      cases h
      exact ⟨_, valV_pos (p := (j, v)) e, r⟩
    · rw [decide_eq_false e]
      have e2 : valV ((j, v) :: s) k = valV s k := valV_neg (p := (j, v)) e
      rw [e2]
      exact ih
theorem kany_rel {k : Key} : ∀ {kvs : List (D × D)} {ks : List (Key × V)}, KRel K H m kvs ks → kany (keyD k) kvs = ks.any fun kv => decide (kv.1 = k)
  | _, _, .nil => rfl
  | _, _, .cons (k := j) r t => by
    unfold kany
    rw [keq_key, List.any_cons]
    cases e : decide (j = k) with
    | true => rfl
    | false => exact kany_rel t
theorem krep_rel {k : Key} {d : D} {v : V} (rd : Rep K H m d v) : ∀ {kvs : List (D × D)} {ks : List (Key × V)}, KRel K H m kvs ks → KRel K H m (krep (keyD k) d kvs) (ks.map fun kv => if kv.1 = k then (kv.1, v) else kv)
  | _, _, .nil => .nil
  | _, _, .cons (k := j) r t => by
    unfold krep
    rw [keq_key, List.map_cons]
    by_cases e : j = k
    · rw [decide_eq_true e, if_pos (show j = k from e)]
      exact .cons rd (krep_rel rd t)
    · rw [decide_eq_false e, if_neg (show ¬ j = k from e)]
      exact .cons r (krep_rel rd t)
theorem KRel.snoc {k : Key} {d : D} {v : V} (rd : Rep K H m d v) : ∀ {kvs : List (D × D)} {ks : List (Key × V)}, KRel K H m kvs ks → KRel K H m (kvs ++ [(keyD k, d)]) (ks ++ [(k, v)])
  | _, _, .nil => .cons rd .nil
  | _, _, .cons r t => .cons r (KRel.snoc rd t)
theorem kput_rel {k : Key} {d : D} {v : V} {kvs : List (D × D)} {ks : List (Key × V)} (rd : Rep K H m d v) (h : KRel K H m kvs ks) : KRel K H m (kput (keyD k) d kvs) (putK ks k v) := by
  unfold kput putK
  rw [kany_rel h]
  cases e : ks.any fun kv => decide (kv.1 = k) with
  | true => rw [if_pos rfl]; exact krep_rel rd h
  | false => rw [if_neg Bool.false_ne_true]; exact h.snoc rd
end
theorem HR.dKr {G : GX} {m : List Addr} {hs : Hs} {H : Hp} (hr : HR G m hs H) {i : Nat} {a : Addr} {kvs : List (D × D)} (e : m[i]? = some a) (h : at? hs i = some (.dK kvs)) : ∃ ks, H a = some (.dK ks) ∧ KRel G.K H m kvs ks := by
  obtain ⟨ks, h1, h2, h3⟩ := hr.dK e h
  exact ⟨ks, h1, .of h2 h3⟩

/-! ### k in d; l, t, d -/
def inX : F2 := fun d e hs => match e with
  | .ref i => match at? hs i with
    | some (.dK kvs) => match keyOf d with
      | some _ => some (.bl (match kget d kvs with | some _ => true | none => false), hs)
      | none => none
    | _ => inD d e hs
  | _ => inD d e hs
instance : Q2 inX := ⟨fun d e hs r hs' h => by
  unfold inX at h
  split at h
  · split at h
    · split at h
      · cases h; exact .refl
      · cases h
    · exact Q2.q _ _ _ _ _ h
  · exact Q2.q _ _ _ _ _ h⟩
section
variable {X : Cx} {tb : TBs}
theorem inX_cases {d e r : D} {hs hs' : Hs} (h : inX d e hs = some (r, hs')) : inD d e hs = some (r, hs') ∨ ∃ i kvs k, e = .ref i ∧ at? hs i = some (.dK kvs) ∧ keyOf d = some k ∧ hs' = hs ∧ r = .bl (match kget d kvs with | some _ => true | none => false) := by
  unfold inX at h
  split at h
  · split at h
    · rename_i e1
      split at h
      · rename_i k ek
        cases h
        exact .inr ⟨_, _, k, rfl, e1, ek, rfl, rfl⟩
      · cases h
    · exact .inl h
  · exact .inl h
theorem op_inX (hu : X.A.units + 65 < cLine) : OpR X (compareOp .In) (R2M (GO X tb) inX) := by
  intro pins s σ H x y v u Q I rx ry h
  obtain ⟨d, e, hs, m, hr, r1, r2, r, hs', ee, q⟩ := h
  rcases inX_cases ee with ee | ⟨i, kvs, k, rfl, ei, ek, rfl, rfl⟩
  · exact op_inM (tb := tb) hu pins s σ H x y v u Q I rx ry ⟨d, e, hs, m, hr, r1, r2, r, hs', ee, q⟩
  · cases r2 with
    | ref ea =>
      rename_i a
      obtain ⟨ks, hx, kr⟩ := hr.dKr ea ei
      have e1 := keyOf_rep ek r1
      have e2 := keyOf_eq ek
      subst e1
      subst e2
      cases ry
      obtain ⟨g1, g2⟩ := kget_rel (k := k) kr
      refine d_in (by omega) I (DGet.k (k := k) hx) rx fun s' I' => ?_
      cases eg : kget (keyD k) kvs with
      | none =>
        rw [eg] at q
        rw [g1 eg]
        exact ⟨.bl false, H, I', rfl, q _ _ _ .refl hr (.bl _)⟩
      | some d' =>
        rw [eg] at q
        obtain ⟨w, h1, _⟩ := g2 d' eg
        rw [h1]
        exact ⟨.bl true, H, I', rfl, q _ _ _ .refl hr (.bl _)⟩
theorem op_notInX (hu : X.A.units + 65 < cLine) : OpR X (compareOp .NotIn) (R2M (GO X tb) (notF inX)) := by
  intro pins s σ H x y v u Q I rx ry h
  obtain ⟨d, e, hs, m, hr, r1, r2, r, hs', ee, q⟩ := h
  unfold notF at ee
  split at ee
  · rename_i c hs2 e3
    cases ee
    rcases inX_cases e3 with e4 | ⟨i, kvs, k, rfl, ei, ek, rfl, e5⟩
    · exact op_notInM (tb := tb) hu pins s σ H x y v u Q I rx ry ⟨d, e, hs, m, hr, r1, r2, _, _, by unfold notF; rw [e4], q⟩
    · cases e5
      cases r2 with
      | ref ea =>
        rename_i a
        obtain ⟨ks, hx, kr⟩ := hr.dKr ea ei
        have e1 := keyOf_rep ek r1
        have e2 := keyOf_eq ek
        subst e1
        subst e2
        cases ry
        obtain ⟨g1, g2⟩ := kget_rel (k := k) kr
        refine d_notIn (by omega) I (DGet.k (k := k) hx) rx fun s' I' => ?_
        cases eg : kget (keyD k) kvs with
        | none =>
          rw [eg] at q
          rw [g1 eg]
          exact ⟨.bl true, H, I', rfl, q _ _ _ .refl hr (.bl _)⟩
        | some d' =>
          rw [eg] at q
          obtain ⟨w, h1, _⟩ := g2 d' eg
          rw [h1]
          exact ⟨.bl false, H, I', rfl, q _ _ _ .refl hr (.bl _)⟩
  · cases ee
end
/-! ### d[k], d.get(k, x) -/
def mDix (fo fk : EM) : EM := fun ρ hs => match fo ρ hs with
  | some (.ref i, hs1) => match fk ρ hs1 with
    | some (d, hs2) => match at? hs2 i with
      | some (.dK kvs) => match keyOf d with
        | some _ => match kget d kvs with
          | some w => some (w, hs2)
          | none => none
        | none => none
      | _ => none
    | none => none
  | _ => none
instance {fo fk : EM} [a : QE fo] [b : QE fk] : QE (mDix fo fk) := ⟨fun ρ hs d hs' h => by
  unfold mDix at h
  split at h
  · rename_i e1
    split at h
    · rename_i e2
      split at h
      · split at h
        · split at h
          · cases h; exact (a.q _ _ _ _ e1).trans (b.q _ _ _ _ e2)
          · cases h
        · cases h
      · cases h
    · cases h
  · cases h⟩
def mGet2 (fo fk fx : EM) : EM := fun ρ hs => match fo ρ hs with
  | some (.ref i, hs1) => match at? hs1 i with
    | some (.dK _) => match fk ρ hs1 with
      | some (d, hs2) => match fx ρ hs2 with
        | some (z, hs3) => match at? hs3 i with
          | some (.dK kvs) => match keyOf d with
            | some _ => match kget d kvs with
              | some w => some (w, hs3)
              | none => some (z, hs3)
            | none => none
          | _ => none
        | none => none
      | none => none
    | _ => none
  | _ => none
instance {fo fk fx : EM} [a : QE fo] [b : QE fk] [c : QE fx] : QE (mGet2 fo fk fx) := ⟨fun ρ hs d hs' h => by
  unfold mGet2 at h
  split at h
  · rename_i e1
    split at h
    · split at h
      · rename_i e2
        split at h
        · rename_i e3
          have g := ((a.q _ _ _ _ e1).trans (b.q _ _ _ _ e2)).trans (c.q _ _ _ _ e3)
          split at h
          · split at h
            · split at h
              · cases h; exact g
              · cases h; exact g
            · cases h
          · cases h
        · cases h
      · cases h
    · cases h
  · cases h⟩
section
variable {X : Cx} {tb : TBs} {o e f : Expr} {fo fe ff : EM} {pos apos cpos : Pos}
theorem m_dix (hu : X.A.units + 1 < cLine) (ho : PE X o (TM (GO X tb) fo)) (he : PE X e (TM (GO X tb) fe)) (hs : NoSl e := by intro _ _; rfl) : PE X (.Subscript o e pos) (TM (GO X tb) (mDix fo fe)) := by
  refine (pe_dget hu ho he hs).imp fun σ H Q ⟨ρ, hs, m, sl, hr, d, hs', ee, q⟩ => ?_
  unfold mDix at ee
  split at ee
  · rename_i i hs1 e1
    split at ee
    · rename_i d2 hs2 e2
      split at ee
      · rename_i kvs e3
        split at ee
        · rename_i k ek
          split at ee
          · rename_i w eg
            cases ee
            refine ⟨ρ, hs, m, sl, hr, _, _, e1, fun v H1 m1 n1 hr1 rv => ⟨ρ, hs1, m1, sl.nx hr n1, hr1, _, _, e2, fun y H2 m2 n2 hr2 ry => ?_⟩⟩
            cases rv with
            | ref ha =>
              obtain ⟨ks, hx, kr⟩ := hr2.dKr (n2.ix ha) e3
              have q1 := keyOf_rep ek ry
              have q2 := keyOf_eq ek
              subst q1
              subst q2
              obtain ⟨v2, h1, h2⟩ := (kget_rel (k := k) kr).2 _ eg
              exact ⟨_, v2, rfl, by rw [← h1]; exact DGet.k hx, q _ H2 m2 (n1.trans n2) hr2 h2⟩
          · cases ee
        · cases ee
      · cases ee
    · cases ee
  · cases ee
theorem m_get2 (hu : X.A.units + 1 < cLine) (ho : PE X o (TM (GO X tb) fo)) (he : PE X e (TM (GO X tb) fe)) (hf : PE X f (TM (GO X tb) ff)) (hm : M2 X o "get" apos e f cpos := by exact ⟨rfl, rfl, rfl, rfl⟩) :
    PE X (.Call (.Attribute o "get" apos) [e, f] [] cpos) (TM (GO X tb) (mGet2 fo fe ff)) := by
  refine (pe_dget2 hu ho he hf hm).imp fun σ H Q ⟨ρ, hs, m, sl, hr, d, hs', ee, q⟩ => ?_
  unfold mGet2 at ee
  split at ee
  · rename_i i hs1 e1
    split at ee
    · rename_i kv0 e0
      split at ee
      · rename_i d2 hs2 e2
        split at ee
        · rename_i z hs3 e3
          split at ee
          · rename_i kvs e4
            split at ee
            · rename_i k ek
              refine ⟨ρ, hs, m, sl, hr, _, _, e1, fun v H1 m1 n1 hr1 rv => ?_⟩
              cases rv with
              | ref ha =>
                rename_i a
                obtain ⟨ks0, hx0, _⟩ := hr1.dKr ha e0
                refine ⟨a, rfl, .inl ⟨_, .inl hx0⟩, ρ, hs1, m1, sl.nx hr n1, hr1, _, _, e2, fun y H2 m2 n2 hr2 ry => ⟨ρ, hs2, m2, (sl.nx hr n1).nx hr1 n2, hr2, _, _, e3, fun w H3 m3 n3 hr3 rw => ?_⟩⟩
                obtain ⟨ks, hx, kr⟩ := hr3.dKr (n3.ix (n2.ix ha)) e4
                have q1 := keyOf_rep ek ry
                have q2 := keyOf_eq ek
                subst q1
                subst q2
                obtain ⟨g1, g2⟩ := kget_rel (k := k) kr
                refine ⟨_, DGet.k hx, ?_⟩
                split at ee
                · rename_i w2 eg
                  cases ee
                  obtain ⟨v2, h1, h2⟩ := g2 _ eg
                  rw [h1]
                  exact q _ H3 m3 ((n1.trans n2).trans n3) hr3 h2
                · rename_i eg
                  cases ee
                  rw [g1 eg]
                  exact q _ H3 m3 ((n1.trans n2).trans n3) hr3 rw
            · cases ee
          · cases ee
        · cases ee
      · cases ee
    · cases ee
  · cases ee
end
end Mir

/-! MirL: dicts made: displays, dict(pairs), comprehensions; comprehensions of two clauses. -/
namespace Mir
open PySem PySem.Spec PyProof.Rows L2

/-! ### an object beside the mirror's heap -/
theorem HR.asideG {G : GX} {m : List Addr} {hs : Hs} {H : Hp} {L : Addr} {u u' : HO} (hr : HR G m hs H) (hL : H L = some u) (hn : L ∉ m) (nt : ∀ xs, u ≠ .tup xs) (nf : ∀ o w, u ≠ .frz o w) (nb : ∀ ps, u ≠ .tbl ps) (ni : ∀ C dx fs, u ≠ .ins C dx fs) :
    HR G m hs (upd H L u') ∧ ∀ d v, Rep G.K H m d v → Rep G.K (upd H L u') m d v := by
  have hp : ∀ b w, H b = some w → w ≠ u → b ≠ L := fun b w e h z => by rw [z, hL] at e; exact h (Option.some.inj e).symm
  have st : ∀ {a : Addr} {zs : List V}, H a = some (.tup zs) → upd H L u' a = some (.tup zs) := fun {a zs} h => by rw [upd_ne (hp a _ h fun z => nt _ z.symm)]; exact h
  have sf : ∀ {a : Addr} {o : Obj} {w : HO}, H a = some (.frz o w) → upd H L u' a = some (.frz o w) := fun {a o w} h => by rw [upd_ne (hp a _ h fun z => nf _ _ z.symm)]; exact h
  have sq : ∀ {a : Addr} {zs : List V}, SqT G.K H a zs → SqT G.K (upd H L u') a zs := fun {a zs} h => by
    rcases h with (h | ⟨o, h⟩) | h
    · exact .inl (.inl (st h))
    · exact .inl (.inr ⟨o, sf h⟩)
    · exact .inr h
  have fr : ∀ {a : Addr} {zs : List V}, FrL G.K H a zs → FrL G.K (upd H L u') a zs := fun {a zs} h => by
    rcases h with ⟨o, h⟩ | h
    · exact .inl ⟨o, sf h⟩
    · exact .inr h
  have go : ∀ (d : D) (v : V), Rep G.K H m d v → Rep G.K (upd H L u') m d v := fun d v h =>
    Rep.rec (motive_1 := fun d v _ => Rep G.K (upd H L u') m d v) (motive_2 := fun ds vs _ => Reps G.K (upd H L u') m ds vs)
      .non .bl .int .str (fun e => .ref e) (fun h _ ih => .tup (st h) ih) (fun h _ ih => .fro (fr h) ih) (fun h d _ ih => .tuf (sf h) d ih) (fun h z c a _ ih => .obj (by rw [upd_ne (hp _ _ h fun z => ni _ _ _ z.symm)]; exact h) z c a ih) .nil (fun _ _ a b => .cons a b) h
  have gos : ∀ (ds : List D) (vs : List V), Reps G.K H m ds vs → Reps G.K (upd H L u') m ds vs := fun ds => by
    induction ds with
    | nil => intro vs r; cases r; exact .nil
    | cons d ds ih => intro vs r; cases r with | cons r t => exact .cons (go _ _ r) (ih _ t)
  refine ⟨⟨hr.len, hr.nd, fun i a o e1 e2 => ?_, hr.tab.keep fun b o eb ho => ?_⟩, go⟩
  · have q := hr.obj i a o e1 e2
    have na : a ≠ L := fun z => hn (z ▸ List.mem_of_getElem? e1)
    cases o with
    | lst ds => obtain ⟨zs, h1, r⟩ := q; exact ⟨zs, by rw [upd_ne na]; exact h1, gos _ _ r⟩
    | dK ds => obtain ⟨zs, h1, k, r⟩ := q; exact ⟨zs, by rw [upd_ne na]; exact h1, k, gos _ _ r⟩
    | dT ds => obtain ⟨zs, h1, k, r⟩ := q; exact ⟨zs, by rw [upd_ne na]; exact h1, k, gos _ _ r⟩
    | opq c => obtain ⟨dx, h1⟩ := q; exact ⟨dx, by rw [upd_ne na]; exact h1⟩
  · rw [upd_ne (hp b _ eb fun z => ho.elim (fun ⟨ps, e⟩ => nb _ (z.symm.trans e)) fun ⟨ob, w, e⟩ => nf _ _ (z.symm.trans e))]; exact eb
theorem RepO.widen {K : PySem.W.Frag} {H : Hp} {m t : List Addr} {a : Addr} {o : O} (q : RepO K H m a o) : RepO K H (m ++ t) a o := by
  cases o with
  | lst ds => obtain ⟨zs, h1, r⟩ := q; exact ⟨zs, h1, r.widen⟩
  | dK ds => obtain ⟨zs, h1, k, r⟩ := q; exact ⟨zs, h1, k, r.widen⟩
  | dT ds => obtain ⟨zs, h1, k, r⟩ := q; exact ⟨zs, h1, k, r.widen⟩
  | opq c => exact q
theorem HR.adoptO {G : GX} {m : List Addr} {hs : Hs} {H : Hp} {L : Addr} {o : O} (hr : HR G m hs H) (hn : L ∉ m) (q : RepO G.K H m L o) : HR G (m ++ [L]) (hs ++ [o]) H := by
  refine ⟨by rw [List.length_append, List.length_append, hr.len]; rfl, ?_, fun i a o' e1 e2 => ?_, hr.tab⟩
  · rw [List.nodup_append]
    refine ⟨hr.nd, by simp, fun a ha b hb => ?_⟩
    rw [List.mem_singleton.mp hb]
    intro e; rw [e] at ha; exact hn ha
  · by_cases hi : i < m.length
    · rw [List.getElem?_append_left hi] at e1
      rw [List.getElem?_append_left (by rw [← hr.len]; exact hi)] at e2
      exact (hr.obj i a o' e1 e2).widen
    · rw [List.getElem?_append_right (by omega)] at e1
      rw [List.getElem?_append_right (by rw [← hr.len]; omega)] at e2
      have h0 : i - m.length = 0 := by
        obtain ⟨z, _⟩ := List.getElem?_eq_some_iff.mp e1
        simp at z; omega
      rw [h0] at e1
      rw [← hr.len, h0] at e2
      cases e1; cases e2
      exact q.widen
/-- what was nothing and is not told yet -/
theorem Nx.off {m m' : List Addr} {H H' : Hp} {L : Addr} {u : HO} (n : Nx m H m' H') (e : H L = some u) (h : L ∉ m) (nb : ∀ ps, u ≠ .tbl ps) : H' L = some u ∧ L ∉ m' :=
  ⟨n.keep L u e h nb, fun z => by
    have := n.fresh L z h
    rw [e] at this; cases this⟩
theorem Nx.told {m m' : List Addr} {H H' : Hp} {L : Addr} (n : Nx m H m' H') (h0 : H L = none) : Nx m H (m' ++ [L]) H' := by
  refine ⟨?_, fun a h1 h2 => ?_, n.keep, n.there⟩
  · obtain ⟨t, e⟩ := n.pre
    exact ⟨t ++ [L], by rw [e, List.append_assoc]⟩
  · rcases List.mem_append.mp h1 with h1 | h1
    · exact n.fresh a h1 h2
    · rw [List.mem_singleton.mp h1]; exact h0
theorem Rep.last {K : PySem.W.Frag} {G : GX} {H H2 : Hp} {m : List Addr} {hs : Hs} {L : Addr} (hr : HR G m hs H) : Rep K H2 (m ++ [L]) (.ref hs.length) (.ref L) :=
  .ref (by rw [← hr.len, List.getElem?_append_right (Nat.le_refl _), Nat.sub_self]; rfl)

/-! ### {k: v, ..} -/
abbrev PM := En → Hs → Option (List (D × D) × Hs)
inductive Reps2 (K : PySem.W.Frag) (H : Hp) (m : List Addr) : List (D × D) → List (V × V) → Prop where
  | nil : Reps2 K H m [] []
  | cons {j d : D} {k v : V} {r : List (D × D)} {s : List (V × V)} : Rep K H m j k → Rep K H m d v → Reps2 K H m r s → Reps2 K H m ((j, d) :: r) ((k, v) :: s)
structure PPM (X : Cx) (G : GX) (pos : Pos) (keys : List (Option Expr)) (values : List Expr) (g : PM) : Prop where
  ex : ∃ trs, PPs X pos keys values trs ∧ ∀ σ H (Q : List (V × V) → Hp → Prop), (∃ ρ hs m, SL G H m ρ σ ∧ HR G m hs H ∧ ∃ ps hs', g ρ hs = some (ps, hs') ∧ ∀ vs H' m', Nx m H m' H' → HR G m' hs' H' → Reps2 G.K H' m' ps vs → Q vs H') → tPairs trs σ H Q
def mPnil : PM := fun _ hs => some ([], hs)
def mPcons (fk fv : EM) (g : PM) : PM := fun ρ hs => match fk ρ hs with
  | some (k, hs1) => match fv ρ hs1 with
    | some (v, hs2) => match g ρ hs2 with
      | some (r, hs3) => some ((k, v) :: r, hs3)
      | none => none
    | none => none
  | none => none
theorem Reps2.nx {G : GX} {m m' : List Addr} {hs : Hs} {H H' : Hp} (hr : HR G m hs H) (n : Nx m H m' H') : ∀ {ps : List (D × D)} {vs : List (V × V)}, Reps2 G.K H m ps vs → Reps2 G.K H' m' ps vs
  | _, _, .nil => .nil
  | _, _, .cons a b t => .cons (a.nx hr n) (b.nx hr n) (Reps2.nx hr n t)
section
variable {X : Cx} {tb : TBs} {pos : Pos}
theorem mp_nil {G : GX} : PPM X G pos [] [] mPnil := ⟨[], pps_nil, fun σ H Q ⟨ρ, hs, m, sl, hr, ps, hs', e, q⟩ => by
  cases e
  exact q [] H m .refl hr .nil⟩
theorem mp_cons {G : GX} {k v : Expr} {ks : List (Option Expr)} {vs : List Expr} {fk fv : EM} {g : PM} (hk : PE X k (TM G fk)) (hv : PE X v (TM G fv)) (h : PPM X G pos ks vs g) : PPM X G pos (some k :: ks) (v :: vs) (mPcons fk fv g) := by
  obtain ⟨trs, hp, hq⟩ := h.ex
  refine ⟨_, pps_cons hk hv hp, fun σ H Q ⟨ρ, hs, m, sl, hr, ps, hs', e, q⟩ => ?_⟩
  unfold mPcons at e
  split at e
  · rename_i k1 hs1 e1
    split at e
    · rename_i v1 hs2 e2
      split at e
      · rename_i r hs3 e3
        cases e
        refine ⟨ρ, hs, m, sl, hr, _, _, e1, fun x H1 m1 n1 hr1 rx => ⟨ρ, hs1, m1, sl.nx hr n1, hr1, _, _, e2, fun y H2 m2 n2 hr2 ry => ?_⟩⟩
        refine hq σ H2 _ ⟨ρ, hs2, m2, (sl.nx hr n1).nx hr1 n2, hr2, _, _, e3, fun ws H3 m3 n3 hr3 rw => ?_⟩
        exact q _ H3 m3 ((n1.trans n2).trans n3) hr3 (.cons ((rx.nx hr1 n2).nx hr2 n3) (ry.nx hr2 n3) rw)
      · cases e
    · cases e
  · cases e
/-- all keys are ints and texts -/
def keysOk : List (D × D) → Bool
  | [] => true
  | (k, _) :: r => match keyOf k with
    | some _ => keysOk r
    | none => false
def kmerge (acc : List (D × D)) : List (D × D) → List (D × D)
  | [] => acc
  | (k, v) :: r => kmerge (kput k v acc) r
def mDisp (g : PM) : EM := fun ρ hs => match g ρ hs with
  | some (ps, hs') => match keysOk ps with
    | true => some (.ref hs'.length, hs' ++ [.dK (kmerge [] ps)])
    | false => none
  | none => none
class QP (g : PM) : Prop where
  q : ∀ ρ hs ps hs', g ρ hs = some (ps, hs') → Grows hs hs'
instance : QP mPnil := ⟨fun ρ hs d hs' h => by cases h; exact .refl⟩
instance {fk fv : EM} {g : PM} [a : QE fk] [b : QE fv] [c : QP g] : QP (mPcons fk fv g) := ⟨fun ρ hs d hs' h => by
  unfold mPcons at h
  split at h
  · rename_i e1
    split at h
    · rename_i e2
      split at h
      · rename_i e3
        cases h
        exact ((a.q _ _ _ _ e1).trans (b.q _ _ _ _ e2)).trans (c.q _ _ _ _ e3)
      · cases h
    · cases h
  · cases h⟩
instance {g : PM} [a : QP g] : QE (mDisp g) := ⟨fun ρ hs d hs' h => by
  unfold mDisp at h
  split at h
  · rename_i e1
    split at h
    · cases h
      exact (a.q _ _ _ _ e1).trans .one
    · cases h
  · cases h⟩
theorem keys_rel {K : PySem.W.Frag} {H : Hp} {m : List Addr} : ∀ {ps : List (D × D)} {vs : List (V × V)}, keysOk ps = true → Reps2 K H m ps vs → ∃ ks : List (Key × V), vs = ks.map (fun kv => (kV kv.1, kv.2)) ∧ KRel K H m ps ks ∧ ks.length = ps.length
  | [], _, _, r => by
    cases r
    exact ⟨[], rfl, .nil, rfl⟩
  | (j, d) :: ps, _, h, r => by
    cases r with
    | cons a b t =>
      rename_i k0 v s0
      unfold keysOk at h
      split at h
      · rename_i k ek
        obtain ⟨ks, e1, e2, e3⟩ := keys_rel h t
        have q1 := keyOf_rep ek a
        have q2 := keyOf_eq ek
        subst q1
        subst q2
        exact ⟨(k, v) :: ks, by rw [List.map_cons, e1], .cons b e2, by simp [e3]⟩
      · cases h
theorem kmerge_rel {K : PySem.W.Frag} {H : Hp} {m : List Addr} : ∀ {ps : List (D × D)} {ks : List (Key × V)} {acc : List (D × D)} {ak : List (Key × V)}, KRel K H m ps ks → KRel K H m acc ak → KRel K H m (kmerge acc ps) (mergeK ak ks)
  | _, _, _, _, .nil, a => a
  | _, _, acc, ak, .cons (k := k) (v := v) (s := s) r t, a => by
    have e : mergeK ak ((k, v) :: s) = mergeK (putK ak k v) s := rfl
    rw [e]
    unfold kmerge
    exact kmerge_rel t (kput_rel r a)
theorem m_disp {keys : List (Option Expr)} {values : List Expr} {g : PM} (h : PPM X (GO X tb) pos keys values g) (hall : keys.all (·.isSome) = true := by rfl) (hl : keys.length = values.length := by rfl) (h0 : keys ≠ [] := by intro z; cases z) (h15 : keys.length ≤ 15 := by decide)
    (hn : ∀ ρ hs ps hs', g ρ hs = some (ps, hs') → ps.length ≤ 15) : PE X (.Dict keys values pos) (TM (GO X tb) (mDisp g)) := by
  obtain ⟨trs, hp, hq⟩ := h.ex
  refine (pe_disp hp hall hl h0 h15).imp fun σ H Q ⟨ρ, hs, m, sl, hr, d, hs', ee, q⟩ => ?_
  unfold mDisp at ee
  split at ee
  · rename_i ps hs1 e1
    split at ee
    · rename_i hk
      cases ee
      intro p hp0
      have n0 : Nx m H m (upd H p (.dK [])) := .fresh1 hp0
      refine hq σ _ _ ⟨ρ, hs, m, sl.nx hr n0, hr.more hp0, ps, hs1, e1, fun vs H2 m2 n2 hr2 rp => ?_⟩
      obtain ⟨e2, np⟩ := n2.off (L := p) (u := .dK []) upd_same (hr.no_none hp0) (fun _ z => by cases z)
      obtain ⟨ks, ev, kr, kl⟩ := keys_rel hk rp
      refine ⟨e2, ks, ev, by rw [kl]; exact hn _ _ _ _ e1, ?_⟩
      obtain ⟨hr3, go⟩ := hr2.asideG (u' := .dK (mergeK [] ks)) e2 np (fun _ z => by cases z) (fun _ _ z => by cases z) (fun _ z => by cases z) (fun _ _ _ z => by cases z)
      have kr3 := (kmerge_rel kr .nil).mapR go
      have n3 : Nx m H m2 (upd H2 p (.dK (mergeK [] ks))) := (n0.trans n2).aside hp0
      exact q _ _ (m2 ++ [p]) (n3.told hp0) (hr3.adoptO np ⟨_, upd_same, kr3.keys, kr3.vals⟩) (Rep.last hr3)
    · cases ee
  · cases ee
end
class PN (g : PM) (n : outParam Nat) : Prop where
  n : ∀ ρ hs ps hs', g ρ hs = some (ps, hs') → ps.length = n
instance : PN mPnil 0 := ⟨fun ρ hs ds hs' h => by cases h; rfl⟩
instance {fk fv : EM} {g : PM} {n : Nat} [a : PN g n] : PN (mPcons fk fv g) (n + 1) := ⟨fun ρ hs ds hs' h => by
  unfold mPcons at h
  split at h
  · split at h
    · split at h
      · rename_i e3
        cases h
        rw [List.length_cons, a.n _ _ _ _ e3]
      · cases h
    · cases h
  · cases h⟩
theorem m_disp' {X : Cx} {tb : TBs} {pos : Pos} {keys : List (Option Expr)} {values : List Expr} {g : PM} {n : Nat} [pn : PN g n] (h : PPM X (GO X tb) pos keys values g) (hn : n ≤ 15 := by decide) (hall : keys.all (·.isSome) = true := by rfl) (hl : keys.length = values.length := by rfl) (h0 : keys ≠ [] := by intro z; cases z) (h15 : keys.length ≤ 15 := by decide) :
    PE X (.Dict keys values pos) (TM (GO X tb) (mDisp g)) := m_disp h hall hl h0 h15 fun ρ hs ps hs' e => by rw [pn.n _ _ _ _ e]; exact hn
end Mir

/-! MirM: dict comprehensions, dict(pairs), comprehensions of two clauses. -/
namespace Mir
open PySem PySem.Spec PyProof.Rows L2

/-! ### {k: v for x in xs if ..} -/
def dcGo (g : GM) (c : BM) (fk fv : EM) (ρ : En) : List D → Hs → List (D × D) → Option (List (D × D) × Hs)
  | [], hs, acc => some (acc, hs)
  | d :: ds, hs, acc => match g d ρ with
    | some ρ' => match c ρ' hs with
      | some (true, hs1) => match fk ρ' hs1 with
        | some (k, hs2) => match fv ρ' hs2 with
          | some (v, hs3) => match keyOf k with
            | some _ => dcGo g c fk fv ρ ds hs3 (kput k v acc)
            | none => none
          | none => none
        | none => none
      | some (false, hs1) => dcGo g c fk fv ρ ds hs1 acc
      | none => none
    | none => none
def mDc (s : IM) (g : GM) (c : BM) (fk fv : EM) (vs : List Nat) : EM := fun ρ hs => match s ρ hs with
  | some (ds, hs1) => if cap (ds.length + 1) then match dcGo g c fk fv (wipeE ρ vs) ds hs1 [] with
    | some (kvs, hs2) => some (.ref hs2.length, hs2 ++ [.dK kvs])
    | none => none else none
  | none => none
theorem dcGo_grows {g : GM} {c : BM} {fk fv : EM} [qc : QB c] [qk : QE fk] [qf : QE fv] {ρ : En} : ∀ {ds : List D} {hs : Hs} {acc : List (D × D)} {r : List (D × D) × Hs}, dcGo g c fk fv ρ ds hs acc = some r → Grows hs r.2
  | [], hs, acc, r, h => by cases h; exact .refl
  | d :: ds, hs, acc, r, h => by
    unfold dcGo at h
    split at h
    · split at h
      · rename_i e1
        split at h
        · rename_i e2
          split at h
          · rename_i e3
            split at h
            · exact (((qc.q _ _ _ _ e1).trans (qk.q _ _ _ _ e2)).trans (qf.q _ _ _ _ e3)).trans (dcGo_grows h)
            · cases h
          · cases h
        · cases h
      · rename_i e1
        exact (qc.q _ _ _ _ e1).trans (dcGo_grows h)
      · cases h
    · cases h
instance {s : IM} {g : GM} {c : BM} {fk fv : EM} {vs : List Nat} [a : QI s] [qc : QB c] [qk : QE fk] [qf : QE fv] : QE (mDc s g c fk fv vs) := ⟨fun ρ hs d hs' h => by
  unfold mDc at h
  split at h
  · rename_i e1
    split at h
    · split at h
      · rename_i e2
        cases h
        exact ((a.q _ _ _ _ e1).trans (dcGo_grows e2)).trans .one
      · cases h
    · cases h
  · cases h⟩
theorem kput_len (k v : D) : ∀ kvs : List (D × D), (kput k v kvs).length ≤ kvs.length + 1 := fun kvs => by
  unfold kput
  have hr : ∀ l : List (D × D), (krep k v l).length = l.length := fun l => by
    induction l with
    | nil => rfl
    | cons x r ih =>
      obtain ⟨j, w⟩ := x
      unfold krep
      split <;> simp [ih]
  split
  · rw [hr]; omega
  · simp
/-- the reading of a dict's comprehension -/
theorem tm_dc {G : GX} {s : IM} {ts vs : List Nat} {g : GM} {c : BM} {fk fv : EM} [qc : QB c] [qk : QE fk] [qf : QE fv] (hts : ∀ i ∈ ts, i ∈ vs) {σ : L2.St} {H : Hp} {Q : VK} (h : TM G (mDc s g c fk fv vs) σ H Q) : tDc (TIW G s) (TGM G ts g) (TB G c) (TM G fk) (TM G fv) vs σ H Q := by
  obtain ⟨ρ, hs, m, sl, hr, r, hs', ee, q⟩ := h
  unfold mDc at ee
  split at ee
  · rename_i ds hs1 e1
    split at ee
    · rename_i hcap
      have hcap := cap_le hcap
      split at ee
      · rename_i kvs hs2 eg
        cases ee
        refine ⟨ρ, hs, m, sl, hr, ds, hs1, e1, fun J H1 m1 n1 hr1 jw L hL => ?_⟩
        have sl1 := sl.nx hr n1
        have nL1 : L ∉ m1 := hr1.no_none hL
        refine ⟨fun i k H' => k = ds.length - i ∧ i ≤ ds.length ∧ ∃ m' r acc ks, Nx m1 H1 m' H' ∧ HR G m' (hs1 ++ r) H' ∧ L ∉ m' ∧ H' L = some (.dK ks) ∧ KRel G.K H' m' acc ks ∧ acc.length ≤ i ∧ dcGo g c fk fv (wipeE ρ vs) (ds.drop i) (hs1 ++ r) acc = some (kvs, hs2),
          ⟨ds.length, by simp, Nat.zero_le _, m1, [], [], [], (Nx.refl).aside hL, ?_, nL1, upd_same, .nil, Nat.zero_le _, by rw [List.append_nil]; exact eg⟩, ?_⟩
        · rw [List.append_nil]; exact hr1.more hL
        rintro i k H' ⟨rfl, hi, m', t, acc, ks, n', hr', nL, eL, racc, lacc, er⟩
        have qj := jw m' H' t n' hr' i
        by_cases hlt : i < ds.length
        · have ed : ds[i]? = some ds[i] := List.getElem?_eq_getElem hlt
          obtain ⟨go, yl⟩ := qj.1 _ ed
          rw [List.drop_eq_getElem_cons hlt] at er
          unfold dcGo at er
          refine .inr ⟨go, fun H'' => ∃ m' r acc ks, Nx m1 H1 m' H'' ∧ HR G m' (hs1 ++ r) H'' ∧ L ∉ m' ∧ H'' L = some (.dK ks) ∧ KRel G.K H'' m' acc ks ∧ acc.length ≤ i + 1 ∧ dcGo g c fk fv (wipeE ρ vs) (ds.drop (i + 1)) (hs1 ++ r) acc = some (kvs, hs2),
            fun H'' h => ⟨ds.length - (i + 1), by omega, rfl, hlt, h⟩, fun x H2 y => ?_⟩
          obtain ⟨n2, hr2, rx⟩ := yl x H2 y
          split at er
          · rename_i ρ2 e2
            refine ⟨ds[i], wipeE ρ vs, hs1 ++ t, m', (((sl1.nx hr1 n').nx hr' n2).wipe vs), hr2, rx, ρ2, e2, fun σ2 sl2 off => ?_⟩
            refine ⟨off.wipe hts, ?_⟩
            refine ⟨ρ2, hs1 ++ t, m', sl2, hr2, ?_⟩
            have racc2 := racc.mapR fun d v r => r.nx hr' n2
            obtain ⟨eL2, _⟩ := n2.off eL nL (fun _ z => by cases z)
            split at er
            · rename_i hs3 e3
              obtain ⟨t3, rfl⟩ := qc.q _ _ _ _ e3
              refine ⟨true, _, e3, fun H3 m3 n3 hr3 => iteT ⟨ρ2, _, m3, sl2.nx hr2 n3, hr3, ?_⟩⟩
              split at er
              · rename_i k1 hs4 e4
                obtain ⟨t4, rfl⟩ := qk.q _ _ _ _ e4
                refine ⟨k1, _, e4, fun yk H4 m4 n4 hr4 ryk => ⟨ρ2, _, m4, (sl2.nx hr2 n3).nx hr3 n4, hr4, ?_⟩⟩
                split at er
                · rename_i x1 hs5 e5
                  obtain ⟨t5, rfl⟩ := qf.q _ _ _ _ e5
                  refine ⟨x1, _, e5, fun yv H5 m5 n5 hr5 ry => ?_⟩
                  split at er
                  · rename_i ky ek
                    have n25 := (n3.trans n4).trans n5
                    obtain ⟨eL5, nL5⟩ := n25.off eL2 nL (fun _ z => by cases z)
                    have q1 := keyOf_rep ek ryk
                    have q2 := keyOf_eq ek
                    subst q1
                    subst q2
                    have racc5 := racc2.mapR fun d v r => ((r.nx hr2 n3).nx hr3 n4).nx hr4 n5
                    have kl := racc5.len
                    obtain ⟨hr6, go6⟩ := hr5.asideG (u' := .dK (putK ks ky yv)) eL5 nL5 (fun _ z => by cases z) (fun _ _ z => by cases z) (fun _ z => by cases z) (fun _ _ _ z => by cases z)
                    refine ⟨ks, ky, rfl, eL5, by omega, m5, t ++ t3 ++ t4 ++ t5, kput (keyD ky) x1 acc, putK ks ky yv, ((n'.trans n2).trans n25).aside hL, ?_, nL5, upd_same, (kput_rel ry racc5).mapR go6, ?_, ?_⟩
                    · have e5 : hs1 ++ (t ++ t3 ++ t4 ++ t5) = hs1 ++ t ++ t3 ++ t4 ++ t5 := by simp only [List.append_assoc]
                      rw [e5]
                      exact hr6
                    · have := kput_len (keyD ky) x1 acc
                      omega
                    · have e5 : hs1 ++ (t ++ t3 ++ t4 ++ t5) = hs1 ++ t ++ t3 ++ t4 ++ t5 := by simp only [List.append_assoc]
                      rw [e5]; exact er
                  · cases er
                · cases er
              · cases er
            · rename_i hs3 e3
              obtain ⟨t3, rfl⟩ := qc.q _ _ _ _ e3
              refine ⟨false, _, e3, fun H3 m3 n3 hr3 => iteF ?_⟩
              obtain ⟨eL3, nL3⟩ := n3.off eL2 nL (fun _ z => by cases z)
              refine ⟨m3, t ++ t3, acc, ks, (n'.trans n2).trans n3, ?_, nL3, eL3, racc2.mapR (fun d v r => r.nx hr2 n3), by omega, ?_⟩
              · rw [← List.append_assoc]; exact hr3
              · rw [← List.append_assoc]; exact er
            · cases er
          · cases er
        · have ei : i = ds.length := by omega
          subst ei
          rw [List.drop_length] at er
          cases er
          refine .inl ⟨qj.2 (Nat.le_refl _), ?_⟩
          have h0 : H L = none := by
            cases z : H L with
            | none => rfl
            | some o => exact absurd hL (n1.there L (by rw [z]; simp))
          exact q _ H' (m' ++ [L]) ((n1.trans n').told h0) (hr'.adoptO nL ⟨ks, eL, racc.keys, racc.vals⟩) (Rep.last hr')
      · cases ee
    · cases ee
  · cases ee
section
variable {X : Cx} {tb : TBs} {kx vx tg iter : Expr} {ifs : List Expr} {scope : Scope} {own : List (Str × Nat)} {pos : Pos} {s : IM} {ts : List Nat} {g : GM} {c : BM} {fk fv : EM}
theorem m_dc [qc : QB c] [qk : QE fk] [qf : QE fv] (hc : X.calm = true) (hN : X.N.Nodup) (hi : PI X tg iter (TIW (GO X tb) s)) (ok : BlkOk X.N X.env.scope scope own)
    (hg : ∀ (s : Shared) (H : Hp) (C : Addr) (cl : List (Str × Addr)) (fp : List Addr), PG (X.blk s H scope (compEnvC scope cl C X.env) fp) tg (TGM (GO X tb) ts g)) (ht : ∀ (s : Shared) (H : Hp) (C : Addr) (cl : List (Str × Addr)) (fp : List Addr), PTs (X.blk s H scope (compEnvC scope cl C X.env) fp) ifs (TB (GO X tb) c))
    (hk : ∀ (s : Shared) (H : Hp) (C : Addr) (cl : List (Str × Addr)) (fp : List Addr), PE (X.blk s H scope (compEnvC scope cl C X.env) fp) kx (TM (GO X tb) fk)) (he : ∀ (s : Shared) (H : Hp) (C : Addr) (cl : List (Str × Addr)) (fp : List Addr), PE (X.blk s H scope (compEnvC scope cl C X.env) fp) vx (TM (GO X tb) fv))
    (hts : ∀ i ∈ ts, i ∈ own.map (·.2) := by decide) (hs : ∀ x, foldedSetIterable iter X.env x = pure x := by intro _; rfl) :
    PE X (.DictComp kx vx [⟨tg, iter, ifs, 0⟩] scope pos) (TM (GO X tb) (mDc s g c fk fv (own.map (·.2)))) :=
  (pe_dc hc hN hi ok hg ht hk he hs).imp fun _ _ _ => tm_dc hts
end

/-! ### dict(t), t a known tuple of pairs -/
def pairsD : List D → Option (List (D × D))
  | [] => some []
  | .tup [k, v] :: r => match keyOf k with
    | some _ => match pairsD r with
      | some l => some ((k, v) :: l)
      | none => none
    | none => none
  | _ => none
def dictL : FM := fun ds hs => match ds with
  | [.tuf a] => match pairsD a with
    | some ps => match cap (a.length + 1) with
      | true => some (.ref hs.length, hs ++ [.dK (kmerge [] ps)])
      | false => none
    | none => none
  | _ => none
instance : QF dictL := ⟨fun ds hs d hs' h => by
  unfold dictL at h
  split at h
  · split at h
    · split at h
      · cases h; exact .one
      · cases h
    · cases h
  · cases h⟩
theorem pairs_tab {X : Cx} {pins : List (Addr × Obj)} {σ : L2.St} {H : Hp} {s : Shared} {m : List Addr} (I : L2.Inv X pins σ H s) : ∀ {ds : List D} {ps : List (D × D)} {xs : List V} {its : List Value}, pairsD ds = some ps → Reps X.K H m ds xs → Vals xs its →
    ∃ (ts : List (Addr × Value × Key × Value)) (ks : List (Key × V)), ts.length = its.length ∧ (∀ (j : Nat) t, ts[j]? = some t → its[j]? = some (.ref t.1) ∧ s.heap.IsTuple t.1 #[t.2.1, t.2.2.2] ∧ (mixKind X.prog X.w).is t.2.2.1 t.2.1 = true) ∧ KRel X.K H m ps ks ∧ KV ks (ts.map fun t => (t.2.2.1, t.2.2.2))
  | [], ps, xs, its, h, r, rv => by
    cases h
    cases r
    cases rv
    exact ⟨[], [], rfl, fun j t e => by simp at e, .nil, .nil⟩
  | d :: ds, ps, xs, its, h, r, rv => by
    unfold pairsD at h
    split at h
    · rename_i z
      cases z
    · rename_i k v r0 e0
      cases e0
      split at h
      · rename_i ky ek
        split at h
        · rename_i l el
          cases h
          cases r with
          | cons r1 r2 =>
            cases r1 with
            | tup hx rx =>
              rename_i a ys
              cases rv with
              | cons q1 q2 =>
                obtain ⟨ts, ks, h1, h2, h3, h4⟩ := pairs_tab I el r2 q2
                obtain ⟨x, y, rfl, rk, ry⟩ := reps2 rx
                obtain ⟨its2, rv2, pl, _⟩ := I.tuple (sqt hx)
                obtain ⟨u, w, rfl, ru, rw⟩ := vals2 rv2
                cases q1
                have z1 := keyOf_rep ek rk
                have z2 := keyOf_eq ek
                subst z1
                subst z2
                refine ⟨(a, u, ky, w) :: ts, (ky, y) :: ks, by simp [h1], fun j t e => ?_, .cons ry h3, .cons ⟨rfl, rw⟩ h4⟩
                cases j with
                | zero =>
                  simp only [List.getElem?_cons_zero, Option.some.injEq] at e
                  subst e
                  exact ⟨rfl, pl, kV_is ru⟩
                | succ j =>
                  simp only [List.getElem?_cons_succ] at e ⊢
                  exact h2 j t e
        · cases h
      · cases h
    · cases h
theorem cr_dictL {X : Cx} {tb : TBs} (hc : X.calm = true) : CallR X (.type "dict") (RLM (GO X tb) dictL) := by
  intro pins s σ H vs us Q I rr h
  obtain ⟨ds, hs, m, hr, r, d, hs', e, q⟩ := h
  unfold dictL at e
  split at e
  · rename_i a0
    split at e
    · rename_i ps ep
      split at e
      · rename_i hcap
        have hcap := cap_le hcap
        cases e
        obtain ⟨v, rfl, rv⟩ := reps1 r
        cases rv with
        | tuf hx hd rx =>
          rename_i a xs o
          obtain ⟨u, rfl, ru⟩ := vals1 rr
          cases ru
          obtain ⟨ho, hz, its, rvs, ⟨o', ho', hcl, n, hdat⟩⟩ := (show ObjOk X.prog X.w H s.heap a (.frz o (.tup xs)) from I.hok a _ hx)
          rw [ho] at ho'; cases ho'
          obtain ⟨ts, ks, h1, h2, h3, h4⟩ := pairs_tab I ep rx rvs
          have l1 := rvs.length
          have l2 := rx.length
          refine PySem.call_dict_pairs (knd := mixKind X.prog X.w) (kvs := ts.map fun t => (t.2.2.1, t.2.2.2)) (PairArg.tuple a its.toArray (fun j => ((ts[j]?).map (·.1)).getD 0) (ts.map fun t => (t.2.1, t.2.2.2))) (I.ok.hd hc)
            ⟨⟨o, n, ho, hcl, hd, hdat⟩, by simp [h1], fun j k v e => ?_⟩ ⟨by simp, fun i key v e => ?_⟩ (by simp; omega) fun h' tk hd' k => ?_
          · rw [List.getElem?_map] at e
            cases z : ts[j]? with
            | none => rw [z] at e; cases e
            | some t =>
              rw [z] at e
              cases e
              obtain ⟨g1, g2, g3⟩ := h2 j t z
              exact ⟨by simpa [z] using g1, .inl (by simpa [z] using g2)⟩
          · have e : (ts.map fun t => (t.2.1, t.2.2.2))[i]? = some (key, v) := e
            rw [List.getElem?_map] at e
            cases z : ts[i]? with
            | none => rw [z] at e; cases e
            | some t =>
              rw [z] at e
              cases e
              obtain ⟨g1, g2, g3⟩ := h2 i t z
              exact ⟨t.2.2.1, by rw [List.getElem?_map, z]; rfl, g3⟩
          · have hm : (s.heap.objs.size == sysModules) = false := beq_eq_false_iff_ne.mpr (Nat.ne_of_gt I.big)
            have hlen : (mergeK [] ks).length ≤ sizeLine := by
              refine Nat.le_trans (length_mergeK ks []) ?_
              have := h4.length
              simp only [List.length_map] at this
              rw [List.length_nil]
              omega
            have hn := I.hok.fresh (Nat.le_refl s.heap.objs.size)
            have I2 := I.laid (t' := tk) (fun b o e => k b o (by simp) e) (Nat.le_refl _) (show ObjOk X.prog X.w _ _ _ (.dK (mergeK [] ks)) from ⟨hlen, hm, _, KV.merge h4 .nil, hd'⟩)
            have nx : Nx m H m (upd H s.heap.objs.size (.dK (mergeK [] ks))) := .fresh1 hn
            have kr := (kmerge_rel h3 .nil).mapR fun d v r => r.nx hr nx
            have hr2 := hr.more (u := .dK (mergeK [] ks)) hn
            exact ⟨.ref s.heap.objs.size, _, I2, rfl, q _ _ (m ++ [s.heap.objs.size]) (nx.told hn) (hr2.adoptO (hr.no_none hn) ⟨_, upd_same, kr.keys, kr.vals⟩) (Rep.last hr2)⟩
      · cases e
    · cases e
  · cases e

/-! ### what is walked while the list at L grows -/
structure NxL (L : Addr) (m : List Addr) (H : Hp) (m' : List Addr) (H' : Hp) : Prop where
  pre : ∃ r, m' = m ++ r
  fresh : ∀ a ∈ m', a ∉ m → H a = none
  keep : ∀ a o, a ≠ L → H a = some o → a ∉ m → (∀ ps, o ≠ .tbl ps) → H' a = some o
  there : ∀ a, H a ≠ none → H' a ≠ none
theorem NxL.refl {L : Addr} {m : List Addr} {H : Hp} : NxL L m H m H := ⟨⟨[], by simp⟩, fun a h n => absurd h n, fun _ _ _ e _ _ => e, fun _ e => e⟩
theorem NxL.ix {L : Addr} {m m' : List Addr} {H H' : Hp} (n : NxL L m H m' H') {i : Nat} {a : Addr} (h : m[i]? = some a) : m'[i]? = some a := by
  obtain ⟨r, e⟩ := n.pre
  obtain ⟨hi, _⟩ := List.getElem?_eq_some_iff.mp h
  rw [e, List.getElem?_append_left hi]; exact h
theorem NxL.trans {L : Addr} {m m' m'' : List Addr} {H H' H'' : Hp} (a : NxL L m H m' H') (b : Nx m' H' m'' H'') : NxL L m H m'' H'' where
  pre := by
    obtain ⟨r, e⟩ := a.pre
    obtain ⟨r', e'⟩ := b.pre
    exact ⟨r ++ r', by rw [e', e, List.append_assoc]⟩
  fresh := fun c hc hn => by
    by_cases h : c ∈ m'
    · exact a.fresh c h hn
    · have q := b.fresh c hc h
      cases z : H c with
      | none => rfl
      | some o => exact absurd q (a.there c (by rw [z]; simp))
  keep := fun c o hL e hn ht => by
    refine b.keep c o (a.keep c o hL e hn ht) (fun z => ?_) ht
    have q := a.fresh c z hn
    rw [q] at e; cases e
  there := fun c e => b.there c (a.there c e)
theorem NxL.put {L : Addr} {m m' : List Addr} {H H' : Hp} {u : HO} (a : NxL L m H m' H') : NxL L m H m' (upd H' L u) :=
  ⟨a.pre, a.fresh, fun c o hL e hn ht => by rw [upd_ne hL]; exact a.keep c o hL e hn ht, fun c e => by
    by_cases h : c = L
    · rw [h, upd_same]; simp
    · rw [upd_ne h]; exact a.there c e⟩
section
variable {G : GX} {m m' : List Addr} {hs hs' : Hs} {H H' : Hp} {L : Addr} {zs : List V}
theorem lst_ne {a : Addr} {o : HO} (hL : H L = some (.lst zs)) (e : H a = some o) (h : ∀ xs, o ≠ .lst xs) : a ≠ L := fun z => by
  rw [z, hL] at e
  exact h zs (Option.some.inj e).symm
theorem sqT_nxl (hr : HR G m hs H) (hL : H L = some (.lst zs)) (n : NxL L m H m' H') {a : Addr} {xs : List V} (h : SqT G.K H a xs) : SqT G.K H' a xs := by
  rcases h with (h | ⟨o, h⟩) | h
  · exact .inl (.inl (n.keep a _ (lst_ne hL h fun _ z => by cases z) h (hr.no_tup h) fun _ z => by cases z))
  · exact .inl (.inr ⟨o, n.keep a _ (lst_ne hL h fun _ z => by cases z) h (hr.no_frz h) fun _ z => by cases z⟩)
  · exact .inr h
theorem frL_nxl (hr : HR G m hs H) (hL : H L = some (.lst zs)) (n : NxL L m H m' H') {a : Addr} {xs : List V} (h : FrL G.K H a xs) : FrL G.K H' a xs := by
  rcases h with ⟨o, h⟩ | h
  · exact .inl ⟨o, n.keep a _ (lst_ne hL h fun _ z => by cases z) h (hr.no_frz h) fun _ z => by cases z⟩
  · exact .inr h
theorem Rep.nxl (hr : HR G m hs H) (hL : H L = some (.lst zs)) (n : NxL L m H m' H') {d : D} {v : V} (h : Rep G.K H m d v) : Rep G.K H' m' d v :=
  Rep.rec (motive_1 := fun d v _ => Rep G.K H' m' d v) (motive_2 := fun ds vs _ => Reps G.K H' m' ds vs)
    .non .bl .int .str (fun e => .ref (n.ix e)) (fun h _ ih => .tup (n.keep _ _ (lst_ne hL h fun _ z => by cases z) h (hr.no_tup h) fun _ z => by cases z) ih) (fun h _ ih => .fro (frL_nxl hr hL n h) ih) (fun h d _ ih => .tuf (n.keep _ _ (lst_ne hL h fun _ z => by cases z) h (hr.no_frz h) fun _ z => by cases z) d ih) (fun h z c a _ ih => .obj (n.keep _ _ (lst_ne hL h fun _ z => by cases z) h (hr.no_ins h z) fun _ z => by cases z) z c a ih) .nil (fun _ _ a b => .cons a b) h
theorem SL.nxl (hr : HR G m hs H) (hL : H L = some (.lst zs)) (n : NxL L m H m' H') {ρ : En} {σ : L2.St} (s : SL G H m ρ σ) : SL G H' m' ρ σ := ⟨s.len, fun i d e => by
  obtain ⟨v, e1, r⟩ := s.at_ i d e
  exact ⟨v, e1, r.nxl hr hL n⟩⟩
theorem Reps.nxl (hr : HR G m hs H) (hL : H L = some (.lst zs)) (n : NxL L m H m' H') : ∀ {ds : List D} {vs : List V}, Reps G.K H m ds vs → Reps G.K H' m' ds vs
  | _, _, .nil => .nil
  | _, _, .cons r t => .cons (r.nxl hr hL n) (Reps.nxl hr hL n t)
end
def JX (L : Addr) (G : GX) (J : It) (ds : List D) (m : List Addr) (hs : Hs) (H : Hp) : Prop := ∀ m' H' r, NxL L m H m' H' → HR G m' (hs ++ r) H' → JAt G J ds m' (hs ++ r) H'
def TIX (G : GX) (f : IM) : TI := fun σ H R => ∃ ρ hs m, SL G H m ρ σ ∧ HR G m hs H ∧ ∃ ds hs', f ρ hs = some (ds, hs') ∧ ∀ J H' m', Nx m H m' H' → HR G m' hs' H' → (∀ L zs, H L = some (.lst zs) → L ∉ m → JX L G J ds m' hs' H') → R J H'
section
variable {X : Cx} {tb : TBs} {tg e a b : Expr} {f : EM} {g : AM} {p pos : Pos}
theorem jx_tup {G : GX} {L : Addr} {a : Addr} {xs zs : List V} {ds : List D} {m : List Addr} {hs : Hs} {H : Hp} (hL : H L = some (.lst zs)) (hx : SqT G.K H a xs) (r : Reps G.K H m ds xs) (hr : HR G m hs H) : JX L G (Itt G.K a) ds m hs H := fun m' H' t n hr' =>
  jat_tup (sqT_nxl hr hL n hx) (r.nxl hr hL n) hr'
theorem jx_fro {G : GX} {L : Addr} {a : Addr} {xs zs : List V} {ds : List D} {m : List Addr} {hs : Hs} {H : Hp} (hL : H L = some (.lst zs)) (hx : FrL G.K H a xs) (r : Reps G.K H m ds xs) (hr : HR G m hs H) : JX L G (Itl G.K a) ds m hs H := fun m' H' t n hr' =>
  jat_list (.inl rfl) (frL_nxl hr hL n hx).sq (r.nxl hr hL n) hr'
theorem jx_lst {G : GX} {L : Addr} {a : Addr} {i : Nat} {ds : List D} {m : List Addr} {hs : Hs} {H : Hp} (e : m[i]? = some a) (h : at? hs i = some (.lst ds)) : JX L G (Itl G.K a) ds m hs H := fun m' H' r n hr' => by
  have e2 : at? (hs ++ r) i = some (.lst ds) := by
    rw [at?_eq] at h ⊢
    obtain ⟨h1, _⟩ := List.getElem?_eq_some_iff.mp h
    rw [List.getElem?_append_left h1]; exact h
  obtain ⟨xs, hx, rx⟩ := hr'.lst (n.ix e) e2
  exact jat_list (.inl rfl) (.of hx) rx hr'
theorem mi_seqX (h : PE X e (TM (GO X tb) f)) : PI X tg e (TIX (GO X tb) (mSeqW f)) := PI.imp' (pi_seq h) fun σ H R ⟨ρ, hs, m, sl, hr, ds, hs', ee, q⟩ => by
  unfold mSeqW at ee
  split at ee
  · rename_i e1
    cases ee
    refine ⟨ρ, hs, m, sl, hr, _, _, e1, fun v H' m' n' hr' rv => ?_⟩
    cases rv with
    | tup hx rx => exact ⟨_, rfl, .inr ⟨⟨_, sqt hx⟩, q _ H' m' n' hr' fun L zs hL hn => jx_tup (n'.off hL hn fun _ z => by cases z).1 (sqt hx) rx hr'⟩⟩
  · rename_i e1
    cases ee
    refine ⟨ρ, hs, m, sl, hr, _, _, e1, fun v H' m' n' hr' rv => ?_⟩
    cases rv with
    | fro hx rx => exact ⟨_, rfl, .inl ⟨⟨_, hx.sq⟩, q _ H' m' n' hr' fun L zs hL hn => jx_fro (n'.off hL hn fun _ z => by cases z).1 hx rx hr'⟩⟩
  · rename_i n hs1 e1
    split at ee
    · rename_i ea
      cases ee
      refine ⟨ρ, _, m, sl, hr, _, _, e1, fun v H' m' n' hr' rv => ?_⟩
      cases rv with
      | ref e2 =>
        obtain ⟨xs, hx, rx⟩ := hr'.lst e2 ea
        exact ⟨_, rfl, .inl ⟨⟨_, .of hx⟩, q _ H' m' n' hr' fun L zs hL hn => jx_lst e2 ea⟩⟩
    · cases ee
  · cases ee
theorem mi_rangeX1 (hg : Gl X "range") (hm : X.mg "range" = none) (ha : PA X [a] (TAm (GO X tb) g)) (hs : starEach [a] X.env = [(false, eval a X.env)] := by rfl) : PI X tg (.Call (.Name "range" p) [a] [] pos) (TIX (GO X tb) (mRng1 g)) :=
  PI.imp' (pi_range1 hg hm ha hs) fun σ H R ⟨ρ, hs, m, sl, hr, ds, hs', ee, q⟩ => by
    unfold mRng1 at ee
    split at ee
    · rename_i j hs1 e1
      split at ee
      · rename_i hb
        cases ee
        obtain ⟨b1, b2⟩ := blt_abs hb
        refine ⟨ρ, hs, m, sl, hr, _, _, e1, fun vs H' m' n' hr' rv => ?_⟩
        obtain ⟨v, rfl, rw⟩ := reps1 rv
        obtain rfl := rw.int_inv
        exact ⟨j, rfl, b1, b2, q _ H' m' n' hr' fun L zs hL hn m2 H2 r n2 hr2 => js_rng (m := m2) (hs := []) (H := H2) m2 H2 _ .refl hr2⟩
      · cases ee
    · cases ee
theorem mi_rangeX2 (hg : Gl X "range") (hm : X.mg "range" = none) (ha : PA X [a, b] (TAm (GO X tb) g)) (hs : starEach [a, b] X.env = [(false, eval a X.env), (false, eval b X.env)] := by rfl) (hs2 : starEach [b] X.env = [(false, eval b X.env)] := by rfl) : PI X tg (.Call (.Name "range" p) [a, b] [] pos) (TIX (GO X tb) (mRng2 g)) :=
  PI.imp' (pi_range2 hg hm ha hs hs2) fun σ H R ⟨ρ, hs, m, sl, hr, ds, hs', ee, q⟩ => by
    unfold mRng2 at ee
    split at ee
    · rename_i i j hs1 e1
      split at ee
      · rename_i hb
        rw [Bool.and_eq_true] at hb
        cases ee
        obtain ⟨b1, b2⟩ := blt_abs hb.1
        obtain ⟨b3, b4⟩ := blt_abs hb.2
        refine ⟨ρ, hs, m, sl, hr, _, _, e1, fun vs H' m' n' hr' rv => ?_⟩
        obtain ⟨v, w, rfl, r1, r2⟩ := reps2 rv
        obtain rfl := r1.int_inv
        obtain rfl := r2.int_inv
        exact ⟨i, j, rfl, ⟨b1, b2, b3, b4⟩, q _ H' m' n' hr' fun L zs hL hn m2 H2 r n2 hr2 => js_rng (m := m2) (hs := []) (H := H2) m2 H2 _ .refl hr2⟩
      · cases ee
    · cases ee
end

/-! ### [e for x in xs if .. for y in ys if ..] -/
def lcIn (g : GM) (c : BM) (f : EM) (ρ : En) : List D → Hs → List D → Option (List D × Hs)
  | [], hs, acc => some (acc, hs)
  | d :: ds, hs, acc => match g d ρ with
    | some ρ' => match c ρ' hs with
      | some (true, hs1) => match f ρ' hs1 with
        | some (x, hs2) => lcIn g c f ρ ds hs2 (x :: acc)
        | none => none
      | some (false, hs1) => lcIn g c f ρ ds hs1 acc
      | none => none
    | none => none
def lcOut (g : GM) (c : BM) (s1 : IM) (g1 : GM) (c1 : BM) (f : EM) (vs1 : List Nat) (ρ : En) : List D → Hs → List D → Option (List D × Hs)
  | [], hs, acc => some (acc, hs)
  | d :: ds, hs, acc => match g d ρ with
    | some ρ' => match c ρ' hs with
      | some (true, hs1) => match s1 ρ' hs1 with
        | some (es, hs2) => match lcIn g1 c1 f (wipeE ρ' vs1) es hs2 acc with
          | some (acc', hs3) => lcOut g c s1 g1 c1 f vs1 ρ ds hs3 acc'
          | none => none
        | none => none
      | some (false, hs1) => lcOut g c s1 g1 c1 f vs1 ρ ds hs1 acc
      | none => none
    | none => none
def mLc2 (s : IM) (g : GM) (c : BM) (s1 : IM) (g1 : GM) (c1 : BM) (f : EM) (vs vs1 : List Nat) : EM := fun ρ hs => match s ρ hs with
  | some (ds, hs1) => match lcOut g c s1 g1 c1 f vs1 (wipeE ρ vs) ds hs1 [] with
    | some (xs, hs2) => match cap (xs.length + 1) with
      | true => some (.ref hs2.length, hs2 ++ [.lst xs.reverse])
      | false => none
    | none => none
  | none => none
theorem lcIn_grows {g : GM} {c : BM} {f : EM} [qc : QB c] [qf : QE f] {ρ : En} : ∀ {ds : List D} {hs : Hs} {acc : List D} {r : List D × Hs}, lcIn g c f ρ ds hs acc = some r → Grows hs r.2 ∧ acc.length ≤ r.1.length
  | [], hs, acc, r, h => by cases h; exact ⟨.refl, Nat.le_refl _⟩
  | d :: ds, hs, acc, r, h => by
    unfold lcIn at h
    split at h
    · split at h
      · rename_i e1
        split at h
        · rename_i e2
          obtain ⟨h1, h2⟩ := lcIn_grows h
          exact ⟨((qc.q _ _ _ _ e1).trans (qf.q _ _ _ _ e2)).trans h1, Nat.le_trans (by simp) h2⟩
        · cases h
      · rename_i e1
        obtain ⟨h1, h2⟩ := lcIn_grows h
        exact ⟨(qc.q _ _ _ _ e1).trans h1, h2⟩
      · cases h
    · cases h
theorem lcOut_grows {g : GM} {c : BM} {s1 : IM} {g1 : GM} {c1 : BM} {f : EM} {vs1 : List Nat} [qc : QB c] [qs : QI s1] [qc1 : QB c1] [qf : QE f] {ρ : En} : ∀ {ds : List D} {hs : Hs} {acc : List D} {r : List D × Hs}, lcOut g c s1 g1 c1 f vs1 ρ ds hs acc = some r → Grows hs r.2 ∧ acc.length ≤ r.1.length
  | [], hs, acc, r, h => by cases h; exact ⟨.refl, Nat.le_refl _⟩
  | d :: ds, hs, acc, r, h => by
    unfold lcOut at h
    split at h
    · split at h
      · rename_i e1
        split at h
        · rename_i e2
          split at h
          · rename_i e3
            obtain ⟨h1, h2⟩ := lcIn_grows e3
            obtain ⟨h3, h4⟩ := lcOut_grows h
            exact ⟨(((qc.q _ _ _ _ e1).trans (qs.q _ _ _ _ e2)).trans h1).trans h3, Nat.le_trans h2 h4⟩
          · cases h
        · cases h
      · rename_i e1
        obtain ⟨h1, h2⟩ := lcOut_grows h
        exact ⟨(qc.q _ _ _ _ e1).trans h1, h2⟩
      · cases h
    · cases h
instance {s : IM} {g : GM} {c : BM} {s1 : IM} {g1 : GM} {c1 : BM} {f : EM} {vs vs1 : List Nat} [a : QI s] [qc : QB c] [qs : QI s1] [qc1 : QB c1] [qf : QE f] : QE (mLc2 s g c s1 g1 c1 f vs vs1) := ⟨fun ρ hs d hs' h => by
  unfold mLc2 at h
  split at h
  · rename_i e1
    split at h
    · rename_i e2
      split at h
      · cases h
        exact ((a.q _ _ _ _ e1).trans (lcOut_grows e2).1).trans .one
      · cases h
    · cases h
  · cases h⟩
theorem rev_cons {K : PySem.W.Frag} {H : Hp} {m : List Addr} {acc : List D} {ys : List V} {d : D} {v : V} (r : Reps K H m acc.reverse ys) (q : Rep K H m d v) : Reps K H m (d :: acc).reverse (ys ++ [v]) := by
  rw [List.reverse_cons]
  exact r.append (.cons q .nil)
theorem Reps.mapR {K : PySem.W.Frag} {H H' : Hp} {m m' : List Addr} (f : ∀ d v, Rep K H m d v → Rep K H' m' d v) : ∀ {ds : List D} {vs : List V}, Reps K H m ds vs → Reps K H' m' ds vs
  | _, _, .nil => .nil
  | _, _, .cons r t => .cons (f _ _ r) (Reps.mapR f t)
theorem tm_lc2 {G : GX} {s : IM} {ts vs : List Nat} {g : GM} {c : BM} {s1 : IM} {ts1 vs1 : List Nat} {g1 : GM} {c1 : BM} {f : EM} [qc : QB c] [qs : QI s1] [qc1 : QB c1] [qf : QE f] (hts : ∀ i ∈ ts, i ∈ vs) (hts1 : ∀ i ∈ ts1, i ∈ vs1) {σ : L2.St} {H : Hp} {Q : VK}
    (h : TM G (mLc2 s g c s1 g1 c1 f vs vs1) σ H Q) : tLc2 (TIW G s) (TGM G ts g) (TB G c) (TIX G s1) (TGM G ts1 g1) (TB G c1) (TM G f) vs vs1 σ H Q := by
  obtain ⟨ρ, hs, m, sl, hr, r, hs', ee, q⟩ := h
  unfold mLc2 at ee
  split at ee
  · rename_i ds hs1 e1
    split at ee
    · rename_i xs hs2 eg
      split at ee
      · rename_i hcap
        have hcap := cap_le hcap
        cases ee
        refine ⟨ρ, hs, m, sl, hr, ds, hs1, e1, fun J H1 m1 n1 hr1 jw L hL => ?_⟩
        have sl1 := sl.nx hr n1
        have nL1 : L ∉ m1 := hr1.no_none hL
        refine ⟨fun i k H' => k = ds.length - i ∧ i ≤ ds.length ∧ ∃ m' r acc ys, Nx m1 H1 m' H' ∧ HR G m' (hs1 ++ r) H' ∧ L ∉ m' ∧ H' L = some (.lst ys) ∧ Reps G.K H' m' acc.reverse ys ∧ lcOut g c s1 g1 c1 f vs1 (wipeE ρ vs) (ds.drop i) (hs1 ++ r) acc = some (xs, hs2),
          ⟨ds.length, by simp, Nat.zero_le _, m1, [], [], [], (Nx.refl).aside hL, ?_, nL1, upd_same, .nil, by rw [List.append_nil]; exact eg⟩, ?_⟩
        · rw [List.append_nil]; exact hr1.more hL
        rintro i k H' ⟨rfl, hi, m', t, acc, ys, n', hr', nL, eL, racc, er⟩
        have qj := jw m' H' t n' hr' i
        by_cases hlt : i < ds.length
        · have ed : ds[i]? = some ds[i] := List.getElem?_eq_getElem hlt
          obtain ⟨go, yl⟩ := qj.1 _ ed
          rw [List.drop_eq_getElem_cons hlt] at er
          unfold lcOut at er
          refine .inr ⟨go, fun H'' => ∃ m' r acc ys, Nx m1 H1 m' H'' ∧ HR G m' (hs1 ++ r) H'' ∧ L ∉ m' ∧ H'' L = some (.lst ys) ∧ Reps G.K H'' m' acc.reverse ys ∧ lcOut g c s1 g1 c1 f vs1 (wipeE ρ vs) (ds.drop (i + 1)) (hs1 ++ r) acc = some (xs, hs2),
            fun H'' h => ⟨ds.length - (i + 1), by omega, rfl, hlt, h⟩, fun x H2 y => ?_⟩
          obtain ⟨n2, hr2, rx⟩ := yl x H2 y
          split at er
          · rename_i ρ2 e2
            refine ⟨ds[i], wipeE ρ vs, hs1 ++ t, m', (((sl1.nx hr1 n').nx hr' n2).wipe vs), hr2, rx, ρ2, e2, fun σ2 sl2 off => ?_⟩
            refine ⟨off.wipe hts, ?_⟩
            refine ⟨ρ2, hs1 ++ t, m', sl2, hr2, ?_⟩
            have racc2 := racc.nx hr' n2
            obtain ⟨eL2, _⟩ := n2.off eL nL (fun _ z => by cases z)
            split at er
            · rename_i hs3 e3
              obtain ⟨t3, rfl⟩ := qc.q _ _ _ _ e3
              refine ⟨true, _, e3, fun H3 m3 n3 hr3 => iteT ⟨ρ2, _, m3, sl2.nx hr2 n3, hr3, ?_⟩⟩
              obtain ⟨eL3, nL3⟩ := n3.off eL2 nL (fun _ z => by cases z)
              have racc3 := racc2.nx hr2 n3
              split at er
              · rename_i es hs4 e4
                obtain ⟨t4, rfl⟩ := qs.q _ _ _ _ e4
                split at er
                · rename_i acc' hs5 e5
                  refine ⟨es, _, e4, fun J1 H4 m4 n4 hr4 jx => ?_⟩
                  have jw1 := jx L ys eL3 nL3
                  obtain ⟨eL4, nL4⟩ := n4.off eL3 nL3 (fun _ z => by cases z)
                  have racc4 := racc3.nx hr3 n4
                  have sl4 := (sl2.nx hr2 n3).nx hr3 n4
                  have n04 := ((n'.trans n2).trans n3).trans n4
                  refine ⟨fun j k H5 => k = es.length - j ∧ j ≤ es.length ∧ ∃ m5 r5 acc5 ys5, NxL L m4 H4 m5 H5 ∧ Nx m1 H1 m5 H5 ∧ HR G m5 (hs1 ++ t ++ t3 ++ t4 ++ r5) H5 ∧ L ∉ m5 ∧ H5 L = some (.lst ys5) ∧ Reps G.K H5 m5 acc5.reverse ys5 ∧ lcIn g1 c1 f (wipeE ρ2 vs1) (es.drop j) (hs1 ++ t ++ t3 ++ t4 ++ r5) acc5 = some (acc', hs5),
                    ⟨es.length, by simp, Nat.zero_le _, m4, [], acc, ys, .refl, n04, by rw [List.append_nil]; exact hr4, nL4, eL4, racc4, by rw [List.append_nil]; exact e5⟩, ?_⟩
                  rintro j k H5 ⟨rfl, hj, m5, t5, acc5, ys5, n5, n05, hr5, nL5, eL5, racc5, er5⟩
                  have qj1 := jw1 m5 H5 t5 n5 hr5 j
                  by_cases hlt1 : j < es.length
                  · have ed1 : es[j]? = some es[j] := List.getElem?_eq_getElem hlt1
                    obtain ⟨go1, yl1⟩ := qj1.1 _ ed1
                    rw [List.drop_eq_getElem_cons hlt1] at er5
                    unfold lcIn at er5
                    refine .inr ⟨go1, fun H6 => ∃ m5 r5 acc5 ys5, NxL L m4 H4 m5 H6 ∧ Nx m1 H1 m5 H6 ∧ HR G m5 (hs1 ++ t ++ t3 ++ t4 ++ r5) H6 ∧ L ∉ m5 ∧ H6 L = some (.lst ys5) ∧ Reps G.K H6 m5 acc5.reverse ys5 ∧ lcIn g1 c1 f (wipeE ρ2 vs1) (es.drop (j + 1)) (hs1 ++ t ++ t3 ++ t4 ++ r5) acc5 = some (acc', hs5),
                      fun H6 h => ⟨es.length - (j + 1), by omega, rfl, hlt1, h⟩, fun x1 H6 y1 => ?_⟩
                    obtain ⟨n6, hr6, rx6⟩ := yl1 x1 H6 y1
                    split at er5
                    · rename_i ρ7 e7
                      refine ⟨es[j], wipeE ρ2 vs1, _, m5, (((sl4.nxl hr4 eL4 n5).nx hr5 n6).wipe vs1), hr6, rx6, ρ7, e7, fun σ7 sl7 off7 => ?_⟩
                      refine ⟨off7.wipe hts1, ?_⟩
                      refine ⟨ρ7, _, m5, sl7, hr6, ?_⟩
                      have racc6 := racc5.nx hr5 n6
                      obtain ⟨eL6, _⟩ := n6.off eL5 nL5 (fun _ z => by cases z)
                      split at er5
                      · rename_i hs8 e8
                        obtain ⟨t8, rfl⟩ := qc1.q _ _ _ _ e8
                        refine ⟨true, _, e8, fun H8 m8 n8 hr8 => iteT ⟨ρ7, _, m8, sl7.nx hr6 n8, hr8, ?_⟩⟩
                        split at er5
                        · rename_i x9 hs9 e9
                          obtain ⟨t9, rfl⟩ := qf.q _ _ _ _ e9
                          refine ⟨x9, _, e9, fun yv H9 m9 n9 hr9 ry => ?_⟩
                          obtain ⟨eL9, nL9⟩ := (n8.trans n9).off eL6 nL5 (fun _ z => by cases z)
                          have racc9 := (racc6.nx hr6 n8).nx hr8 n9
                          obtain ⟨hrA, goA⟩ := hr9.asideG (u' := .lst (ys5 ++ [yv])) eL9 nL9 (fun _ z => by cases z) (fun _ _ z => by cases z) (fun _ z => by cases z) (fun _ _ _ z => by cases z)
                          have h1L : H1 L = none := hL
                          have len9 := racc9.length
                          rw [List.length_reverse] at len9
                          have g1l := (lcIn_grows er5).2
                          have g2l := (lcOut_grows er).2
                          rw [List.length_cons] at g1l
                          have h4L : H4 L = some (.lst ys) := eL4
                          refine ⟨ys5, eL9, by simp only at g1l g2l; omega, m9, t5 ++ t8 ++ t9, x9 :: acc5, ys5 ++ [yv], ((n5.trans n6).trans (n8.trans n9)).put, ((n05.trans n6).trans (n8.trans n9)).aside hL, ?_, nL9, upd_same, Reps.mapR goA (rev_cons racc9 ry), ?_⟩
                          · have e5 : hs1 ++ t ++ t3 ++ t4 ++ (t5 ++ t8 ++ t9) = hs1 ++ t ++ t3 ++ t4 ++ t5 ++ t8 ++ t9 := by simp only [List.append_assoc]
                            rw [e5]
                            exact hrA
                          · have e5 : hs1 ++ t ++ t3 ++ t4 ++ (t5 ++ t8 ++ t9) = hs1 ++ t ++ t3 ++ t4 ++ t5 ++ t8 ++ t9 := by simp only [List.append_assoc]
                            rw [e5]; exact er5
                        · cases er5
                      · rename_i hs8 e8
                        obtain ⟨t8, rfl⟩ := qc1.q _ _ _ _ e8
                        refine ⟨false, _, e8, fun H8 m8 n8 hr8 => iteF ?_⟩
                        obtain ⟨eL8, nL8⟩ := n8.off eL6 nL5 (fun _ z => by cases z)
                        refine ⟨m8, t5 ++ t8, acc5, ys5, (n5.trans n6).trans n8, (n05.trans n6).trans n8, ?_, nL8, eL8, racc6.nx hr6 n8, ?_⟩
                        · rw [← List.append_assoc]; exact hr8
                        · rw [← List.append_assoc]; exact er5
                      · cases er5
                    · cases er5
                  · have ej : j = es.length := by omega
                    subst ej
                    rw [List.drop_length] at er5
                    cases er5
                    refine .inl ⟨qj1.2 (Nat.le_refl _), m5, t ++ t3 ++ t4 ++ t5, acc', ys5, n05, ?_, nL5, eL5, racc5, ?_⟩
                    · have e5 : hs1 ++ (t ++ t3 ++ t4 ++ t5) = hs1 ++ t ++ t3 ++ t4 ++ t5 := by simp only [List.append_assoc]
                      rw [e5]; exact hr5
                    · have e5 : hs1 ++ (t ++ t3 ++ t4 ++ t5) = hs1 ++ t ++ t3 ++ t4 ++ t5 := by simp only [List.append_assoc]
                      rw [e5]; exact er
                · cases er
              · cases er
            · rename_i hs3 e3
              obtain ⟨t3, rfl⟩ := qc.q _ _ _ _ e3
              refine ⟨false, _, e3, fun H3 m3 n3 hr3 => iteF ?_⟩
              obtain ⟨eL3, nL3⟩ := n3.off eL2 nL (fun _ z => by cases z)
              refine ⟨m3, t ++ t3, acc, ys, (n'.trans n2).trans n3, ?_, nL3, eL3, racc2.nx hr2 n3, ?_⟩
              · rw [← List.append_assoc]; exact hr3
              · rw [← List.append_assoc]; exact er
            · cases er
          · cases er
        · have ei : i = ds.length := by omega
          subst ei
          rw [List.drop_length] at er
          cases er
          refine .inl ⟨qj.2 (Nat.le_refl _), ?_⟩
          have h0 : H L = none := by
            cases z : H L with
            | none => rfl
            | some o => exact absurd hL (n1.there L (by rw [z]; simp))
          exact q _ H' (m' ++ [L]) ((n1.trans n').told h0) (hr'.adoptO nL ⟨ys, eL, racc⟩) (Rep.last hr')
      · cases ee
    · cases ee
  · cases ee

section
variable {X : Cx} {tb : TBs} {elt tg iter tg1 iter1 : Expr} {ifs ifs1 : List Expr} {scope : Scope} {own : List (Str × Nat)} {pos : Pos} {s s1 : IM} {ts ts1 vs1 : List Nat} {g g1 : GM} {c c1 : BM} {f : EM}
theorem m_lc2 [qc : QB c] [qs : QI s1] [qc1 : QB c1] [qf : QE f] (hc : X.calm = true) (hN : X.N.Nodup) (hi : PI X tg iter (TIW (GO X tb) s)) (ok : BlkOk X.N X.env.scope scope own)
    (hg : ∀ (s : Shared) (H : Hp) (C : Addr) (cl : List (Str × Addr)) (fp : List Addr), PG (X.blk s H scope (compEnvC scope cl C X.env) fp) tg (TGM (GO X tb) ts g)) (ht : ∀ (s : Shared) (H : Hp) (C : Addr) (cl : List (Str × Addr)) (fp : List Addr), PTs (X.blk s H scope (compEnvC scope cl C X.env) fp) ifs (TB (GO X tb) c))
    (hi1 : ∀ (s : Shared) (H : Hp) (C : Addr) (cl : List (Str × Addr)) (fp : List Addr), PI (X.blk s H scope (compEnvC scope cl C X.env) fp) tg1 iter1 (TIX (GO X tb) s1))
    (hg1 : ∀ (s : Shared) (H : Hp) (C : Addr) (cl : List (Str × Addr)) (fp : List Addr), PG (X.blk s H scope (compEnvC scope cl C X.env) fp) tg1 (TGM (GO X tb) ts1 g1)) (ht1 : ∀ (s : Shared) (H : Hp) (C : Addr) (cl : List (Str × Addr)) (fp : List Addr), PTs (X.blk s H scope (compEnvC scope cl C X.env) fp) ifs1 (TB (GO X tb) c1))
    (he : ∀ (s : Shared) (H : Hp) (C : Addr) (cl : List (Str × Addr)) (fp : List Addr), PE (X.blk s H scope (compEnvC scope cl C X.env) fp) elt (TM (GO X tb) f)) (hts : ∀ i ∈ ts, i ∈ own.map (·.2) := by decide) (hts1 : ∀ i ∈ ts1, i ∈ vs1 := by decide) (hv : ∀ i ∈ vs1, i ∈ own.map (·.2) := by decide)
    (hs : ∀ x, foldedSetIterable iter X.env x = pure x := by intro _; rfl) (hs1 : ∀ env x, foldedSetIterable iter1 env x = pure x := by intro _ _; rfl) :
    PE X (.ListComp elt [⟨tg, iter, ifs, 0⟩, ⟨tg1, iter1, ifs1, 0⟩] scope pos) (TM (GO X tb) (mLc2 s g c s1 g1 c1 f (own.map (·.2)) vs1)) :=
  (pe_lc2 hc hN hi ok hv hg ht hi1 hg1 ht1 he hs hs1).imp fun _ _ _ => tm_lc2 hts hts1
theorem ms_setLc2 [qc : QB c] [qs : QI s1] [qc1 : QB c1] [qf : QE f] {i : Nat} {y : Str} {py spos : Pos} (hc : X.calm = true) (hN : X.N.Nodup) (hy : X.N[i]? = some y) (hyl : X.env.scope.names.lookup y = some .local)
    (hsw : swapsWith (.ListComp elt [⟨tg, iter, ifs, 0⟩, ⟨tg1, iter1, ifs1, 0⟩] scope pos) (some (.Name y py)) spos.line X.env = pure true) (hi : PI X tg iter (TIW (GO X tb) s)) (ok : BlkOk X.N X.env.scope scope own)
    (hg : ∀ (s : Shared) (H : Hp) (C : Addr) (cl : List (Str × Addr)) (fp : List Addr), PG (X.blk s H scope (compEnvC scope cl C X.env) fp) tg (TGM (GO X tb) ts g)) (ht : ∀ (s : Shared) (H : Hp) (C : Addr) (cl : List (Str × Addr)) (fp : List Addr), PTs (X.blk s H scope (compEnvC scope cl C X.env) fp) ifs (TB (GO X tb) c))
    (hi1 : ∀ (s : Shared) (H : Hp) (C : Addr) (cl : List (Str × Addr)) (fp : List Addr), PI (X.blk s H scope (compEnvC scope cl C X.env) fp) tg1 iter1 (TIX (GO X tb) s1))
    (hg1 : ∀ (s : Shared) (H : Hp) (C : Addr) (cl : List (Str × Addr)) (fp : List Addr), PG (X.blk s H scope (compEnvC scope cl C X.env) fp) tg1 (TGM (GO X tb) ts1 g1)) (ht1 : ∀ (s : Shared) (H : Hp) (C : Addr) (cl : List (Str × Addr)) (fp : List Addr), PTs (X.blk s H scope (compEnvC scope cl C X.env) fp) ifs1 (TB (GO X tb) c1))
    (he : ∀ (s : Shared) (H : Hp) (C : Addr) (cl : List (Str × Addr)) (fp : List Addr), PE (X.blk s H scope (compEnvC scope cl C X.env) fp) elt (TM (GO X tb) f)) (hts : ∀ i ∈ ts, i ∈ own.map (·.2) := by decide) (hts1 : ∀ i ∈ ts1, i ∈ vs1 := by decide) (hv : ∀ i ∈ vs1, i ∈ own.map (·.2) := by decide)
    (hs : ∀ x, foldedSetIterable iter X.env x = pure x := by intro _; rfl) (hs1 : ∀ env x, foldedSetIterable iter1 env x = pure x := by intro _ _; rfl) :
    PS X (.Assign [.Name y py] (.ListComp elt [⟨tg, iter, ifs, 0⟩, ⟨tg1, iter1, ifs1, 0⟩] scope pos) spos) (TSM (GO X tb) (mSet i (mLc2 s g c s1 g1 c1 f (own.map (·.2)) vs1))) := by
  refine (ps_setLc2 hc hN hy hyl hsw hi ok hv hg ht hi1 hg1 ht1 he hs hs1).imp fun D σ H ⟨ρ, hs, m, sl, hr, r, ee, q⟩ => ?_
  unfold mSet at ee
  split at ee
  · rename_i d hs' e'
    cases ee
    exact tm_lc2 hts hts1 ⟨ρ, hs, m, sl, hr, d, hs', e', fun v H' m' n' hr' rv => q _ H' m' n' hr' ((sl.nx hr n').set rv i)⟩
  · cases ee
end
end Mir

/-! MirN: what the top tells, defs by names. -/
namespace Mir
open PySem PySem.Spec PyProof.Rows L2

theorem _root_.L2.Room.u1 {k : Nat} {A : Around} (r : Room k A) : A.units + 1 < cLine := by have := r.un; omega
theorem _root_.L2.Room.u64 {k : Nat} {A : Around} (r : Room k A) : A.units + 64 < cLine := by have := r.un; omega
theorem _root_.L2.Room.u65 {k : Nat} {A : Around} (r : Room k A) : A.units + 65 < cLine := by have := r.un; omega

/-- the defs with tables: those with generator expressions; those with one lambda -/
structure TFs where
  g : List He.Defn
  l : List He.Defn
  t : List (Str × List Str)
abbrev TFs.all (tf : TFs) : List He.Defn := tf.g ++ tf.l
def lamQ (p : He.Defn) : Str := p.1 ++ ".<locals>." ++ "<lambda>"
def strsB : List Value → List Str → Bool
  | [], [] => true
  | .str a _ :: r, b :: q => match decide (a = b) with
    | true => strsB r q
    | false => false
  | _, _ => false
/-- an object that is a tuple of texts -/
def tupO (o : Obj) (zs : List Str) : Bool := match o.cls, o.data with
  | .type n, .seq its _ => decide (n = "tuple") && (strsB its.toList zs && cap its.size)
  | _, _ => false
/-- the global name x holds a tuple of texts -/
def tupIn (K : PySem.W.Frag) (p : Str × List Str) : Bool := match PySem.W.nsIn K mainGlobals p.1 with
  | some (some (.ref a)) => (match K.lookup a with
    | some o => tupO o p.2
    | none => false)
  | _ => false
theorem strsB_ok : ∀ {vs : List Value} {zs : List Str}, strsB vs zs = true → Vals (zs.map V.str) vs
  | [], [], _ => .nil
  | [], _ :: _, h => by cases h
  | v :: vs, [], h => by cases v <;> cases h
  | v :: vs, z :: zs, h => by
    cases v with
    | str a t =>
      unfold strsB at h
      split at h
      · rename_i e
        have e := of_decide_eq_true e
        subst e
        exact .cons ⟨t, rfl⟩ (strsB_ok h)
      · cases h
    | _ => cases h
theorem tupIn_ok {K : PySem.W.Frag} {h : Heap} {mg : Str → Option Value} (X : K.In h) (G : h.Ns mainGlobals mg) {p : Str × List Str} (c : tupIn K p = true) : ∃ a, mg p.1 = some (.ref a) ∧ ∀ H, SqT K H a (p.2.map V.str) := by
  unfold tupIn at c
  split at c
  · rename_i a e
    split at c
    · rename_i o eo
      obtain ⟨cls, dd, data, sl⟩ := o
      unfold tupO at c
      split at c
      · rename_i n its u e1 e2
        simp only [Bool.and_eq_true, decide_eq_true_eq] at c
        obtain ⟨rfl, c2, c3⟩ := c
        exact ⟨a, PySem.W.mg_of X G e, fun H => .inr ⟨_, its, u, eo, e1, e2, cap_le c3, strsB_ok c2⟩⟩
      · cases c
    · cases c
  · cases c
/-- the tables of the lambdas stand apart -/
def exL (tf : TFs) (K : PySem.W.Frag) : Bool := tf.t.all (tupIn K) && ((tf.l.all fun p => tf.g.all fun r => !Nat.beq (He.cT K p).2 (He.cT K r).2) && (tf.l.all fun p => tf.l.all fun r => !Nat.beq (He.cT K p).2 (He.cT K r).2 || decide (p = r)))
/-- what the top has left: fa facts, fn defs, tf the defs whose tables are empty -/
structure Tp (fa : List He.Fa) (fn : List He.DefD) (tf : TFs) (w : World) (K : PySem.W.Frag) (mg : Str → Option Value) (base h : Heap) : Prop where
  X : K.In base
  G : base.Ns mainGlobals mg
  c : He.SaysX fa fn [] tf.all (exL tf) w h K
  TB : ∀ p ∈ tf.all.map (He.cT K), LamX.TabB base mg p.1 p.2
/-- the tables -/
def tbs (tf : TFs) (K : PySem.W.Frag) : TBs := ⟨(tf.g.map (He.cT K)).map (·.2), tf.l.map fun p => ((He.cT K p).2, lamQ p)⟩
section
variable {fa : List He.Fa} {fn : List He.DefD} {tf : TFs} {w : World} {K : PySem.W.Frag} {mg : Str → Option Value} {base h : Heap}
theorem Tp.free (T : Tp fa fn tf w K mg base h) {x : Str} (i : Nat) (e : fa[i]? = some (.free x) := by rfl) : mg x = none := He.free_ok T.X T.G (T.c.t.d.fact i e)
theorem Tp.glo (T : Tp fa fn tf w K mg base h) {x : Str} (i : Nat) (e : fa[i]? = some (.glo x) := by rfl) : mg x = some (.ref (He.ga K x)) := He.glo_ok T.X T.G (T.c.t.d.fact i e)
theorem Tp.int (T : Tp fa fn tf w K mg base h) {x : Str} {z : Int} (i : Nat) (e : fa[i]? = some (.int x z) := by rfl) : ∃ t, mg x = some (.int z t) := He.int_ok T.X T.G (T.c.t.d.fact i e)
theorem Tp.str (T : Tp fa fn tf w K mg base h) {x z : Str} (i : Nat) (e : fa[i]? = some (.str x z) := by rfl) : ∃ t, mg x = some (.str z t) := He.str_ok T.X T.G (T.c.t.d.fact i e)
theorem Tp.tup (T : Tp fa fn tf w K mg base h) {x : Str} {zs : List Str} (i : Nat) (e : tf.t[i]? = some (x, zs) := by rfl) : ∃ a, mg x = some (.ref a) ∧ ∀ H, SqT K H a (zs.map V.str) := by
  have ex := T.c.more
  unfold exL at ex
  rw [Bool.and_eq_true, List.all_eq_true] at ex
  exact tupIn_ok T.X T.G (ex.1 _ (List.mem_of_getElem? e))
theorem Tp.tab (T : Tp fa fn tf w K mg base h) {p : He.Defn} (i : Nat) (e : tf.g[i]? = some p := by rfl) : GxR.TabB base mg (He.codeOf K p) (He.tabOf K (He.codeOf K p)) := by
  have t := T.TB (He.cT K p) (List.mem_map.mpr ⟨p, List.mem_append_left _ (List.mem_of_getElem? e), rfl⟩)
  exact ⟨t.code, t.bm, t.gP⟩
theorem Tp.tabL (T : Tp fa fn tf w K mg base h) {p : He.Defn} (i : Nat) (e : tf.l[i]? = some p := by rfl) : LamX.TabB base mg (He.codeOf K p) (He.tabOf K (He.codeOf K p)) :=
  T.TB (He.cT K p) (List.mem_map.mpr ⟨p, List.mem_append_right _ (List.mem_of_getElem? e), rfl⟩)
theorem tab_mem {p : He.Defn} (i : Nat) (e : tf.g[i]? = some p := by rfl) : He.tabOf K (He.codeOf K p) ∈ (tbs tf K).g := List.mem_map.mpr ⟨He.cT K p, List.mem_map.mpr ⟨p, List.mem_of_getElem? e, rfl⟩, rfl⟩
theorem tab_memL {p : He.Defn} (i : Nat) (e : tf.l[i]? = some p := by rfl) : (He.tabOf K (He.codeOf K p), lamQ p) ∈ (tbs tf K).l := List.mem_map.mpr ⟨p, List.mem_of_getElem? e, rfl⟩
end
/-- a def as data -/
abbrev mkD (st : Stmt) (x : Str) : He.DefD := ⟨(x, none), x, x, defArgs st, defBody st, defScope st, [], []⟩
/-- the def named x keeps the promise told by F -/
structure OkF (P : Program) (w : World) (K : PySem.W.Frag) (mg : Str → Option Value) (base : Heap) (tb : TBs) (k : Nat) (x : Str) (ps : List Str) (n : Nat) (F : FM) : Prop where
  ex : ∃ fd, FnOk P w K mg base CX0 k (He.fAd K (x, none)) fd ps (spM ⟨K, tb⟩ n F) ∧ Binds K fd ps [] ∧ PySem.W.keepIn K (.ref (He.fAd K (x, none))) = true
  mg : mg x = some (.ref (He.fAd K (x, none)))
theorem OkF.pure {P : Program} {w : World} {K : PySem.W.Frag} {mg : Str → Option Value} {base : Heap} {tb : TBs} {k : Nat} {x : Str} {ps : List Str} {n : Nat} {F : FM} (o : OkF P w K mg base tb k x ps n F) : OkF P w K mg base tb k x ps n (FP F) := by
  obtain ⟨fd, h, r⟩ := o.ex
  exact ⟨⟨fd, h.imp fun _ _ _ _ z => spM_FP z, r⟩, o.mg⟩
theorem OkF.same {P : Program} {w : World} {K : PySem.W.Frag} {mg : Str → Option Value} {base : Heap} {tb : TBs} {k : Nat} {x : Str} {ps : List Str} {n : Nat} {F : FM} (o : OkF P w K mg base tb k x ps n F) : OkF P w K mg base tb k x ps n F := o
/-- a simpler function that promises no more -/
theorem OkF.than {P : Program} {w : World} {K : PySem.W.Frag} {mg : Str → Option Value} {base : Heap} {tb : TBs} {k : Nat} {x : Str} {ps : List Str} {n : Nat} {F F' : FM} (o : OkF P w K mg base tb k x ps n F) (h : ∀ ds hs r, ds.length = n → F' ds hs = some r → F ds hs = some r) : OkF P w K mg base tb k x ps n F' := by
  obtain ⟨fd, q, r⟩ := o.ex
  refine ⟨⟨fd, q.imp fun vs H Q E ⟨hl, ds, hs, m, hr, rp, d, hs', e, z⟩ => ⟨hl, ds, hs, m, hr, rp, d, hs', h _ _ _ (by rw [rp.length]; exact hl) e, z⟩, r⟩, o.mg⟩
abbrev DX (P : Program) (w : World) (K : PySem.W.Frag) (mg : Str → Option Value) (base : Heap) (N : List Str) (st : Stmt) (x : Str) (A : Around) (outer : List Env) (s : Shared) (H : Hp) (E : XK) : Cx :=
  (cxOf CX0 P w K mg base N x (defScope st) (He.fAd K (x, none)) (.ref (He.codeOf K (x, none))) A outer s H E).nox
theorem OkF.of {fa : List He.Fa} {fn : List He.DefD} {tf : TFs} {P : Program} {w : World} {K : PySem.W.Frag} {mg : Str → Option Value} {base h : Heap} {st : Stmt} {x : Str} {N ps : List Str} {k n j : Nat} {f : SM} (T : Tp fa fn tf w K mg base h)
    (i i2 : Nat) (hd : fn[i]? = some (mkD st x)) (hgl : fa[i2]? = some (.glo x)) (S : FnScope N ps (defScope st)) (hp : ps.length = n) (hN : N.length = n + j)
    (hbind : ∀ (kV doc pm : Value) (an : Option Addr) (cdv ct : Value) (us : List Value), us.length = ps.length → bindArgs (PySem.W.fnOf x x (defArgs st) (defBody st) (defScope st) .none kV doc pm an cdv ct) ⟨us, []⟩ = Pure.pure (ps.zip us))
    (hb : ∀ (A : Around) (outer : List Env) (s : Shared) (H : Hp) (E : XK), Room k (DX P w K mg base N st x A outer s H E).A → PSs (DX P w K mg base N st x A outer s H E) (defBody st) (TSM ⟨K, tbs tf K⟩ f)) :
    OkF P w K mg base (tbs tf K) (k + 1) x ps n (mBody f j) := by
  obtain ⟨fd, F⟩ := T.c.t.d.def_ i hd
  exact ⟨⟨fd, fun_okM (p := (x, none)) F S hp hN hb, FunD.bindsN F hbind, F.kp⟩, T.glo i2 hgl⟩
section
variable {X : Cx} {tb : TBs} {k n : Nat} {ps : List Str} {F : FM} {g : AM} {x : Str} {p pos : Pos} {e : Expr} {es : List Expr}
theorem m_callO {a : Nat} [AN g a] (O : OkF X.prog X.w X.K X.mg X.base tb k x ps a F) (hr : Room k X.A) (hg : Gl X x) (ha : PA X (e :: es) (TAm (GO X tb) g)) (hdb : (x == ("__debug__" : Str)) = false := by decide)
    (he : starEach (e :: es) X.env = (false, eval e X.env) :: starEach es X.env := by rfl) (hpl : (backTo pos (starEach es X.env)).any (·.1) = false := by rfl) :
    PE X (.Call (.Name x p) (e :: es) [] pos) (TM (GO X tb) (mCall F g)) := by
  obtain ⟨fd, FO, hb, hk⟩ := O.ex
  exact m_call FO hr hg O.mg hk hb ha hdb he hpl
theorem m_gint {G : GX} {z : Int} (hg : Gl X x) (hm : ∃ t, X.mg x = some (.int z t)) (hd : (x == ("__debug__" : Str)) = false := by decide) : PE X (.Name x pos) (TM G (mC (.int z))) := by
  obtain ⟨t, ht⟩ := hm
  exact m_glob hg ht (v := .int z) ⟨t, rfl⟩ (fun _ _ => .int z) hd
theorem m_gstr {G : GX} {z : Str} (hg : Gl X x) (hm : ∃ t, X.mg x = some (.str z t)) (hd : (x == ("__debug__" : Str)) = false := by decide) : PE X (.Name x pos) (TM G (mC (.str z))) := by
  obtain ⟨t, ht⟩ := hm
  exact m_glob hg ht (v := .str z) ⟨t, rfl⟩ (fun _ _ => .str z) hd
end
end Mir

/-! MirO: the end of a law by its mirror. -/
namespace Mir
open PySem PySem.Spec PyProof.Rows L2
theorem reps_ints {K : PySem.W.Frag} {H : Hp} {m : List Addr} : ∀ ns : List Int, Reps K H m (ns.map D.int) (ns.map V.int)
  | [] => .nil
  | n :: ns => .cons (.int n) (reps_ints ns)
/-! ### a body in pieces -/
def TSK (G : GX) (f : SM) (t : TS) : TS := fun D σ H => TSM G f { D with nx := fun σ' H' => t D σ' H' } σ H
section
variable {X : Cx} {G : GX} {st : Stmt} {rest : List Stmt} {f g : SM} {t : TS}
theorem mk_one (h : PS X st (TSM G f)) (r : PSs X rest t) : PSs X (st :: rest) (TSK G f t) := (pss_cons h r).imp fun D σ H q => q
theorem mk_cons (h : PS X st (TSM G f)) (r : PSs X rest (TSK G g t)) : PSs X (st :: rest) (TSK G (mSeq f g) t) := (pss_cons h r).imp fun D σ H q => by
  obtain ⟨ρ, hs, m, sl, hr, r, e, q⟩ := q
  unfold mSeq at e
  split at e
  · rename_i ρ' hs' e'
    exact ⟨ρ, hs, m, sl, hr, _, e', fun σ' H' m' n' hr' sl' => ⟨ρ', hs', m', sl', hr', r, e, q.nx n'⟩⟩
  · rename_i r' hn e'
    cases e
    refine ⟨ρ, hs, m, sl, hr, _, e', ?_⟩
    cases r with
    | nx ρ1 hs1 => exact absurd e' (fun z => hn _ _ rfl)
    | ret d hs1 => exact q
    | bk ρ1 hs1 => exact q
    | ct ρ1 hs1 => exact q
  · cases e
end
/-- forgotten: all slots but those of vs, the heap -/
def keepE : En → List Nat → Nat → En
  | [], _, _ => []
  | x :: r, vs, n => (match vs.contains n with | true => x | false => none) :: keepE r vs (n + 1)
theorem keepE_len : ∀ (ρ : En) (vs : List Nat) (n : Nat), (keepE ρ vs n).length = ρ.length
  | [], _, _ => rfl
  | _ :: r, vs, n => congrArg (· + 1) (keepE_len r vs (n + 1))
theorem SL.weaken {G : GX} {H : Hp} {m m' : List Addr} {ρ ρ' : En} {σ : L2.St} (s : SL G H m ρ σ) (hl : ρ'.length = ρ.length) (h : ∀ (i : Nat) (d : D), ρ'[i]? = some (some d) → ∃ d0, ρ[i]? = some (some d0) ∧ ∀ v, Rep G.K H m d0 v → Rep G.K H m' d v) : SL G H m' ρ' σ :=
  ⟨hl.trans s.len, fun i d e => by
    obtain ⟨d0, e0, f⟩ := h i d e
    obtain ⟨v, h1, h2⟩ := s.at_ i d0 e0
    exact ⟨v, h1, f v h2⟩⟩
theorem HR.none {G : GX} {H : Hp} {m : List Addr} {hs : Hs} (hr : HR G m hs H) : HR G [] [] H := ⟨rfl, .nil, fun i a o z => by simp at z, hr.tab⟩
/-- one list is kept -/
theorem HR.only {G : GX} {H : Hp} {m : List Addr} {hs : Hs} {j : Nat} {ns : List Int} (hr : HR G m hs H) (e : at? hs j = some (.lst (ns.map D.int))) : ∃ a, m[j]? = some a ∧ HR G [a] [.lst (ns.map D.int)] H := by
  have e' := e
  rw [at?_eq] at e'
  obtain ⟨h1, _⟩ := List.getElem?_eq_some_iff.mp e'
  have h2 : j < m.length := by rw [hr.len]; exact h1
  have ea : m[j]? = some m[j] := List.getElem?_eq_getElem h2
  refine ⟨m[j], ea, rfl, by simp, fun i a o e1 e2 => ?_, hr.tab⟩
  cases i with
  | zero =>
    simp only [List.getElem?_cons_zero, Option.some.injEq] at e1 e2
    subst e1; subst e2
    obtain ⟨xs, hx, rx⟩ := hr.lst ea e
    rw [rx.ints] at hx
    exact ⟨_, hx, reps_ints ns⟩
  | succ i => simp at e1
/-- the law's promise: the script as it may lie; the answer is True -/
def spLaw (G : GX) : Sp := fun vs H Q _ => ∃ (d : D) (hs : Hs) (m : List Addr) (ns : List Int), ((d = .fro (ns.map D.int) ∧ hs = []) ∨ (d = .ref 0 ∧ hs = [.lst (ns.map D.int)])) ∧ HR G m hs H ∧ Reps G.K H m [d] vs ∧ ns.length ≤ 63 ∧ (∀ z ∈ ns, Builtin.Int.intBits z ≤ 1048576) ∧ ∀ H', Q (.bl true) H'
theorem fun_okL {P : Program} {w : World} {K : PySem.W.Frag} {mg : Str → Option Value} {base : Heap} {st : Stmt} {x : Str} {fd : FuncData} {N : List Str} {y : Str} {k j : Nat} {t : TS} {tb : TBs}
    (F : FunD K x x (defArgs st) (defBody st) (defScope st) [] [] (He.fAd K (x, none)) fd) (S : FnScope N [y] (defScope st)) (hN : N.length = 1 + j)
    (hb : ∀ (A : Around) (outer : List Env) (s : Shared) (H : Hp) (E : XK), Room k (DX P w K mg base N st x A outer s H E).A → PSs (DX P w K mg base N st x A outer s H E) (defBody st) t)
    (ht : ∀ (W : Ends) (σ : L2.St) (H : Hp) (d : D) (hs : Hs) (m : List Addr) (ns : List Int), ((d = .fro (ns.map D.int) ∧ hs = []) ∨ (d = .ref 0 ∧ hs = [.lst (ns.map D.int)])) → ns.length ≤ 63 → (∀ z ∈ ns, Builtin.Int.intBits z ≤ 1048576) → HR ⟨K, tb⟩ m hs H → SL ⟨K, tb⟩ H m (some d :: List.replicate j none) σ → (∀ H', W.rt (.bl true) H') → t W σ H) :
    FnOk P w K mg base CX0 (k + 1) (He.fAd K (x, none)) fd [y] (spLaw ⟨K, tb⟩) := by
  obtain ⟨oc, od, dV, kV, doc, pm, an, cdv, ct, osl, rfl, lk, hcd, _⟩ := F.ex
  obtain ⟨c, rfl⟩ := He.codeIn_ref hcd
  have ec : He.codeOf K (x, none) = c := He.codeOf_eq lk rfl
  rw [show DX P w K mg base N st x = fun A outer s H E => (cxOf CX0 P w K mg base N x (defScope st) (He.fAd K (x, none)) (.ref (He.codeOf K (x, none))) A outer s H E).nox from rfl, ec] at hb
  refine fn_of lk hcd S (fun vs H Q E h => ?_) fun A outer s H vs Q E hr hsp => ⟨_, (hb A outer s H E hr).nox, ?_⟩
  · obtain ⟨d, hs, m, ns, _, _, r, _⟩ := h
    rw [← r.length]; rfl
  · obtain ⟨d, hs, m, ns, hd, h1, r, h3, h4, q⟩ := hsp
    obtain ⟨v, rfl, rv⟩ := reps1 r
    refine ht _ _ H d hs m ns hd h3 h4 h1 ⟨?_, fun i d' e => ?_⟩ q
    · unfold L2.start
      simp only [List.length_cons, List.length_replicate, List.length_append, List.length_map, List.length_nil]
      try omega
    · cases i with
      | zero =>
        simp only [List.getElem?_cons_zero, Option.some.injEq] at e
        subst e
        exact ⟨v, rfl, rv⟩
      | succ i =>
        rw [List.getElem?_cons_succ, List.getElem?_replicate] at e
        split at e <;> cases e
theorem law_at {l : PySem.W.OpenLaw} {fa : List He.Fa} {fn : List He.DefD} {tf : TFs} {w : World} {K : PySem.W.Frag} {mg : Str → Option Value} {fa0 : Addr} {h : Heap} {st : Stmt} {k : Nat} (KX : K.In h) (G : h.Ns mainGlobals mg) (hmg : mg "law" = some (.ref fa0))
    (c : He.SaysX fa fn [] tf.all (exL tf) w h K) (i i2 : Nat) (hd : fn[i]? = some (mkD st "law")) (hgl : fa[i2]? = some (.glo "law"))
    (hbind : ∀ (kV doc pm : Value) (an : Option Addr) (cdv ct : Value) (us : List Value), us.length = (["script"] : List Str).length → bindArgs (PySem.W.fnOf "law" "law" (defArgs st) (defBody st) (defScope st) .none kV doc pm an cdv ct) ⟨us, []⟩ = Pure.pure ((["script"] : List Str).zip us))
    (hF : ∀ (base : Heap) (fd : FuncData), Tp fa fn tf w K mg base h → FunD K "law" "law" (defArgs st) (defBody st) (defScope st) [] [] (He.fAd K ("law", none)) fd → FnOk l.prog w K mg base CX0 k (He.fAd K ("law", none)) fd ["script"] (spLaw ⟨K, tbs tf K⟩)) :
    LamX.LawAtS l w K CX0 k 63 "script" mg fa0 h := by
  obtain ⟨fd, FD⟩ := c.t.d.def_ i hd
  have e := hmg.symm.trans (He.glo_ok KX G (c.t.d.fact i2 hgl))
  have e0 : fa0 = He.ga K "law" := Value.ref.inj (Option.some.inj e)
  subst e0
  refine ⟨fd, tf.all.map (He.cT K), spLaw ⟨K, tbs tf K⟩, fun p hp => ?_, fun p hp => ?_, fun p hp => ?_, fun s u => FunD.bindsA FD hbind s [u] rfl, fun H a ns hl hb hT hS => ?_, fun base X' G' TB => ?_⟩
  · obtain ⟨q, hq, rfl⟩ := List.mem_map.mp hp
    exact c.empty q hq
  · obtain ⟨q, hq, rfl⟩ := List.mem_map.mp hp
    exact c.out q hq
  · obtain ⟨q, hq, rfl⟩ := List.mem_map.mp hp
    exact PySem.W.codeHd_of_K KX (c.hd q hq)
  · have tab : TabsOk (tbs tf K) H := by
      have ex := c.more
      unfold exL at ex
      have ex := ((Bool.and_eq_true _ _).mp ex).2
      rw [Bool.and_eq_true, List.all_eq_true, List.all_eq_true] at ex
      refine ⟨fun P hP => ?_, fun p hp => ?_, fun p hp hg => ?_, fun p hp r hr e => ?_⟩
      · obtain ⟨p, hp, rfl⟩ := List.mem_map.mp hP
        obtain ⟨q, hq, rfl⟩ := List.mem_map.mp hp
        exact ⟨#[], hT _ (List.mem_map.mpr ⟨q, List.mem_append_left _ hq, rfl⟩), trivial⟩
      · obtain ⟨q, hq, rfl⟩ := List.mem_map.mp hp
        exact ⟨#[], hT _ (List.mem_map.mpr ⟨q, List.mem_append_right _ hq, rfl⟩), trivial, fun pos cv z => by
          have z : codeAmong pos [] = some cv := z
          simp [codeAmong] at z⟩
      · obtain ⟨q, hq, rfl⟩ := List.mem_map.mp hp
        obtain ⟨p2, hp2, e2⟩ := List.mem_map.mp hg
        obtain ⟨r, hr, rfl⟩ := List.mem_map.mp hp2
        have z := ex.1 q hq
        rw [List.all_eq_true] at z
        have z := z r hr
        have e3 : (He.cT K q).2 = (He.cT K r).2 := e2.symm
        rw [e3] at z
        simp at z
      · obtain ⟨q, hq, rfl⟩ := List.mem_map.mp hp
        obtain ⟨r, hr', rfl⟩ := List.mem_map.mp hr
        have z := ex.2 q hq
        rw [List.all_eq_true] at z
        have z := z r hr'
        have e3 : (He.cT K q).2 = (He.cT K r).2 := e
        rw [e3] at z
        simp at z
        rw [z]
    have fro : ∀ (z : FrL K H a (ns.map V.int)), spLaw ⟨K, tbs tf K⟩ [.ref a] H (fun v _ => v = .bl true) fun _ _ _ => False := fun z =>
      ⟨_, [], [], ns, .inl ⟨rfl, rfl⟩, ⟨rfl, .nil, fun i a o z => by simp at z, tab⟩, .cons (.fro z (reps_ints ns)) .nil, hl, hb, fun _ => rfl⟩
    rcases hS with (z | z) | z
    · refine ⟨_, _, [a], ns, .inr ⟨rfl, rfl⟩, ⟨rfl, by simp, fun i b o e1 e2 => ?_, tab⟩, .cons (.ref rfl) .nil, hl, hb, fun _ => rfl⟩
      cases i with
      | zero =>
        simp only [List.getElem?_cons_zero, Option.some.injEq] at e1 e2
        subst e1; subst e2
        exact ⟨_, z, reps_ints ns⟩
      | succ i => simp at e1
    · exact fro (.inl z)
    · exact fro (.inr z)
  · exact hF base fd ⟨X', G', c, TB⟩ FD
end Mir

/-! MirP: the cell and the draws of every law. -/
namespace Mir
open PySem PySem.Spec PyProof.Rows L2

def cellM : SM := (mSeq (mIfS (mTest (mBin ltD (mVar 1) (mCall lenL (mCons (mVar 0) mNil)))) (mRet (mBin ixF (mVar 0) (mVar 1))) mNext) (mRet (mC (.int 0))))
def drawB : SM := (mSeq (mSet 5 (mBin modD (mCall int1 (mCons (mBin addD (mBin addD (mBin mulI (mVar 0) (mC (.int 48271))) (mBin mulI (mVar 4) (mC (.int 69621)))) (mC (.int 1))) mNil)) (mC (.int 2147483647)))) (mIfS (mTest (mBin geD (mVar 0) (mBin powD (mC (.int 10)) (mC (.int 18))))) (mSeq (mDrop (mApp (mVar 2) (mBin modD (mVar 3) (mC (.int 1009))))) (mSet 3 (mBin fdivD (mVar 3) (mC (.int 1009))))) (mDrop (mApp (mVar 2) (mBin fdivD (mBin modD (mCall int1 (mCons (mBin addD (mBin mulI (mVar 5) (mVar 5)) (mBin mulI (mVar 5) (mC (.int 40692)))) mNil)) (mC (.int 2147483399))) (mC (.int 7)))))))
def drawsM : SM := (mSeq (mSet 2 (mLst mNil)) (mSeq (mSet 3 (mCall int1 (mCons (mVar 0) mNil))) (mSeq (mFor (mRng1 (mCons (mVar 1) mNil)) (setN 4) drawB) (mRet (mVar 2)))))
theorem mulI_ok {i j : Int} {hs : Hs} (h : i.natAbs.log2 + j.natAbs.log2 ≤ 134217000) : mulI (.int i) (.int j) hs = some (.int (i * j), hs) := by
  show (if mulB i j = true then some (D.int (i * j), hs) else none) = _
  rw [if_pos (mulB_of h)]
theorem log2_small {i : Int} {b : Nat} (h0 : 0 < b) (h : i.natAbs < 2 ^ b) : i.natAbs.log2 < b := PySem.Flt.log2_lt_of h0 h
theorem bits_log {z : Int} (h : Builtin.Int.intBits z ≤ 1048576) : z.natAbs.log2 ≤ 1048576 := by
  unfold Builtin.Int.intBits at h
  split at h
  · rename_i e
    have e := eq_of_beq e
    subst e
    decide
  · omega
theorem draw_step {cell cnt rest k : Int} {x : Option D} {l : List D} (hb : Builtin.Int.intBits cell ≤ 1048576) (h0 : 0 ≤ k) (h1 : k < 1000) (hl : l.length < 1000) :
    ∃ v rest' mixed : Int, drawB [some (.int cell), some (.int cnt), some (.ref 0), some (.int rest), some (.int k), x] [.lst l] = some (.nx [some (.int cell), some (.int cnt), some (.ref 0), some (.int rest'), some (.int k), some (.int mixed)] [.lst (l ++ [.int v])]) := by
  have hc : cap (l.length + 1) = true := Nat.ble_eq_true_of_le (by omega)
  have e1 : mulI (.int cell) (.int 48271) [.lst l] = some (.int (cell * 48271), [.lst l]) := mulI_ok (by
    have a := bits_log hb
    have b : (48271 : Int).natAbs.log2 ≤ 16 := by decide
    omega)
  have e2 : mulI (.int k) (.int 69621) [.lst l] = some (.int (k * 69621), [.lst l]) := mulI_ok (by
    have a := log2_small (i := k) (b := 10) (by omega) (by omega)
    have b : (69621 : Int).natAbs.log2 ≤ 17 := by decide
    omega)
  have hm0 : 0 ≤ (cell * 48271 + k * 69621 + 1) % 2147483647 := Int.emod_nonneg _ (by omega)
  have hm1 : (cell * 48271 + k * 69621 + 1) % 2147483647 < 2147483647 := Int.emod_lt_of_pos _ (by omega)
  generalize hmx : (cell * 48271 + k * 69621 + 1) % 2147483647 = mixed at hm0 hm1
  have lg := log2_small (i := mixed) (b := 31) (by omega) (by omega)
  have e3 : mulI (.int mixed) (.int mixed) [.lst l] = some (.int (mixed * mixed), [.lst l]) := mulI_ok (by omega)
  have e4 : mulI (.int mixed) (.int 40692) [.lst l] = some (.int (mixed * 40692), [.lst l]) := mulI_ok (by
    have b : (40692 : Int).natAbs.log2 ≤ 16 := by decide
    omega)
  have ep : powD (.int 10) (.int 18) [.lst l] = some (.int (10 ^ 18), [.lst l]) := rfl
  have em : ∀ z : Int, modD (.int z) (.int 2147483647) [.lst l] = some (.int (z % 2147483647), [.lst l]) := fun _ => rfl
  have em2 : ∀ z : Int, modD (.int z) (.int 2147483399) [.lst l] = some (.int (z % 2147483399), [.lst l]) := fun _ => rfl
  have em3 : ∀ (z : Int) (hs : Hs), modD (.int z) (.int 1009) hs = some (.int (z % 1009), hs) := fun _ _ => rfl
  have ed : ∀ z : Int, fdivD (.int z) (.int 7) [.lst l] = some (.int (z / 7), [.lst l]) := fun z => by
    show (if Nat.blt (6 + 1) (2 ^ 9000) = true then some (D.int (z / Int.ofNat (6 + 1)), [O.lst l]) else none) = _
    rw [if_pos (by decide +kernel)]
    rfl
  have ed3 : ∀ (z : Int) (hs : Hs), fdivD (.int z) (.int 1009) hs = some (.int (z / 1009), hs) := fun z hs => by
    show (if Nat.blt (1008 + 1) (2 ^ 9000) = true then some (D.int (z / Int.ofNat (1008 + 1)), hs) else none) = _
    rw [if_pos (by decide +kernel)]
    rfl
  have ea : ∀ (i j : Int) (hs : Hs), addD (.int i) (.int j) hs = some (.int (i + j), hs) := fun _ _ _ => rfl
  have eg : ∀ (i j : Int) (hs : Hs), geD (.int i) (.int j) hs = some (.bl (decide (j ≤ i)), hs) := fun _ _ _ => rfl
  unfold drawB
  simp only [mSeq, mSet, mBin, mVar, mC, at?, mCall, mCons, mNil, int1, e1, e2, ea, em, hmx, put, mIfS, mTest, ep, eg]
  by_cases hc2 : (10 : Int) ^ 18 ≤ cell
  · simp only [decide_eq_true hc2, mDrop, mApp, mBin, mVar, mC, at?, em3, hc, ed3, put]
    exact ⟨_, _, _, rfl⟩
  · simp only [decide_eq_false hc2, mDrop, mApp, mBin, mVar, mC, mCall, mCons, mNil, int1, at?, e3, e4, ea, em2, ed, hc, put]
    exact ⟨_, _, _, rfl⟩
theorem draw_loop {cell cnt : Int} (hb : Builtin.Int.intBits cell ≤ 1048576) : ∀ (n : Nat) (k : Int) (rest : Int) (xk xm : Option D) (l : List Int), 0 ≤ k → k + n < 1000 → l.length + n < 1000 →
    ∃ (a : List Int) (ρ : En), a.length = n ∧ forGo (setN 4) drawB (rngL k n) [some (.int cell), some (.int cnt), some (.ref 0), some (.int rest), xk, xm] [.lst (l.map D.int)] = some (.nx ρ [.lst ((l ++ a).map D.int)]) ∧ at? ρ 2 = some (some (.ref 0))
  | 0, k, rest, xk, xm, l, _, _, _ => ⟨[], _, rfl, by rw [List.append_nil]; rfl, rfl⟩
  | n + 1, k, rest, xk, xm, l, h0, h1, h2 => by
    obtain ⟨v, rest', mixed, e⟩ := draw_step (cell := cell) (cnt := cnt) (rest := rest) (k := k) (x := xm) (l := l.map D.int) hb h0 (by omega) (by rw [List.length_map]; omega)
    obtain ⟨a, ρ, ha, e2, e3⟩ := draw_loop (cnt := cnt) hb n (k + 1) rest' (some (.int k)) (some (.int mixed)) (l ++ [v]) (by omega) (by omega) (by rw [List.length_append]; simp; omega)
    refine ⟨v :: a, ρ, by simp [ha], ?_, e3⟩
    have e5 : (l ++ v :: a).map D.int = ((l ++ [v]) ++ a).map D.int := by simp
    rw [e5, ← e2]
    have e6 : (l ++ [v]).map D.int = l.map D.int ++ [.int v] := by simp
    rw [e6]
    exact congrArg (fun r : Option Rs => match r with
      | some (.nx ρ2 hs2) => forGo (setN 4) drawB (rngL (k + 1) n) ρ2 hs2
      | some (.ct ρ2 hs2) => forGo (setN 4) drawB (rngL (k + 1) n) ρ2 hs2
      | some (.bk ρ2 hs2) => some (.nx ρ2 hs2)
      | some (.ret d hs2) => some (.ret d hs2)
      | none => none) e
theorem mSeq_nx {f g : SM} {ρ ρ' : En} {hs hs' : Hs} (h : f ρ hs = some (.nx ρ' hs')) : mSeq f g ρ hs = g ρ' hs' := by
  unfold mSeq
  rw [h]
theorem draws_ok {cell : Int} (hb : Builtin.Int.intBits cell ≤ 1048576) (n : Nat) (hn : n < 500) (hs : Hs) : ∃ a : List Int, a.length = n ∧ FP (mBody drawsM 4) [.int cell, .int n] hs = some (.ref hs.length, hs ++ [.lst (a.map D.int)]) := by
  obtain ⟨a, ρ, ha, e, e2⟩ := draw_loop (cnt := (n : Int)) hb n 0 cell none none [] (by omega) (by omega) (by simp; omega)
  refine ⟨a, ha, ?_⟩
  have hblt : Nat.blt (n : Int).natAbs (2 ^ 62) = true := Nat.ble_eq_true_of_le (Nat.le_trans (show n + 1 ≤ 500 by omega) (by decide))
  have er : mRng1 (mCons (mVar 1) mNil) [some (.int cell), some (.int (n : Int)), some (.ref 0), some (.int cell), none, none] [.lst []] = some (rngL 0 n, [.lst []]) := by
    show (if Nat.blt (n : Int).natAbs (2 ^ 62) = true then some (rngL 0 (n : Int).toNat, [O.lst []]) else none) = _
    rw [if_pos hblt]
    rfl
  have ef : mFor (mRng1 (mCons (mVar 1) mNil)) (setN 4) drawB [some (.int cell), some (.int (n : Int)), some (.ref 0), some (.int cell), none, none] [.lst []] = some (.nx ρ [.lst (a.map D.int)]) := by
    unfold mFor
    rw [er]
    exact e
  have es : drawsM [some (.int cell), some (.int (n : Int)), none, none, none, none] [] = some (.ret (.ref 0) [.lst (a.map D.int)]) := by
    unfold drawsM
    rw [mSeq_nx (ρ' := [some (.int cell), some (.int (n : Int)), some (.ref 0), none, none, none]) (hs' := [.lst []]) rfl]
    rw [mSeq_nx (ρ' := [some (.int cell), some (.int (n : Int)), some (.ref 0), some (.int cell), none, none]) (hs' := [.lst []]) rfl]
    rw [mSeq_nx ef]
    unfold mRet mVar
    rw [e2]
  have e0 : mBody drawsM 4 [.int cell, .int n] [] = some (.ref 0, [.lst (a.map D.int)]) := by
    show (match drawsM [some (.int cell), some (.int (n : Int)), none, none, none, none] [] with
      | some (.nx _ hs') => some (D.non, hs')
      | some (.ret d hs') => some (d, hs')
      | _ => none) = _
    rw [es]
  have sh : allL (shal 12) [.int cell, .int (n : Int)] = true := rfl
  have si : ∀ l : List Int, shL hs.length (l.map D.int) = l.map D.int := fun l => by
    induction l with
    | nil => unfold shL; rfl
    | cons x r ih =>
      rw [List.map_cons, shL, ih]
      unfold shD
      rfl
  show (match allL (shal 12) [.int cell, .int (n : Int)] with
    | true => match mBody drawsM 4 [.int cell, .int (n : Int)] [] with
      | some (d, hs') => match shal 12 d with
        | true => some (d, hs)
        | false => some (shD hs.length d, hs ++ hs'.map (shO hs.length))
      | none => none
    | false => none) = _
  rw [sh, e0]
  show some (shD hs.length (.ref 0), hs ++ [O.lst (shL hs.length (a.map D.int))]) = _
  rw [si]
  unfold shD
  rfl
/-- the script as it may lie -/
def Lies (d : D) (hs : Hs) (ns : List Int) : Prop := (d = .fro (ns.map D.int) ∧ hs = []) ∨ (d = .ref 0 ∧ hs = [.lst (ns.map D.int)])
theorem cell_ok {d : D} {hs : Hs} {ns : List Int} (h : Lies d hs ns) (hb : ∀ z ∈ ns, Builtin.Int.intBits z ≤ 1048576) : ∃ c : Int, Builtin.Int.intBits c ≤ 1048576 ∧ mBody cellM 0 [d, .int 0] hs = some (.int c, hs) := by
  cases ns with
  | nil =>
    refine ⟨0, by decide, ?_⟩
    rcases h with ⟨rfl, rfl⟩ | ⟨rfl, rfl⟩ <;> rfl
  | cons x r =>
    refine ⟨x, hb x List.mem_cons_self, ?_⟩
    have key : ∀ (l : List D), decide ((0 : Int) < ((D.int x :: l).length : Nat)) = true := fun l => decide_eq_true (by rw [List.length_cons]; omega)
    rcases h with ⟨rfl, rfl⟩ | ⟨rfl, rfl⟩
    · unfold mBody cellM
      simp only [List.map_cons, mSeq, mIfS, mTest, mBin, mVar, mCall, mCons, mNil, lenL, at?, List.map, List.replicate, List.append, HAppend.hAppend, Append.append]
      have e : ∀ (l : List D) (hs : Hs), ltD (.int 0) (.int ((D.int x :: l).length : Nat)) hs = some (.bl true, hs) := fun l hs => by
        show some (D.bl (decide ((0 : Int) < ((D.int x :: l).length : Nat))), hs) = _
        rw [key]
      simp only [e, mRet, mBin, mVar, at?]
      rfl
    · unfold mBody cellM
      simp only [List.map_cons, mSeq, mIfS, mTest, mBin, mVar, mCall, mCons, mNil, lenL, at?, List.map, List.replicate, List.append, HAppend.hAppend, Append.append]
      have e : ∀ (l : List D) (hs : Hs), ltD (.int 0) (.int ((D.int x :: l).length : Nat)) hs = some (.bl true, hs) := fun l hs => by
        show some (D.bl (decide ((0 : Int) < ((D.int x :: l).length : Nat))), hs) = _
        rw [key]
      simp only [e, mRet, mBin, mVar, at?]
      rfl

/-! ### a law's pieces -/
def iL (a : List Int) : List D := a.map D.int
theorem step_nx {G : GX} {f : SM} {t : TS} {W : Ends} {σ : L2.St} {H : Hp} {m : List Addr} {ρ ρ' : En} {hs hs' : Hs} (hr : HR G m hs H) (sl : SL G H m ρ σ) (e : f ρ hs = some (.nx ρ' hs'))
    (q : ∀ σ' H' m', HR G m' hs' H' → SL G H' m' ρ' σ' → t W σ' H') : TSK G f t W σ H := ⟨ρ, hs, m, sl, hr, _, e, fun σ' H' m' _ hr' sl' => q σ' H' m' hr' sl'⟩
theorem step_ret {G : GX} {f : SM} {W : Ends} {σ : L2.St} {H : Hp} {m : List Addr} {ρ : En} {hs hs' : Hs} (hr : HR G m hs H) (sl : SL G H m ρ σ) (e : f ρ hs = some (.ret (.bl true) hs')) (hw : ∀ H', W.rt (.bl true) H') : TSM G f W σ H :=
  ⟨ρ, hs, m, sl, hr, _, e, fun v H' m' _ _ rv => by
    cases rv
    exact hw H'⟩
def isT (r : Option Rs) : Bool := match r with
  | some (.ret (.bl true) _) => true
  | _ => false
theorem isT_ex {r : Option Rs} (h : isT r = true) : ∃ hs', r = some (.ret (.bl true) hs') := by
  unfold isT at h
  split at h
  · exact ⟨_, rfl⟩
  · cases h
/-- the state behind a piece: the draws still lie at slot 1 -/
def look1 (r : Option Rs) : Option (Option D) × Option O × Nat := match r with
  | some (.nx ρ hs) => (at? ρ 1, at? hs 0, ρ.length)
  | _ => (none, none, 0)
theorem look1_ex {r : Option Rs} {n : Nat} {L : List D} (h : look1 r = (some (some (.ref 0)), some (.lst L), n)) : ∃ ρ hs, r = some (.nx ρ hs) ∧ at? ρ 1 = some (some (.ref 0)) ∧ at? hs 0 = some (.lst L) ∧ ρ.length = n := by
  unfold look1 at h
  split at h
  · rename_i ρ hs
    injection h with h1 h2
    injection h2 with h2 h3
    exact ⟨ρ, hs, rfl, h1, h2, h3⟩
  · cases h
/-- slots: nothing but the draws -/
def rhoN (j : Nat) : En := none :: some (.ref 0) :: List.replicate j none
theorem rhoN_get {j i : Nat} {d : D} (h : (rhoN j)[i]? = some (some d)) : i = 1 ∧ d = .ref 0 := by
  unfold rhoN at h
  match i, h with
  | 0, h => simp at h
  | 1, h => simp at h; exact ⟨rfl, h.symm⟩
  | i + 2, h =>
    rw [List.getElem?_cons_succ, List.getElem?_cons_succ, List.getElem?_replicate] at h
    split at h <;> cases h
theorem junction {G : GX} {H : Hp} {m : List Addr} {ρ : En} {hs : Hs} {σ : L2.St} {a : List Int} {j k : Nat} (hr : HR G m hs H) (sl : SL G H m ρ σ) (e1 : at? ρ 1 = some (some (.ref k))) (e2 : at? hs k = some (.lst (iL a))) (hl : ρ.length = j + 2) :
    ∃ b, HR G [b] [.lst (iL a)] H ∧ SL G H [b] (rhoN j) σ := by
  obtain ⟨b, h1, h2⟩ := hr.only e2
  refine ⟨b, h2, sl.weaken (by simp [rhoN, hl]) fun i d h => ?_⟩
  obtain ⟨rfl, rfl⟩ := rhoN_get h
  refine ⟨.ref k, by rw [← at?_eq]; exact e1, fun v r => ?_⟩
  cases r with
  | ref e =>
    rw [h1] at e; cases e
    exact .ref rfl
/-- slots: nothing but ints; the draws are forgotten -/
theorem junction0 {G : GX} {H : Hp} {m : List Addr} {ρ ρ' : En} {hs : Hs} {σ : L2.St} (hr : HR G m hs H) (sl : SL G H m ρ σ) (hl : ρ'.length = ρ.length) (h : ∀ (i : Nat) (d : D), ρ'[i]? = some (some d) → ρ[i]? = some (some d) ∧ ∃ z, d = .int z) : HR G [] [] H ∧ SL G H [] ρ' σ := by
  refine ⟨hr.none, sl.weaken hl fun i d e => ?_⟩
  obtain ⟨h1, z, rfl⟩ := h i d e
  exact ⟨_, h1, fun v r => by cases r; exact .int z⟩
theorem mCons_of {f : EM} {g : AM} {ρ : En} {hs hs1 hs2 : Hs} {d : D} {ds : List D} (h1 : f ρ hs = some (d, hs1)) (h2 : g ρ hs1 = some (ds, hs2)) : mCons f g ρ hs = some (d :: ds, hs2) := by
  unfold mCons
  rw [h1]
  simp only
  rw [h2]
theorem mCall_of {F : FM} {g : AM} {ρ : En} {hs hs1 : Hs} {ds : List D} (h : g ρ hs = some (ds, hs1)) : mCall F g ρ hs = F ds hs1 := by
  unfold mCall
  rw [h]
/-- n = _law_draws(_law_cell(script, 0), count) -/
theorem law_step0 {G : GX} {count j : Nat} {t : TS} {W : Ends} {σ : L2.St} {H : Hp} {d : D} {hs : Hs} {m : List Addr} {ns : List Int} (hL : Lies d hs ns) (hb : ∀ z ∈ ns, Builtin.Int.intBits z ≤ 1048576) (hr : HR G m hs H) (sl : SL G H m (some d :: List.replicate (j + 1) none) σ) (hc : count < 500)
    (ht : ∀ (a : List Int) σ' H' b, a.length = count → HR G [b] [.lst (iL a)] H' → SL G H' [b] (rhoN j) σ' → t W σ' H') :
    TSK G (mSet 1 (mCall (FP (mBody drawsM 4)) (mCons (mCall (mBody cellM 0) (mCons (mVar 0) (mCons (mC (.int 0)) mNil))) (mCons (mC (.int count)) mNil)))) t W σ H := by
  obtain ⟨c, hc1, e1⟩ := cell_ok hL hb
  obtain ⟨a, ha, e2⟩ := draws_ok hc1 count hc hs
  refine step_nx hr sl (ρ' := some d :: some (.ref hs.length) :: List.replicate j none) (hs' := hs ++ [.lst (a.map D.int)]) ?_ fun σ' H' m' hr' sl' => ?_
  · have e3 : mCall (FP (mBody drawsM 4)) (mCons (mCall (mBody cellM 0) (mCons (mVar 0) (mCons (mC (.int 0)) mNil))) (mCons (mC (.int count)) mNil)) (some d :: List.replicate (j + 1) none) hs = some (.ref hs.length, hs ++ [.lst (a.map D.int)]) := by
      have e4 : mCall (mBody cellM 0) (mCons (mVar 0) (mCons (mC (.int 0)) mNil)) (some d :: List.replicate (j + 1) none) hs = some (.int c, hs) := e1
      rw [mCall_of (mCons_of e4 (mCons_of (d := .int count) (hs1 := hs) rfl (show mNil _ hs = some ([], hs) from rfl)))]
      exact e2
    unfold mSet
    rw [e3]
    rfl
  · obtain ⟨b, h1, h2⟩ := junction (j := j) (k := hs.length) (a := a) hr' sl' rfl (by rw [at?_eq, List.getElem?_append_right (Nat.le_refl _), Nat.sub_self]; rfl) (by simp)
    exact ht a σ' H' b ha h1 h2
end Mir

/-! MirQ: set comprehensions whose set is a tracked thing of any kind; sorted, len of them. -/
namespace Mir
open PySem PySem.Spec PyProof.Rows L2

/-- one kind of set: what stands at D, how it begins, what may be added -/
structure SKind (P : Program) (w : World) (K : PySem.W.Frag) (A : Around) where
  U : Type
  ho : Addr → U → HO
  u0 : U
  adds : V → U → Hp → (U → Prop) → Prop
  new : ∀ {H : Hp} {h : Heap} {a : Addr}, h.get? a = some { cls := .type "set", dict := none, data := .set #[] 0 (.fresh 0 0 (!w.params.followText "set-order")) } → ObjOk P w H h a (ho a u0)
  add : ∀ (X : Cx), X.prog = P → X.w = w → X.K = K → X.A = A → ∀ {pins : List (Addr × Obj)} {σ : L2.St} {H : Hp} {s : Shared} {D : Addr} {y : V} {z : Value} {u : U} {k : U → Prop} {E : Value → Shared → Prop} {Q : Value → Shared → Prop},
    L2.Inv X pins σ H s → RelV y z → H D = some (ho D u) → adds y u H k → (∀ s' u', k u' → L2.Inv X pins σ (upd H D (ho D u')) s' → Q .none s') → wpAny (model P w) A (call (.builtin "set.add") [.ref D, z]) Q E s
  ext : ∀ a u, ∃ p, ho a u = .ext p

section
variable {X : Cx}
/-- {elt for target in iter if ..} -/
def tScG (S : SKind X.prog X.w X.K X.A) (wi : TI) (g : TG) (tt : TT) (te : TE) (vs : List Nat) : TE := fun σ H Q => wi σ H fun J H1 => ∀ D, H1 D = none → ∃ W : Nat → Nat → Hp → Prop, (∃ m, W 0 m (upd H1 D (S.ho D S.u0))) ∧ ∀ i m H, W i m H →
  (J.stop i H ∧ Q (.ref D) H) ∨ (J.go i H ∧ ∃ Nx : Hp → Prop, (∀ H', Nx H' → ∃ m', m' < m ∧ W (i + 1) m' H') ∧ ∀ x H', J.yld i H x H' → g x (wipe σ vs) H' fun σ2 H2 => wipe σ2 vs = wipe σ vs ∧ tt σ2 H2 fun b H3 =>
    if b = true then te σ2 H3 fun y H4 => ∃ u, H4 D = some (S.ho D u) ∧ S.adds y u H4 fun u' => Nx (upd H4 D (S.ho D u')) else Nx H3)
theorem scG_core {S : SKind X.prog X.w X.K X.A} {pins : List (Addr × Obj)} {s : Shared} {σ : L2.St} {H : Hp} {Q : VK} {elt tg iter : Expr} {ifs : List Expr} {scope : Scope} {own : List (PySem.Str × Nat)} {pos pos' : Pos} {wi : TI} {g : TG} {tt : TT} {te : TE} {use : Option (Value → Sem Unit)} {Qf : Value → Shared → Prop}
    (hc : X.calm = true) (hN : X.N.Nodup) (I : L2.Inv X pins σ H s) (hi : PI X tg iter wi) (ok : BlkOk X.N X.env.scope scope own)
    (hg : ∀ (s : Shared) (H : Hp) (C : Addr) (cl : List (PySem.Str × Addr)) (fp : List Addr), PG (X.blk s H scope (compEnvC scope cl C X.env) fp) tg g) (ht : ∀ (s : Shared) (H : Hp) (C : Addr) (cl : List (PySem.Str × Addr)) (fp : List Addr), PTs (X.blk s H scope (compEnvC scope cl C X.env) fp) ifs tt)
    (he : ∀ (s : Shared) (H : Hp) (C : Addr) (cl : List (PySem.Str × Addr)) (fp : List Addr), PE (X.blk s H scope (compEnvC scope cl C X.env) fp) elt te) (hs : ∀ x, foldedSetIterable iter X.env x = pure x)
    (h : tScG S wi g tt te (own.map (·.2)) σ H Q)
    (hRR : ∀ D C s' m H', L2.Inv X pins σ H' s' → Q (.ref D) H' → s'.heap.Ns C m → FpOk X pins H' C → compPost (model X.prog X.w) X.A X.xe use Qf (.ref D) C (.ok .next) s') :
    wpAny (model X.prog X.w) X.A (comprehension (.SetComp elt [⟨tg, iter, ifs, 0⟩] scope pos) scope X.env pos' (newSet (.type "set")) false (eval iter X.env) use) Qf X.xe s := by
  have hfree : ∀ y ∈ scope.names, y.2 = .free → ∃ c, X.env.cells.lookup y.1 = some c := fun y hy e => by
    rcases ok.free y hy e with k | k
    · exact I.ok.has _ (.inl k)
    · exact I.ok.has _ (.inr k)
  refine wpAny_comprehension_free (use := use) rfl hs (closure_ok hfree) ok.kind (fun y hy e => by rw [ok.uniq y hy, e])
    (thn (hi.run pins s σ H _ I h) fun xv s1 hx => thn hx fun itv s2 h2 => ?_)
  obtain ⟨it, fp, tn, J, H2, e, I2, T, st2, f2, q⟩ := h2
  subst e
  refine PpSet.newSet_ok (newEnv_comp ?_)
  generalize hD : s2.heap.objs.size = D
  have hDn : H2 D = none := I2.hok.fresh (Nat.le_of_eq hD)
  obtain ⟨W, ⟨m0, w0⟩, turn⟩ := q D hDn
  generalize hs3 : ({ s2 with heap := s2.heap.push { cls := .type "set", dict := none, data := .set #[] 0 (.fresh 0 0 (!X.w.params.followText "set-order")) } } : Shared) = s3
  have I3 : L2.Inv X pins σ (upd H2 D (S.ho D S.u0)) s3 := by
    rw [← hs3]
    refine I2.laid (t' := s2.toks) (fun b o e => Heap.get?_push_of_some _ e) (Nat.le_of_eq hD) ?_
    rw [← hD]
    exact S.new (Heap.get?_push_size _ rfl)
  have h3 : s3.heap = s2.heap.push { cls := .type "set", dict := none, data := .set #[] 0 (.fresh 0 0 (!X.w.params.followText "set-order")) } := by rw [← hs3]
  have sz : ∀ b ∈ fp, b < s2.heap.objs.size := fun b hb => by
    obtain ⟨o, e, _⟩ := T.obj _ _ st2 b hb
    exact Heap.lt_size e
  have f3 : ∀ b ∈ fp, FpOk X pins (upd H2 D (S.ho D S.u0)) b ∧ b < s3.heap.objs.size := fun b hb => by
    have hlt := sz b hb
    refine ⟨⟨?_, (f2 b hb).2⟩, by rw [h3, Heap.size_push]; exact Nat.lt_succ_of_lt hlt⟩
    rw [upd_ne (by rw [← hD]; exact Nat.ne_of_lt hlt)]
    exact (f2 b hb).1
  have st3 : tn 0 s3.heap := T.keep _ _ _ st2 fun b _ o e => by rw [h3]; exact Heap.get?_push_of_some _ e
  have I4 := block_start I3 ok hN f3
  have pg := hg s3 (upd H2 D (S.ho D S.u0)) s3.heap.objs.size (cellsFrom (s3.heap.objs.size + 1) scope.names (cloFrom X.env.cells scope.names [])) fp
  have pt := ht s3 (upd H2 D (S.ho D S.u0)) s3.heap.objs.size (cellsFrom (s3.heap.objs.size + 1) scope.names (cloFrom X.env.cells scope.names [])) fp
  have pe := he s3 (upd H2 D (S.ho D S.u0)) s3.heap.objs.size (cellsFrom (s3.heap.objs.size + 1) scope.names (cloFrom X.env.cells scope.names [])) fp
  show codeAny _ _ (.compStart (.SetComp elt [⟨tg, iter, ifs, 0⟩] scope pos) 0 (.ref it) (.ref D) (compEnvC scope (cellsFrom (s3.heap.objs.size + 1) scope.names (cloFrom X.env.cells scope.names [])) s3.heap.objs.size X.env)) (compPost (model X.prog X.w) X.A X.xe use Qf (.ref D) s3.heap.objs.size) { s3 with heap := pushCells (s3.heap.push { cls := .type "dict", data := .dict #[] }) scope.names }
  have nfp : ∀ b ∈ fp, (upd H2 D (S.ho D S.u0)) b = none := fun b hb => (f3 b hb).1.1
  generalize hce : compEnvC scope (cellsFrom (s3.heap.objs.size + 1) scope.names (cloFrom X.env.cells scope.names [])) s3.heap.objs.size X.env = ce at I4 pg pt pe ⊢
  have cL : ce.locals = s3.heap.objs.size := by subst hce; rfl
  generalize hH3 : upd H2 D (S.ho D S.u0) = H3 at I3 I4 pg pt pe w0 nfp f3
  generalize hs4 : ({ s3 with heap := pushCells (s3.heap.push { cls := .type "dict", data := .dict #[] }) scope.names } : Shared) = s4 at I4 ⊢
  have st4 : tn 0 s4.heap := T.keep _ _ _ st3 fun b _ o e => by rw [← hs4]; exact pushCells_keeps _ _ _ _ (Heap.get?_push_of_some _ e)
  have stat : ∀ {σ' : L2.St} {H' : Hp} {s' : Shared}, L2.Inv (X.blk s3 H3 scope ce fp) [] σ' H' s' → (∀ b ∈ fp, H' b = none) → ∀ b ∈ fp, FpOk (X.blk s3 H3 scope ce fp) [] H' b := fun {σ' H' s'} I' hn b hb =>
    ⟨hn b hb, (I'.ok.exf b hb).1, I'.ok.exfs b hb, .inl hb, fun x c e => (I'.ok.exf b hb).2 x c e, fun p hp => absurd (show p ∈ ([] : List (Addr × Obj)) ++ [] from hp) (by simp)⟩
  have loop : codeAny (model X.prog X.w) X.A (.compLoop (.SetComp elt [⟨tg, iter, ifs, 0⟩] scope pos) 0 (.ref it) (.ref D) ce) (compPost (model X.prog X.w) X.A X.xe use Qf (.ref D) s3.heap.objs.size) s4 := by
    refine PpSet.compLoopS_any (fun n s' => ∃ i H', L2.Inv (X.blk s3 H3 scope ce fp) [] (wipe σ (own.map (·.2))) H' s' ∧ tn i s'.heap ∧ (∀ b ∈ fp, H' b = none) ∧ W i n H') ?_ m0 ⟨0, H3, I4, st4, nfp, w0⟩
    rintro n s5 ⟨i, H5, I5, st5, n5, w5⟩
    rcases turn i n H5 w5 with ⟨stop, qq⟩ | ⟨go, Nx, hNx, step⟩
    · have td := T.done (X.blk s3 H3 scope ce fp) rfl rfl rfl hc i [] s5 _ H5 (fun _ _ => False) I5 (stat I5 n5) st5 stop
      refine thnF td fun r s6 ⟨hr, I6⟩ => ?_
      subst hr
      have I7 : L2.Inv X pins σ H5 s6 := I3.call' (ch := fp) I6.os I6.base I6.hok I6.bare fun b hb => ⟨(f3 b hb).1.2.2.2.1, (f3 b hb).1.2.1, (f3 b hb).1.2.2.2.2.1, (f3 b hb).1.2.2.2.2.2⟩
      have nC : H5 s3.heap.objs.size = none := by
        have z : H5 ce.locals = none := I6.free
        rw [cL] at z
        exact z
      obtain ⟨m, hn, _⟩ := I6.loc
      have hn : s6.heap.Ns ce.locals m := hn
      rw [cL] at hn
      exact hRR D s3.heap.objs.size s6 m H5 I7 qq hn (I3.fpOk (Nat.le_refl _) nC)
    · have ti := T.item (X.blk s3 H3 scope ce fp) rfl rfl rfl hc i [] s5 _ H5 (fun _ _ => False) I5 (stat I5 n5) st5 go
      refine thnF ti fun r s6 ⟨u, hr, h6⟩ => ?_
      subst hr
      refine thnF h6 fun _ s7 ⟨x, H7, I7, r7, y7, st7, n7⟩ => ?_
      have I7' := I7.pinned (stat I7 n7) (T.obj _ _ st7)
      refine thnF (pg.run _ s7 _ H7 x u _ I7' r7 (step x H7 y7)) fun _ s8 ⟨σ8, H8, I8, hw8, q8⟩ => ?_
      refine thnF (pt.run _ s8 σ8 H8 _ I8 q8) fun b s9 ⟨H9, I9, q9⟩ => ?_
      have fin : ∀ {s' : Shared} {H' : Hp}, L2.Inv (X.blk s3 H3 scope ce fp) ([] ++ pinsAt fp s7.heap) σ8 H' s' → Nx H' → ∃ m, m < n ∧ ∃ i H', L2.Inv (X.blk s3 H3 scope ce fp) [] (wipe σ (own.map (·.2))) H' s' ∧ tn i s'.heap ∧ (∀ b ∈ fp, H' b = none) ∧ W i m H' := fun {s' H'} I' nx => by
        obtain ⟨m', hm, w'⟩ := hNx H' nx
        have pin' : ∀ b ∈ fp, ∀ o, s7.heap.get? b = some o → s'.heap.get? b = some o ∧ H' b = none := fun b hb o e =>
          let z := I'.pin (b, o) (List.mem_append_right _ (List.mem_append_right _ (mem_pinsAt hb e)))
          ⟨z.1, z.2.1⟩
        have hl : (wipe σ (own.map (·.2))).length = σ8.length := by rw [← hw8, wipe_length]
        refine ⟨m', hm, i + 1, H', (I'.unpinned (pins := [])).weak hl (fun j v e => ?_), T.keep _ _ _ st7 fun b hb o e => (pin' b hb o e).1, fun b hb => ?_, w'⟩
        · rw [← hw8] at e
          exact (wipe_some e).1
        · obtain ⟨o, e, _⟩ := T.obj _ _ st7 b hb
          exact (pin' b hb o e).2
      cases b with
      | false =>
        simp only [Bool.false_eq_true, if_false] at q9 ⊢
        exact fin I9 q9
      | true =>
        simp only [if_true] at q9 ⊢
        refine thnF (pe.run _ s9 σ8 H9 _ I9 q9) fun z s10 ⟨yv, H10, I10, r10, u0, hD10, ad⟩ => ?_
        exact S.add (X.blk s3 H3 scope ce fp) rfl rfl rfl rfl I10 r10 hD10 ad fun s11 u' nx I11 => fin I11 nx
  exact PpSet.codeAny_compStart_set loop (T.self X.A 0 _ _ _ st4 loop)
theorem pe_scG (S : SKind X.prog X.w X.K X.A) {elt tg iter : Expr} {ifs : List Expr} {scope : Scope} {own : List (PySem.Str × Nat)} {pos : Pos} {wi : TI} {g : TG} {tt : TT} {te : TE} (hc : X.calm = true) (hN : X.N.Nodup) (hi : PI X tg iter wi) (ok : BlkOk X.N X.env.scope scope own)
    (hg : ∀ (s : Shared) (H : Hp) (C : Addr) (cl : List (PySem.Str × Addr)) (fp : List Addr), PG (X.blk s H scope (compEnvC scope cl C X.env) fp) tg g) (ht : ∀ (s : Shared) (H : Hp) (C : Addr) (cl : List (PySem.Str × Addr)) (fp : List Addr), PTs (X.blk s H scope (compEnvC scope cl C X.env) fp) ifs tt)
    (he : ∀ (s : Shared) (H : Hp) (C : Addr) (cl : List (PySem.Str × Addr)) (fp : List Addr), PE (X.blk s H scope (compEnvC scope cl C X.env) fp) elt te) (hs : ∀ x, foldedSetIterable iter X.env x = pure x := by intro _; rfl) :
    PE X (.SetComp elt [⟨tg, iter, ifs, 0⟩] scope pos) (tScG S wi g tt te (own.map (·.2))) := by
  refine ⟨fun pins s σ H Q I h => ?_⟩
  rw [PpSet.eval_SetComp]
  refine scG_core hc hN I hi ok hg ht he hs h fun D C s' m H' I' q hn f => ⟨m, hn, fun h'' sb => ?_⟩
  obtain ⟨f0, f1, f2, f3, f4, f5⟩ := f
  exact ⟨.ref D, H', I'.turned (t' := s'.toks) (fun b o hb e => (sb.2 b hb).trans e) f0 f1 f3 f4 f5, rfl, q⟩

/-! ### the two kinds -/
/-- sets of ints -/
def skI (P : Program) (w : World) (K : PySem.W.Frag) (A : Around) : SKind P w K A where
  U := (Int → Bool) × Nat
  ho := fun a u => SetO w a u.1 u.2
  u0 := (fun _ => false, 0)
  adds := fun y u H k => ∃ i : Int, y = .int i ∧ u.2 + 1 < scanBound ∧ k (fun j => u.1 j || decide (j = i), if u.1 i = true then u.2 else u.2 + 1)
  new := fun {H h a} e => by
    refine setO_new ⟨_, #[], 0, _, e, ⟨rfl, rfl, rfl⟩, rfl, (fun e he => by simp at he), (by simp), (fun k => by simp), (by decide), (by rfl), rfl, List.Pairwise.nil, ?_⟩
    show _ ∨ (!w.params.followText "set-order") = true
    cases w.params.followText "set-order"
    · exact .inr rfl
    · exact .inl rfl
  add := fun X e1 e2 e3 e4 {pins σ H s D y z u k E Q} I r hD ad q => by
    subst e1 e2 e3 e4
    obtain ⟨i, rfl, room, hk⟩ := ad
    obtain ⟨t, rfl⟩ := (show ∃ t, z = Value.int i t from r)
    have R := setO_get I hD
    refine setR_add R room fun h' sb new => ?_
    have he : ∃ u, h'.get? D = some u := by
      have ⟨o, _, _, _, ho, _⟩ := new
      exact ⟨o, ho⟩
    exact q _ _ hk (I.write (e := D) (t' := s.toks + 1) (by rw [hD]; trivial) (.inl rfl) (fun b u hb hu => (sb.2 b hb).trans hu) he (setO_new new))
  ext := fun a u => ⟨_, rfl⟩
/-- sets of tuples of ints -/
def skT (P : Program) (w : World) (K : PySem.W.Frag) (A : Around) (hu : A.units + 64 < cLine) : SKind P w K A where
  U := List (Addr × List Int)
  ho := fun a u => SetTO P w a u
  u0 := []
  adds := fun y L H k => ∃ (a : Addr) (is : List Int), y = .ref a ∧ SqT K H a (is.map V.int) ∧ (∀ p ∈ L, SqT K H p.1 (p.2.map V.int)) ∧ L.length + 1 < 64 ∧
    (is ∈ L.map (·.2) → k L) ∧ ∀ L', is ∉ L.map (·.2) → L'.Perm ((a, is) :: L) → k L'
  new := fun {H h a} e => setTO_new (setTR_fresh e).t0
  add := fun X e1 e2 e3 e4 {pins σ H s D y z L k E Q} I r hD ad q => by
    subst e1 e2 e3 e4
    obtain ⟨a, is, rfl, ha, hL, few, k1, k2⟩ := ad
    cases r
    have R0 : SetT0 X.prog X.w s.heap D L := (I.hok D _ hD).1
    have ht : ∀ p ∈ L, IsT X.prog X.w s.heap p.2 p.1 := fun p hp => I.isT (hL p hp)
    obtain ⟨es, ep, t, R⟩ := R0.full ht
    have hx : IsT X.prog X.w s.heap is a := I.isT ha
    obtain ⟨o, ho, hex, hd⟩ := R.ob
    refine wpAny_call_entry F.slot_set_add ⟨o, ho, hex.1⟩ F.entry_set_add ?_ (F.args_set_add_2 _ _)
    unfold Builtin.«set.add» Builtin.Frozenset.oneOther
    simp only [List.isEmpty_nil, bind_assoc]
    unfold Builtin.Frozenset.addrOf setAdd
    refine wpAny_bind (wpAny_pure ?_)
    try dsimp only
    refine wpAny_bind (wpAny_pure ?_)
    try dsimp only
    refine wpAny_bind ?_
    refine wpAny_holding ?_
    refine wpAny_bind (wpAny_pyHash_tuple (by simp only [Around.in1_units]; omega) hx ?_)
    refine add_at (s := { s with toks := s.toks + (is.length + 1) }) R hx (by simp only [Around.in1_units]; omega) few fun b h' L' es' ep' t' sb R' c1 c2 => ?_
    have he : ∃ u, h'.get? D = some u := by
      obtain ⟨o, ho, _⟩ := R'.ob
      exact ⟨o, ho⟩
    show wpAny _ _ (ret Value.none) _ _ _
    refine wpAny_pure ⟨_, rfl, q _ L' ?_ (I.write (e := D) (t' := s.toks + (is.length + 1)) (by rw [hD]; trivial) (.inl rfl) (fun b u hb hu => (sb.2 b hb).trans hu) he (setTO_new R'.t0))⟩
    rcases Classical.em (is ∈ L.map (·.2)) with c | c
    · rw [c1 c]; exact k1 c
    · exact k2 L' c (c2 c)
  ext := fun a u => ⟨_, rfl⟩
end

/-! ### the reading -/
theorem lcGo_pre {g : GM} {c : BM} {f : EM} {ρ : En} : ∀ {ds : List D} {hs : Hs} {acc : List D} {r : List D × Hs}, lcGo g c f ρ ds hs acc = some r → ∃ t, r.1 = acc.reverse ++ t
  | [], hs, acc, r, h => by cases h; exact ⟨[], by simp⟩
  | d :: ds, hs, acc, r, h => by
    unfold lcGo at h
    split at h
    · split at h
      · split at h
        · rename_i x hs2 e2
          obtain ⟨t, e⟩ := lcGo_pre h
          exact ⟨x :: t, by rw [e, List.reverse_cons, List.append_assoc]; rfl⟩
        · cases h
      · exact lcGo_pre h
      · cases h
    · cases h
/-- what is known of the set while it grows -/
structure SJ (X : Cx) (tb : TBs) (S : SKind X.prog X.w X.K X.A) (xs : List D) where
  J : S.U → List D → Hp → List Addr → Prop
  j0 : ∀ H m, J S.u0 [] H m
  jn : ∀ {u acc H m hs H' m'}, HR (GO X tb) m hs H → Nx m H m' H' → J u acc H m → J u acc H' m'
  ja : ∀ {u acc H m hs D u' w}, HR (GO X tb) m hs H → H D = some (S.ho D w) → D ∉ m → J u acc H m → J u acc (upd H D (S.ho D u')) m
  jx : ∀ {u acc x v H m t}, xs = acc ++ x :: t → J u acc H m → Rep X.K H m x v → S.adds v u H fun u' => J u' (acc ++ [x]) H m
section
variable {X : Cx} {tb : TBs} {S : SKind X.prog X.w X.K X.A}
theorem SKind.nt (S : SKind X.prog X.w X.K X.A) {a : Addr} {u : S.U} : (∀ xs, S.ho a u ≠ .tup xs) ∧ (∀ o w, S.ho a u ≠ .frz o w) ∧ (∀ ps, S.ho a u ≠ .tbl ps) ∧ (∀ C dx fs, S.ho a u ≠ .ins C dx fs) := by
  obtain ⟨p, e⟩ := S.ext a u
  rw [e]
  exact ⟨fun _ z => (by cases z), fun _ _ z => (by cases z), fun _ z => (by cases z), fun _ _ _ z => (by cases z)⟩
def mScIn (s : IM) (g : GM) (c : BM) (f : EM) (vs : List Nat) : AM := fun ρ hs => match s ρ hs with
  | some (ds, hs1) => match lcGo g c f (wipeE ρ vs) ds hs1 [] with
    | some (xs, hs2) => some (xs, hs2)
    | none => none
  | none => none
theorem tm_scG {xs : List D} (SI : SJ X tb S xs) (am : ∀ {v u H} {k k' : S.U → Prop}, (∀ u', k u' → k' u') → S.adds v u H k → S.adds v u H k') {s : IM} {ts vs : List Nat} {g : GM} {c : BM} {f : EM} [qc : QB c] [qf : QE f] (hts : ∀ i ∈ ts, i ∈ vs) {σ : L2.St} {H : Hp} {Q : VK}
    {ρ : En} {hs hs2 : Hs} {m : List Addr} (sl : SL (GO X tb) H m ρ σ) (hr : HR (GO X tb) m hs H) (ee : mScIn s g c f vs ρ hs = some (xs, hs2))
    (q : ∀ D u H' m', Nx m H m' H' → HR (GO X tb) m' hs2 H' → D ∉ m' → H D = none → H' D = some (S.ho D u) → SI.J u xs H' m' → Q (.ref D) H') : tScG S (TIW (GO X tb) s) (TGM (GO X tb) ts g) (TB (GO X tb) c) (TM (GO X tb) f) vs σ H Q := by
  unfold mScIn at ee
  split at ee
  · rename_i ds hs1 e1
    split at ee
    · rename_i xs' hs2' eg
      cases ee
      refine ⟨ρ, hs, m, sl, hr, ds, hs1, e1, fun J H1 m1 n1 hr1 jw L hL => ?_⟩
      have sl1 := sl.nx hr n1
      have nL1 : L ∉ m1 := hr1.no_none hL
      refine ⟨fun i k H' => k = ds.length - i ∧ i ≤ ds.length ∧ ∃ m' r acc u, Nx m1 H1 m' H' ∧ HR (GO X tb) m' (hs1 ++ r) H' ∧ L ∉ m' ∧ H' L = some (S.ho L u) ∧ SI.J u acc.reverse H' m' ∧ lcGo g c f (wipeE ρ vs) (ds.drop i) (hs1 ++ r) acc = some (xs, hs2),
        ⟨ds.length, by simp, Nat.zero_le _, m1, [], [], S.u0, (Nx.refl).aside hL, ?_, nL1, upd_same, SI.j0 _ _, by rw [List.append_nil]; exact eg⟩, ?_⟩
      · rw [List.append_nil]; exact hr1.more hL
      rintro i k H' ⟨rfl, hi, m', t, acc, u, n', hr', nL, eL, jj, er⟩
      have qj := jw m' H' t n' hr' i
      by_cases hlt : i < ds.length
      · have ed : ds[i]? = some ds[i] := List.getElem?_eq_getElem hlt
        obtain ⟨go, yl⟩ := qj.1 _ ed
        rw [List.drop_eq_getElem_cons hlt] at er
        unfold lcGo at er
        refine .inr ⟨go, fun H'' => ∃ m' r acc u, Nx m1 H1 m' H'' ∧ HR (GO X tb) m' (hs1 ++ r) H'' ∧ L ∉ m' ∧ H'' L = some (S.ho L u) ∧ SI.J u acc.reverse H'' m' ∧ lcGo g c f (wipeE ρ vs) (ds.drop (i + 1)) (hs1 ++ r) acc = some (xs, hs2),
          fun H'' h => ⟨ds.length - (i + 1), by omega, rfl, hlt, h⟩, fun x H2 y => ?_⟩
        obtain ⟨n2, hr2, rx⟩ := yl x H2 y
        split at er
        · rename_i ρ2 e2
          refine ⟨ds[i], wipeE ρ vs, hs1 ++ t, m', (((sl1.nx hr1 n').nx hr' n2).wipe vs), hr2, rx, ρ2, e2, fun σ2 sl2 off => ?_⟩
          refine ⟨off.wipe hts, ?_⟩
          refine ⟨ρ2, hs1 ++ t, m', sl2, hr2, ?_⟩
          obtain ⟨eL2, _⟩ := n2.off eL nL S.nt.2.2.1
          have j2 := SI.jn hr' n2 jj
          split at er
          · rename_i hs3 e3
            obtain ⟨t3, rfl⟩ := qc.q _ _ _ _ e3
            refine ⟨true, _, e3, fun H3 m3 n3 hr3 => iteT ⟨ρ2, _, m3, sl2.nx hr2 n3, hr3, ?_⟩⟩
            split at er
            · rename_i x1 hs4 e4
              obtain ⟨t4, rfl⟩ := qf.q _ _ _ _ e4
              refine ⟨x1, _, e4, fun yv H4 m4 n4 hr4 ry => ?_⟩
              have n24 := n3.trans n4
              obtain ⟨eL4, nL4⟩ := n24.off eL2 nL S.nt.2.2.1
              have j4 := SI.jn hr2 n24 j2
              obtain ⟨t', et⟩ := lcGo_pre er
              simp only at et
              have ex : xs = acc.reverse ++ x1 :: t' := by rw [et, List.reverse_cons, List.append_assoc]; rfl
              refine ⟨u, eL4, am (fun u' j5 => ?_) (SI.jx ex j4 ry)⟩
              obtain ⟨hr6, go6⟩ := hr4.asideG (u' := S.ho L u') eL4 nL4 S.nt.1 S.nt.2.1 S.nt.2.2.1 S.nt.2.2.2
              refine ⟨m4, t ++ t3 ++ t4, x1 :: acc, u', ((n'.trans n2).trans n24).aside hL, ?_, nL4, upd_same, ?_, ?_⟩
              · have e5 : hs1 ++ (t ++ t3 ++ t4) = hs1 ++ t ++ t3 ++ t4 := by simp only [List.append_assoc]
                rw [e5]; exact hr6
              · rw [List.reverse_cons]; exact SI.ja hr4 eL4 nL4 j5
              · have e5 : hs1 ++ (t ++ t3 ++ t4) = hs1 ++ t ++ t3 ++ t4 := by simp only [List.append_assoc]
                rw [e5]; exact er
            · cases er
          · rename_i hs3 e3
            obtain ⟨t3, rfl⟩ := qc.q _ _ _ _ e3
            refine ⟨false, _, e3, fun H3 m3 n3 hr3 => iteF ?_⟩
            obtain ⟨eL3, nL3⟩ := n3.off eL2 nL S.nt.2.2.1
            refine ⟨m3, t ++ t3, acc, u, (n'.trans n2).trans n3, ?_, nL3, eL3, SI.jn hr2 n3 j2, ?_⟩
            · rw [← List.append_assoc]; exact hr3
            · rw [← List.append_assoc]; exact er
          · cases er
        · cases er
      · have ei : i = ds.length := by omega
        subst ei
        rw [List.drop_length] at er
        cases er
        refine .inl ⟨qj.2 (Nat.le_refl _), ?_⟩
        refine q L u H' m' (n1.trans n') hr' nL ?_ eL jj
        cases z : H L with
        | none => rfl
        | some o => exact absurd hL (n1.there L (by rw [z]; simp))
    · cases ee
  · cases ee
end

/-! ### ascending lists without repeats -/
def insG {α : Type} (lt : α → α → Bool) (x : α) : List α → List α
  | [] => [x]
  | y :: r => match lt x y with
    | true => x :: y :: r
    | false => match lt y x with
      | true => y :: insG lt x r
      | false => y :: r
def srtU {α : Type} (lt : α → α → Bool) : List α → List α → List α
  | acc, [] => acc
  | acc, x :: r => srtU lt (insG lt x acc) r
structure Tot {α : Type} (lt : α → α → Bool) : Prop where
  irr : ∀ x, lt x x = false
  tr : ∀ x y z, lt x y = true → lt y z = true → lt x z = true
  tri : ∀ x y, lt x y = false → lt y x = false → x = y
section
variable {α : Type} {lt : α → α → Bool}
abbrev Asc (lt : α → α → Bool) (l : List α) : Prop := l.Pairwise fun a b => lt a b = true
theorem insG_mem (T : Tot lt) (x : α) : ∀ (l : List α) (z : α), z ∈ insG lt x l ↔ z = x ∨ z ∈ l
  | [], z => by simp [insG]
  | y :: r, z => by
    unfold insG
    split
    · simp
    · rename_i h1
      split
      · rw [List.mem_cons, insG_mem T x r z, List.mem_cons]
        constructor
        · rintro (h | h | h)
          · exact .inr (.inl h)
          · exact .inl h
          · exact .inr (.inr h)
        · rintro (h | h | h)
          · exact .inr (.inl h)
          · exact .inl h
          · exact .inr (.inr h)
      · rename_i h2
        have e := T.tri x y h1 h2
        subst e
        simp
theorem insG_asc (T : Tot lt) (x : α) : ∀ (l : List α), Asc lt l → Asc lt (insG lt x l)
  | [], _ => by simp [insG, Asc]
  | y :: r, h => by
    obtain ⟨h1, h2⟩ := List.pairwise_cons.mp h
    unfold insG
    split
    · rename_i e
      refine List.pairwise_cons.mpr ⟨fun z hz => ?_, h⟩
      rcases List.mem_cons.mp hz with rfl | hz
      · exact e
      · exact T.tr _ _ _ e (h1 z hz)
    · split
      · rename_i e
        refine List.pairwise_cons.mpr ⟨fun z hz => ?_, insG_asc T x r h2⟩
        rcases (insG_mem T x r z).mp hz with rfl | hz
        · exact e
        · exact h1 z hz
      · exact h
theorem insG_len (T : Tot lt) [DecidableEq α] (x : α) : ∀ (l : List α), Asc lt l → (insG lt x l).length = if x ∈ l then l.length else l.length + 1
  | [], _ => by simp [insG]
  | y :: r, h => by
    obtain ⟨h1, h2⟩ := List.pairwise_cons.mp h
    unfold insG
    split
    · rename_i e
      have n1 : x ∉ y :: r := fun hz => by
        rcases List.mem_cons.mp hz with rfl | hz
        · rw [T.irr] at e; cases e
        · have := T.tr _ _ _ e (h1 x hz)
          rw [T.irr] at this; cases this
      rw [if_neg n1]; rfl
    · rename_i e1
      split
      · rename_i e
        have ne : x ≠ y := fun z => by rw [z, T.irr] at e; cases e
        rw [List.length_cons, insG_len T x r h2]
        by_cases hm : x ∈ r
        · rw [if_pos hm, if_pos (List.mem_cons_of_mem _ hm)]; rfl
        · rw [if_neg hm, if_neg (fun z => (List.mem_cons.mp z).elim ne hm)]; rfl
      · rename_i e2
        have e := T.tri x y e1 e2
        subst e
        rw [if_pos List.mem_cons_self]
theorem srtU_mem (T : Tot lt) : ∀ (l acc : List α) (z : α), z ∈ srtU lt acc l ↔ z ∈ acc ∨ z ∈ l
  | [], acc, z => by simp [srtU]
  | x :: r, acc, z => by
    unfold srtU
    rw [srtU_mem T r, insG_mem T, List.mem_cons]
    constructor
    · rintro ((h | h) | h)
      · exact .inr (.inl h)
      · exact .inl h
      · exact .inr (.inr h)
    · rintro (h | h | h)
      · exact .inl (.inr h)
      · exact .inl (.inl h)
      · exact .inr h
theorem srtU_asc (T : Tot lt) : ∀ (l acc : List α), Asc lt acc → Asc lt (srtU lt acc l)
  | [], acc, h => h
  | x :: r, acc, h => srtU_asc T r _ (insG_asc T x acc h)
theorem srtU_snoc : ∀ (l acc : List α) (x : α), srtU lt acc (l ++ [x]) = insG lt x (srtU lt acc l)
  | [], acc, x => rfl
  | y :: r, acc, x => srtU_snoc r _ x
theorem asc_eq (T : Tot lt) : ∀ {a b : List α}, Asc lt a → Asc lt b → (∀ x, x ∈ a ↔ x ∈ b) → a = b
  | [], [], _, _, _ => rfl
  | [], y :: b, _, _, h => absurd ((h y).mpr List.mem_cons_self) (by simp)
  | x :: a, [], _, _, h => absurd ((h x).mp List.mem_cons_self) (by simp)
  | x :: a, y :: b, ha, hb, h => by
    obtain ⟨a1, a2⟩ := List.pairwise_cons.mp ha
    obtain ⟨b1, b2⟩ := List.pairwise_cons.mp hb
    have e : x = y := by
      rcases List.mem_cons.mp ((h x).mp List.mem_cons_self) with e | hx
      · exact e
      rcases List.mem_cons.mp ((h y).mpr List.mem_cons_self) with e | hy
      · exact e.symm
      have := T.tr _ _ _ (a1 y hy) (b1 x hx)
      rw [T.irr] at this; cases this
    subst e
    refine congrArg (x :: ·) (asc_eq T a2 b2 fun z => ⟨fun hz => ?_, fun hz => ?_⟩)
    · rcases List.mem_cons.mp ((h z).mp (List.mem_cons_of_mem _ hz)) with e | q
      · have := a1 z hz
        rw [e, T.irr] at this; cases this
      · exact q
    · rcases List.mem_cons.mp ((h z).mpr (List.mem_cons_of_mem _ hz)) with e | q
      · have := b1 z hz
        rw [e, T.irr] at this; cases this
      · exact q
end
def ltI : Int → Int → Bool := fun i j => decide (i < j)
theorem tot_I : Tot ltI := ⟨fun x => decide_eq_false (Int.lt_irrefl x), fun x y z h1 h2 => decide_eq_true (Int.lt_trans (of_decide_eq_true h1) (of_decide_eq_true h2)), fun x y h1 h2 => by
  have a := of_decide_eq_false h1
  have b := of_decide_eq_false h2
  omega⟩
def ltL : List Int → List Int → Bool
  | _, [] => false
  | [], _ :: _ => true
  | i :: a, j :: b => match intEq i j with
    | true => ltL a b
    | false => decide (i < j)
theorem intEq_iff {i j : Int} : intEq i j = true ↔ i = j := by rw [intEq_beq, beq_iff_eq]
theorem intEq_no {i j : Int} (h : intEq i j = false) : i ≠ j := fun z => by
  rw [intEq_iff.mpr z] at h; cases h
theorem ltL_irr : ∀ x, ltL x x = false
  | [] => rfl
  | i :: a => by
    unfold ltL
    split
    · exact ltL_irr a
    · rename_i e; exact absurd rfl (intEq_no e)
theorem ltL_tr : ∀ x y z, ltL x y = true → ltL y z = true → ltL x z = true
  | x, y, [], h1, h2 => by cases y <;> simp [ltL] at h2
  | x, [], _ :: _, h1, h2 => by cases x <;> simp [ltL] at h1
  | [], y :: b, z :: c, h1, h2 => by simp [ltL]
  | x :: a, y :: b, z :: c, h1, h2 => by
    unfold ltL at h1 h2 ⊢
    split at h1
    · rename_i e1
      have e1' := intEq_iff.mp e1
      subst e1'
      split at h2
      · rename_i e2
        exact ltL_tr a b c h1 h2
      · rename_i e2
        exact h2
    · rename_i e1
      split at h2
      · rename_i e2
        have e2' := intEq_iff.mp e2
        subst e2'
        rw [e1]
        exact h1
      · rename_i e2
        have a1 := of_decide_eq_true h1
        have a2 := of_decide_eq_true h2
        split
        · rename_i e3
          have := intEq_iff.mp e3
          omega
        · exact decide_eq_true (by omega)
theorem ltL_tri : ∀ x y, ltL x y = false → ltL y x = false → x = y
  | [], [], _, _ => rfl
  | [], y :: b, h1, h2 => by simp [ltL] at h1
  | x :: a, [], h1, h2 => by simp [ltL] at h2
  | x :: a, y :: b, h1, h2 => by
    unfold ltL at h1 h2
    split at h1
    · rename_i e1
      have e1' := intEq_iff.mp e1
      subst e1'
      rw [e1] at h2
      rw [ltL_tri a b h1 h2]
    · rename_i e1
      have n1 := intEq_no e1
      split at h2
      · rename_i e2
        exact absurd (intEq_iff.mp e2).symm n1
      · have a1 := of_decide_eq_false h1
        have a2 := of_decide_eq_false h2
        omega
theorem tot_L : Tot ltL := ⟨ltL_irr, ltL_tr, ltL_tri⟩
theorem ltL_code {B : Int} : ∀ {a b : List Int}, a.length = b.length → TS.Bd B a → TS.Bd B b → (ltL a b = true ↔ TS.code B a < TS.code B b)
  | [], [], _, _, _ => by simp [ltL, TS.code]
  | [], _ :: _, h, _, _ => by simp at h
  | _ :: _, [], h, _, _ => by simp at h
  | x :: a, y :: b, h, ha, hb => by
    have hl : a.length = b.length := by simpa using h
    unfold ltL
    split
    · rename_i e
      have e' := intEq_iff.mp e
      subst e'
      rw [TS.code_same hl]
      exact ltL_code hl ha.tail hb.tail
    · rename_i e
      have n := intEq_no e
      constructor
      · intro hlt
        exact TS.code_lt hl ha.tail hb.tail (of_decide_eq_true hlt)
      · intro hc
        by_cases q : x < y
        · exact decide_eq_true q
        · have := TS.code_lt hl.symm hb.tail ha.tail (show y < x by omega)
          omega
end Mir

/-! MirR: sorted and len of a set comprehension; sorted of a list. -/
namespace Mir
open PySem PySem.Spec PyProof.Rows L2

section
variable {X : Cx} {tb : TBs}
/-! ### ints -/
theorem skI_am {P : Program} {w : World} {K : PySem.W.Frag} {A : Around} {v : V} {u : (skI P w K A).U} {H : Hp} {k k' : (skI P w K A).U → Prop} (i : ∀ u', k u' → k' u') (h : (skI P w K A).adds v u H k) : (skI P w K A).adds v u H k' := by
  obtain ⟨z, a, b, c⟩ := h
  exact ⟨z, a, b, i _ c⟩
def JI (u : (Int → Bool) × Nat) (acc : List D) : Prop := ∃ ns : List Int, acc = ns.map D.int ∧ (∀ k, u.1 k = true ↔ k ∈ ns) ∧ u.2 = (srtU ltI [] ns).length
theorem int_inj : ∀ {a b : List Int}, a.map D.int = b.map D.int → a = b
  | [], [], _ => rfl
  | [], _ :: _, h => by simp at h
  | _ :: _, [], h => by simp at h
  | x :: a, y :: b, h => by
    simp only [List.map_cons, List.cons.injEq, D.int.injEq] at h
    rw [h.1, int_inj h.2]
theorem JI.len {u : (Int → Bool) × Nat} {acc : List D} {ns : List Int} (h : JI u acc) (e : acc = ns.map D.int) : (∀ k, u.1 k = true ↔ k ∈ ns) ∧ u.2 = (srtU ltI [] ns).length := by
  obtain ⟨ms, e1, h1, h2⟩ := h
  have q : ms = ns := by
    have := e1.symm.trans e
    exact int_inj this
  subst q
  exact ⟨h1, h2⟩
theorem srtU_le {α : Type} {lt : α → α → Bool} : ∀ (l acc : List α), (srtU lt acc l).length ≤ acc.length + l.length
  | [], acc => by simp [srtU]
  | x :: r, acc => by
    have h1 : ∀ l : List α, (insG lt x l).length ≤ l.length + 1 := fun l => by
      induction l with
      | nil => simp [insG]
      | cons y l ih =>
        unfold insG
        split
        · simp
        · split
          · simp; exact ih
          · simp
    have := srtU_le (lt := lt) r (insG lt x acc)
    have := h1 acc
    unfold srtU
    rw [List.length_cons]
    omega
def sjI (X : Cx) (tb : TBs) (ns : List Int) (hn : ns.length + 1 < scanBound) : SJ X tb (skI X.prog X.w X.K X.A) (ns.map D.int) where
  J := fun u acc _ _ => JI u acc
  j0 := fun H m => ⟨[], rfl, fun k => by simp [skI], rfl⟩
  jn := fun _ _ h => h
  ja := fun _ _ _ h => h
  jx := fun {u acc x v H m t} e j r => by
    obtain ⟨ms, rfl, h1, h2⟩ := j
    have hx : x ∈ ns.map D.int := by rw [e]; simp
    obtain ⟨i, _, rfl⟩ := List.mem_map.mp hx
    cases r
    have hl : ms.length ≤ ns.length := by
      have := congrArg List.length e
      simp at this
      omega
    have hs := srtU_le (lt := ltI) ms []
    rw [List.length_nil] at hs
    refine ⟨i, rfl, by omega, ms ++ [i], by simp, fun k => ?_, ?_⟩
    · simp only [Bool.or_eq_true, decide_eq_true_eq, List.mem_append, List.mem_singleton, h1]
    · rw [srtU_snoc, insG_len tot_I _ _ (srtU_asc tot_I _ _ List.Pairwise.nil)]
      have hm : i ∈ srtU ltI [] ms ↔ u.1 i = true := by rw [srtU_mem tot_I, h1]; simp
      by_cases q : u.1 i = true
      · simp only [q, if_true]
        rw [if_pos (hm.mpr q)]; exact h2
      · rw [if_neg (fun z => q (hm.mp z))]
        simp only [q, if_false, Bool.false_eq_true]
        rw [h2]
def mSortSI (s : IM) (g : GM) (c : BM) (f : EM) (vs : List Nat) : EM := fun ρ hs => match mScIn s g c f vs ρ hs with
  | some (xs, hs2) => match intsOf xs with
    | some ns => match Nat.blt (ns.length + 1) 4096, srtU ltI [] ns with
      | true, l => match Nat.blt l.length 64 with
        | true => some (.ref hs2.length, hs2 ++ [.lst (l.map D.int)])
        | false => none
      | false, _ => none
    | none => none
  | none => none
def mLenSI (s : IM) (g : GM) (c : BM) (f : EM) (vs : List Nat) : EM := fun ρ hs => match mScIn s g c f vs ρ hs with
  | some (xs, hs2) => match intsOf xs with
    | some ns => match Nat.blt (ns.length + 1) 4096 with
      | true => some (.int (srtU ltI [] ns).length, hs2)
      | false => none
    | none => none
  | none => none
theorem mScIn_grows {s : IM} {g : GM} {c : BM} {f : EM} {vs : List Nat} [a : QI s] [qc : QB c] [qf : QE f] {ρ : En} {hs hs' : Hs} {xs : List D} (h : mScIn s g c f vs ρ hs = some (xs, hs')) : Grows hs hs' := by
  unfold mScIn at h
  split at h
  · rename_i e1
    split at h
    · rename_i e2
      cases h
      exact (a.q _ _ _ _ e1).trans (lcGo_grows e2)
    · cases h
  · cases h
instance {s : IM} {g : GM} {c : BM} {f : EM} {vs : List Nat} [a : QI s] [qc : QB c] [qf : QE f] : QE (mSortSI s g c f vs) := ⟨fun ρ hs d hs' h => by
  unfold mSortSI at h
  split at h
  · rename_i e1
    split at h
    · split at h
      · split at h
        · cases h
          exact (mScIn_grows e1).trans .one
        · cases h
      · cases h
    · cases h
  · cases h⟩
instance {s : IM} {g : GM} {c : BM} {f : EM} {vs : List Nat} [a : QI s] [qc : QB c] [qf : QE f] : QE (mLenSI s g c f vs) := ⟨fun ρ hs d hs' h => by
  unfold mLenSI at h
  split at h
  · rename_i e1
    split at h
    · split at h
      · cases h
        exact mScIn_grows e1
      · cases h
    · cases h
  · cases h⟩
theorem asc_int {ns : List Int} (h : ns.Pairwise (· < ·)) : Asc ltI ns := h.imp fun {a b} z => decide_eq_true z
theorem cr_lenSet : CallR X (.builtin "len") (fun vs H Q => ∃ (a : Addr) (S : Int → Bool) (n : Nat), vs = [V.ref a] ∧ H a = some (SetO X.w a S n) ∧ Q (.int n) H) := by
  intro pins s σ H vs us Q I r h
  obtain ⟨a, S, n, rfl, ha, q⟩ := h
  rw [Vals.ref1 r]
  obtain ⟨o, es, ep, t, ho, hex, hd, g, nd, hm, hb, hf, hn, hr, hl⟩ := setO_get I ha
  exact call_len_set ho hex hd hf (by unfold scanBound at hb; omega) ⟨.int n, H, I.tok _, ⟨_, by rw [hn]⟩, q⟩
section
variable {elt tg iter : Expr} {ifs : List Expr} {scope : Scope} {own : List (Str × Nat)} {pos p q : Pos} {s : IM} {ts : List Nat} {g : GM} {c : BM} {f : EM}
/-- sorted({elt for ..}), ints -/
theorem m_sortSI [qc : QB c] [qf : QE f] {k : Nat} (room : Room k X.A) (hg : Gl X "sorted") (hm : X.mg "sorted" = none) (hc : X.calm = true) (hN : X.N.Nodup) (hi : PI X tg iter (TIW (GO X tb) s)) (ok : BlkOk X.N X.env.scope scope own)
    (hgt : ∀ (s : Shared) (H : Hp) (C : Addr) (cl : List (Str × Addr)) (fp : List Addr), PG (X.blk s H scope (compEnvC scope cl C X.env) fp) tg (TGM (GO X tb) ts g)) (ht : ∀ (s : Shared) (H : Hp) (C : Addr) (cl : List (Str × Addr)) (fp : List Addr), PTs (X.blk s H scope (compEnvC scope cl C X.env) fp) ifs (TB (GO X tb) c))
    (he : ∀ (s : Shared) (H : Hp) (C : Addr) (cl : List (Str × Addr)) (fp : List Addr), PE (X.blk s H scope (compEnvC scope cl C X.env) fp) elt (TM (GO X tb) f)) (hts : ∀ i ∈ ts, i ∈ own.map (·.2) := by decide) (hs : ∀ x, foldedSetIterable iter X.env x = pure x := by intro _; rfl)
    (na : starEach [Expr.SetComp elt [⟨tg, iter, ifs, 0⟩] scope q] X.env = (false, eval (Expr.SetComp elt [⟨tg, iter, ifs, 0⟩] scope q) X.env) :: starEach [] X.env := by rfl) :
    PE X (.Call (.Name "sorted" p) [.SetComp elt [⟨tg, iter, ifs, 0⟩] scope q] [] pos) (TM (GO X tb) (mSortSI s g c f (own.map (·.2)))) := by
  refine (pe_callB (cr_sortedSet hc) hg hm (by rfl) (pa_cons (pe_scG (skI X.prog X.w X.K X.A) hc hN hi ok hgt ht he hs) pa_nil na) (by decide) (by decide) na rfl).imp fun σ H Q h => ?_
  unfold tCB tCons tNil
  obtain ⟨ρ, hs1, m, sl, hr, r, hs', ee, fin⟩ := h
  unfold mSortSI at ee
  split at ee
  · rename_i xs hs2 e1
    split at ee
    · rename_i ns en
      split at ee
      · rename_i l hb
        split at ee
        · rename_i h64
          cases ee
          have ex := intsOf_eq en
          subst ex
          refine tm_scG (sjI X tb ns (by have := Nat.le_of_ble_eq_true (show Nat.ble (ns.length + 1 + 1) 4096 = true from hb); unfold scanBound; omega)) (fun {v u H k k'} i h => skI_am i h) hts sl hr e1 fun D u H' m' n' hr' nD h0 eD j => ?_
          obtain ⟨j1, j2⟩ := JI.len j rfl
          refine ⟨D, u.1, u.2, rfl, eD, by rw [j2]; exact Nat.le_of_ble_eq_true h64, fun ns' p' pw hmem hl hp => ?_⟩
          have e2 : ns' = srtU ltI [] ns := asc_eq tot_I (asc_int pw) (srtU_asc tot_I _ _ List.Pairwise.nil) fun z => by rw [hmem, j1, srtU_mem tot_I]; simp
          subst e2
          refine fin _ _ (m' ++ [p']) (n'.trans (.alloc hr' hp)) (hr'.alloc hp ⟨_, upd_same, reps_ints _⟩) (Rep.last hr')
        · cases ee
      · cases ee
    · cases ee
  · cases ee
/-- len({elt for ..}), ints -/
theorem m_lenSI [qc : QB c] [qf : QE f] {k : Nat} (room : Room k X.A) (hg : Gl X "len") (hm : X.mg "len" = none) (hc : X.calm = true) (hN : X.N.Nodup) (hi : PI X tg iter (TIW (GO X tb) s)) (ok : BlkOk X.N X.env.scope scope own)
    (hgt : ∀ (s : Shared) (H : Hp) (C : Addr) (cl : List (Str × Addr)) (fp : List Addr), PG (X.blk s H scope (compEnvC scope cl C X.env) fp) tg (TGM (GO X tb) ts g)) (ht : ∀ (s : Shared) (H : Hp) (C : Addr) (cl : List (Str × Addr)) (fp : List Addr), PTs (X.blk s H scope (compEnvC scope cl C X.env) fp) ifs (TB (GO X tb) c))
    (he : ∀ (s : Shared) (H : Hp) (C : Addr) (cl : List (Str × Addr)) (fp : List Addr), PE (X.blk s H scope (compEnvC scope cl C X.env) fp) elt (TM (GO X tb) f)) (hts : ∀ i ∈ ts, i ∈ own.map (·.2) := by decide) (hs : ∀ x, foldedSetIterable iter X.env x = pure x := by intro _; rfl)
    (na : starEach [Expr.SetComp elt [⟨tg, iter, ifs, 0⟩] scope q] X.env = (false, eval (Expr.SetComp elt [⟨tg, iter, ifs, 0⟩] scope q) X.env) :: starEach [] X.env := by rfl) :
    PE X (.Call (.Name "len" p) [.SetComp elt [⟨tg, iter, ifs, 0⟩] scope q] [] pos) (TM (GO X tb) (mLenSI s g c f (own.map (·.2)))) := by
  refine (pe_callB cr_lenSet hg hm (by rfl) (pa_cons (pe_scG (skI X.prog X.w X.K X.A) hc hN hi ok hgt ht he hs) pa_nil na) (by decide) (by decide) na rfl).imp fun σ H Q h => ?_
  unfold tCB tCons tNil
  obtain ⟨ρ, hs1, m, sl, hr, r, hs', ee, fin⟩ := h
  unfold mLenSI at ee
  split at ee
  · rename_i xs hs2 e1
    split at ee
    · rename_i ns en
      split at ee
      · rename_i hb
        cases ee
        have ex := intsOf_eq en
        subst ex
        refine tm_scG (sjI X tb ns (by have := Nat.le_of_ble_eq_true (show Nat.ble (ns.length + 1 + 1) 4096 = true from hb); unfold scanBound; omega)) (fun {v u H k k'} i h => skI_am i h) hts sl hr e1 fun D u H' m' n' hr' nD h0 eD j => ?_
        obtain ⟨j1, j2⟩ := JI.len j rfl
        exact ⟨D, u.1, u.2, rfl, eD, by rw [j2]; exact fin _ _ m' n' hr' (.int _)⟩
      · cases ee
    · cases ee
  · cases ee
end
end
end Mir

/-! MirS: sorted of a set comprehension of tuples of ints. -/
namespace L2
open PySem PySem.Spec PyProof.Rows
section
variable {P : Program} {w : World} {A : Around} {E : Value → Shared → Prop} {s : Shared} {a : Addr} {es : Array (Int × Value)} {ep : Nat} {t : SetTable}
/-- sorted of a set with at most one member -/
theorem sorted_setOne {x : Addr} {k : List Int} {Q : Value → Shared → Prop} (R : SetTR P w s.heap a [(x, k)] es ep t) (hh : A.handled = none)
    (hQ : ∀ s' p (out : Array Value) (c : Nat), (∀ b o, s.heap.get? b = some o → s'.heap.get? b = some o) → s'.gens = s.gens → s'.os = s.os → s.heap.objs.size ≤ p →
      s'.heap.get? p = some (seqObj "list" out c) → out.toList = [Value.ref x] → Q (.ref p) s') :
    wpAny (model P w) A (call (.builtin "sorted") [.ref a]) Q E s := by
  obtain ⟨o, ho, hex, hd⟩ := R.ob
  have hsz := R.size
  refine Calls.call_function_entry kind_sorted plain_sorted entry_sorted (args_sorted1 _) ?_
  unfold Builtin.«sorted»
  refine wpAny_bind (m := checkCount "sorted" 1 1 _) (wpAny_pure ?_)
  refine wpAny_bind (collect_set (A := A.in1) hh ⟨o, ho, hex.1, hd⟩ R.fits (by unfold scanBound; rw [hsz]; show 1 < 4096; decide) R.tab.ris R.led fun s1 vs k1 hz g1 o1 pm => ?_)
  have hes : es.toList.map (·.2) = [Value.ref x] := by
    rw [R.rows] <;> rfl
  rw [hes] at pm
  have ev : vs = [Value.ref x] := List.perm_singleton.mp pm
  subst ev
  refine wpAny_bind (wpAny_newList ?_ (by rw [sizeLine_eq]; show 1 ≤ _; decide))
  have hoL : (s1.heap.push (seqObj "list" [Value.ref x].toArray 0)).get? s1.heap.objs.size = some (seqObj "list" [Value.ref x].toArray 0) := Heap.get?_push_size _ rfl
  refine wpAny_bind (wpAny_holding (wpAny_call_entry slot_list_sort ⟨_, hoL, rfl⟩ entry_list_sort (SrtO.list_sort_ord (ltv := fun _ _ => false) ⟨fun _ _ h => (by cases h), fun _ _ _ _ _ => rfl⟩ hoL (by rw [sizeLine_eq]; show 1 ≤ _; decide) (fun h2 => absurd (show 2 ≤ 1 from h2) (by decide)) fun out a1 a2 => ⟨_, rfl, ?_⟩) (args_list_sort _)))
  obtain ⟨c, hc⟩ := sortedHeap_at (vs := [Value.ref x]) (out := out.toArray) hoL
  have eo : out = [Value.ref x] := List.perm_singleton.mp a2.perm
  refine wpAny_pure ⟨_, rfl, hQ _ s1.heap.objs.size out.toArray c (fun b u e => ?_) g1 o1 hz hc (by simpa using eo)⟩
  have q := k1 b u e
  have hlt := Heap.lt_size q
  show (sortedHeap (s1.heap.push (seqObj "list" [Value.ref x].toArray 0)) s1.heap.objs.size [Value.ref x] out.toArray).get? b = some u
  rw [sortedHeap_old (Nat.ne_of_lt hlt) (by rw [size_push']; exact Nat.lt_succ_of_lt hlt)]
  exact Heap.get?_push_of_some _ q
end
section
variable {X : Cx}
def rSortedT1 (K : PySem.W.Frag) (P : Program) (w : World) : List V → Hp → VK → Prop := fun vs H Q => ∃ (a x : Addr) (k : List Int), vs = [V.ref a] ∧ H a = some (SetTO P w a [(x, k)]) ∧ SqT K H x (k.map V.int) ∧
  ∀ (p : Addr), H p = none → Q (.ref p) (upd H p (.lst [V.ref x]))
theorem cr_sortedT1 (hc : X.calm = true) : CallR X (.builtin "sorted") (rSortedT1 X.K X.prog X.w) := by
  intro pins s σ H vs us Q I r h
  obtain ⟨a, x, k, rfl, ha, hk, q⟩ := h
  have R0 : SetT0 X.prog X.w s.heap a [(x, k)] := (I.hok a _ ha).1
  obtain ⟨es, ep, t, R⟩ := R0.full fun p hp => by
    rw [List.mem_singleton.mp hp]
    exact I.isT hk
  rw [Vals.ref1 r]
  refine sorted_setOne R (I.ok.hd hc) fun s' p out c k g o hp hg hout => ?_
  have hn : H p = none := I.hok.fresh hp
  have hv : Vals [V.ref x] out.toList := by rw [hout]; exact .cons rfl .nil
  have J : Inv X pins σ (upd H p (.lst [V.ref x])) { s with heap := s'.heap, gens := s'.gens, drawn := s'.drawn, toks := s'.toks } :=
    I.call (ch := []) (Un.laid k hp hn) (I.hok.laid k hp ⟨by rw [sizeLine_eq]; show 1 ≤ _; decide, out.toList, c, hv, hg⟩) (by rw [g]; exact I.bare) (fun _ z => nomatch z)
  have e : s' = { s with heap := s'.heap, gens := s'.gens, drawn := s'.drawn, toks := s'.toks } := by
    cases s'
    cases s
    cases o
    rfl
  rw [e]
  exact ⟨.ref p, _, J, rfl, q p hn⟩
end
end L2
namespace Mir
open PySem PySem.Spec PyProof.Rows L2

def tupsOf : List D → Option (List (List Int))
  | [] => some []
  | .tup ds :: r => match intsOf ds with
    | some ns => match tupsOf r with
      | some l => some (ns :: l)
      | none => none
    | none => none
  | _ => none
def tI (ns : List Int) : D := .tup (ns.map D.int)
theorem tupsOf_eq : ∀ {ds : List D} {l : List (List Int)}, tupsOf ds = some l → ds = l.map tI
  | [], _, h => by cases h; rfl
  | .tup es :: r, l, h => by
    unfold tupsOf at h
    split at h
    · rename_i ns e
      split at h
      · rename_i l' e'
        cases h
        rw [tupsOf_eq e', intsOf_eq e]; rfl
      · cases h
    · cases h
  | .non :: _, _, h => by simp [tupsOf] at h
  | .bl _ :: _, _, h => by simp [tupsOf] at h
  | .str _ :: _, _, h => by simp [tupsOf] at h
  | .int _ :: _, _, h => by simp [tupsOf] at h
  | .fro _ :: _, _, h => by simp [tupsOf] at h
  | .tuf _ :: _, _, h => by simp [tupsOf] at h
  | .obj _ _ :: _, _, h => by simp [tupsOf] at h
  | .ref _ :: _, _, h => by simp [tupsOf] at h
theorem tI_inj : ∀ {a b : List (List Int)}, a.map tI = b.map tI → a = b
  | [], [], _ => rfl
  | [], _ :: _, h => by simp at h
  | _ :: _, [], h => by simp at h
  | x :: a, y :: b, h => by
    simp only [List.map_cons, List.cons.injEq, tI, D.tup.injEq] at h
    rw [int_inj h.1, tI_inj h.2]
section
variable {X : Cx} {tb : TBs}
theorem skT_am {P : Program} {w : World} {K : PySem.W.Frag} {A : Around} {hu : A.units + 64 < cLine} {v : V} {u : (skT P w K A hu).U} {H : Hp} {k k' : (skT P w K A hu).U → Prop} (i : ∀ u', k u' → k' u') (h : (skT P w K A hu).adds v u H k) : (skT P w K A hu).adds v u H k' := by
  obtain ⟨a, is, h1, h2, h3, h4, h5, h6⟩ := h
  exact ⟨a, is, h1, h2, h3, h4, fun q => i _ (h5 q), fun L q r => i _ (h6 L q r)⟩
structure JT (K : PySem.W.Frag) (L : List (Addr × List Int)) (acc : List D) (H : Hp) (m : List Addr) : Prop where
  sq : ∀ p ∈ L, H p.1 = some (.tup (p.2.map V.int))
  nd : (L.map (·.2)).Nodup
  ex : ∃ ns : List (List Int), acc = ns.map tI ∧ ∀ is, is ∈ L.map (·.2) ↔ is ∈ ns
def sjT (X : Cx) (tb : TBs) (hu : X.A.units + 64 < cLine) (ns : List (List Int)) (hn : ∀ ks : List (List Int), ks.Nodup → (∀ k ∈ ks, k ∈ ns) → ks.length + 1 < 64) : SJ X tb (skT X.prog X.w X.K X.A hu) (ns.map tI) where
  J := JT X.K
  j0 := fun H m => ⟨(fun p hp => by cases hp), List.nodup_nil, ⟨[], rfl, fun is => by simp [skT]⟩⟩
  jn := fun hr n h => ⟨fun p hp => n.keep _ _ (h.sq p hp) (hr.no_tup (h.sq p hp)) (fun _ z => by cases z), h.nd, h.ex⟩
  ja := fun {u acc H m hs D u' w'} hr e nD h => by
    refine ⟨fun p hp => ?_, h.nd, h.ex⟩
    have hp' : ∀ b o, H b = some o → (∀ q, o ≠ .ext q) → b ≠ D := fun b o eb q z => by
      rw [z, e] at eb
      exact q _ (Option.some.inj eb).symm
    have h := h.sq p hp
    rw [upd_ne (hp' _ _ h fun q z => by cases z)]; exact h
  jx := fun {u acc x v H m t} e j r => by
    have hx : x ∈ ns.map tI := by rw [e]; simp
    obtain ⟨is, _, rfl⟩ := List.mem_map.mp hx
    obtain ⟨ms, rfl, hm⟩ := j.ex
    cases r with
    | tup hs rx =>
      have ex := rx.ints
      subst ex
      have hsub : ∀ k ∈ (show List (Addr × List Int) from u).map (·.2), k ∈ ns := fun k hk => by
        have h1 := (hm k).mp hk
        have h2 : tI k ∈ ns.map tI := by
          rw [e]
          exact List.mem_append_left _ (List.mem_map.mpr ⟨k, h1, rfl⟩)
        obtain ⟨k', h3, h4⟩ := List.mem_map.mp h2
        have h5 : k' = k := by
          simp only [tI, D.tup.injEq] at h4
          exact int_inj h4
        rw [← h5]; exact h3
      have hlen : List.length (show List (Addr × List Int) from u) + 1 < 64 := by
        have h9 := hn (List.map (fun x => x.2) (show List (Addr × List Int) from u)) j.nd hsub
        rwa [List.length_map] at h9
      refine ⟨_, is, rfl, sqt hs, fun p hp => sqt (j.sq p hp), hlen, fun hin => ⟨j.sq, j.nd, ⟨ms ++ [is], by simp, fun js => ?_⟩⟩, fun L' hin pm => ⟨fun p hp => ?_, ?_, ⟨ms ++ [is], by simp, fun js => ?_⟩⟩⟩
      · rw [hm, List.mem_append, List.mem_singleton]
        exact ⟨.inl, fun z => z.elim id fun z => by rw [z]; exact (hm is).mp hin⟩
      · rcases List.mem_cons.mp (pm.mem_iff.mp hp) with rfl | hp
        · exact hs
        · exact j.sq p hp
      · exact (pm.map (·.2)).nodup_iff.mpr (List.nodup_cons.mpr ⟨hin, j.nd⟩)
      · rw [(pm.map (·.2)).mem_iff, List.mem_append, List.mem_singleton, ← hm]
        exact (List.mem_cons (a := js) (b := is) (l := List.map (·.2) (show List (Addr × List Int) from u))).trans Or.comm
/-- all of the length n, all in 0 .. 63 -/
def okT (n : Nat) : List (List Int) → Bool
  | [] => true
  | a :: r => match Nat.beq a.length n, bd64 a with
    | true, true => okT n r
    | _, _ => false
where bd64 : List Int → Bool
  | [] => true
  | i :: r => match decide (0 ≤ i), decide (i < 64) with
    | true, true => bd64 r
    | _, _ => false
theorem bd64_eq : ∀ {a : List Int}, okT.bd64 a = true → TS.Bd 64 a
  | [], _ => fun m h => by cases h
  | i :: r, h => by
    unfold okT.bd64 at h
    split at h
    · rename_i h1 h2
      intro m hm
      rcases List.mem_cons.mp hm with rfl | hm
      · exact ⟨of_decide_eq_true h1, of_decide_eq_true h2⟩
      · exact bd64_eq h m hm
    · cases h
theorem okT_eq {n : Nat} : ∀ {l : List (List Int)}, okT n l = true → ∀ a ∈ l, a.length = n ∧ TS.Bd 64 a
  | [], _, a, h => by cases h
  | x :: r, h, a, ha => by
    unfold okT at h
    split at h
    · rename_i h1 h2
      rcases List.mem_cons.mp ha with rfl | ha
      · exact ⟨Nat.eq_of_beq_eq_true h1, bd64_eq h2⟩
      · exact okT_eq h a ha
    · cases h
def setTL (nss : List (List Int)) : Option (List D) := match srtU ltL [] nss with
  | [a] => some [tI a]
  | a :: b :: r => match Nat.blt ((a :: b :: r).length + 1) 64, Nat.ble 1 a.length, okT a.length (a :: b :: r) with
    | true, true, true => some ((a :: b :: r).map tI)
    | _, _, _ => none
  | _ => none
theorem nodup_le {α : Type} [BEq α] [LawfulBEq α] : ∀ {l r : List α}, l.Nodup → (∀ x ∈ l, x ∈ r) → l.length ≤ r.length
  | [], _, _, _ => Nat.zero_le _
  | x :: l, r, nd, h => by
    obtain ⟨n1, n2⟩ := List.nodup_cons.mp nd
    have hx := h x List.mem_cons_self
    have ih := nodup_le (l := l) (r := r.erase x) n2 fun y hy => by
      have : y ≠ x := fun z => n1 (z ▸ hy)
      exact (List.mem_erase_of_ne this).mpr (h y (List.mem_cons_of_mem _ hy))
    rw [List.length_erase_of_mem hx] at ih
    have := List.length_pos_of_mem hx
    simp only [List.length_cons]
    omega
theorem set_le {nss l : List (List Int)} (es : srtU ltL [] nss = l) (hb : l.length + 1 < 64) : ∀ ks : List (List Int), ks.Nodup → (∀ k ∈ ks, k ∈ nss) → ks.length + 1 < 64 := fun ks nd h => by
  have := nodup_le (r := l) nd fun k hk => by
    rw [← es, srtU_mem tot_L]
    simpa using h k hk
  omega
def mSortST (s : IM) (g : GM) (c : BM) (f : EM) (vs : List Nat) : EM := fun ρ hs => match mScIn s g c f vs ρ hs with
  | some (xs, hs2) => match tupsOf xs with
    | some nss => match setTL nss with
      | some l => some (.ref hs2.length, hs2 ++ [.lst l])
      | none => none
    | none => none
  | none => none
instance {s : IM} {g : GM} {c : BM} {f : EM} {vs : List Nat} [a : QI s] [qc : QB c] [qf : QE f] : QE (mSortST s g c f vs) := ⟨fun ρ hs d hs' h => by
  unfold mSortST at h
  split at h
  · rename_i e1
    split at h
    · split at h
      · cases h
        exact (mScIn_grows e1).trans .one
      · cases h
    · cases h
  · cases h⟩
theorem asc_code {n : Nat} : ∀ {l : List (List Int)}, (∀ a ∈ l, a.length = n ∧ TS.Bd 64 a) → l.Nodup → l.Pairwise (fun a b => TS.code 64 a ≤ TS.code 64 b) → Asc ltL l
  | [], _, _, _ => List.Pairwise.nil
  | a :: l, h, nd, pw => by
    obtain ⟨n1, n2⟩ := List.nodup_cons.mp nd
    obtain ⟨p1, p2⟩ := List.pairwise_cons.mp pw
    refine List.pairwise_cons.mpr ⟨fun b hb => ?_, asc_code (fun x hx => h x (List.mem_cons_of_mem _ hx)) n2 p2⟩
    obtain ⟨la, ba⟩ := h a List.mem_cons_self
    obtain ⟨lb, bb⟩ := h b (List.mem_cons_of_mem _ hb)
    cases e : ltL a b with
    | true => rfl
    | false =>
      cases e2 : ltL b a with
      | true =>
        have := (ltL_code (lb.trans la.symm) bb ba).mp e2
        have := p1 b hb
        omega
      | false => exact absurd (ltL_tri a b e e2) (fun z => n1 (z ▸ hb))
theorem reps_tI {K : PySem.W.Frag} {H : Hp} {m : List Addr} : ∀ {L : List (Addr × List Int)}, (∀ p ∈ L, H p.1 = some (.tup (p.2.map V.int))) → Reps K H m ((L.map (·.2)).map tI) (L.map fun q => V.ref q.1)
  | [], _ => .nil
  | p :: L, h => .cons (.tup (h p List.mem_cons_self) (reps_ints _)) (reps_tI fun q hq => h q (List.mem_cons_of_mem _ hq))
section
variable {elt tg iter : Expr} {ifs : List Expr} {scope : Scope} {own : List (Str × Nat)} {pos p q : Pos} {s : IM} {ts : List Nat} {g : GM} {c : BM} {f : EM}
/-- sorted({elt for ..}), tuples of ints -/
theorem m_sortST [qc : QB c] [qf : QE f] {k : Nat} (room : Room k X.A) (hg : Gl X "sorted") (hm : X.mg "sorted" = none) (hc : X.calm = true) (hN : X.N.Nodup) (hi : PI X tg iter (TIW (GO X tb) s)) (ok : BlkOk X.N X.env.scope scope own)
    (hgt : ∀ (s : Shared) (H : Hp) (C : Addr) (cl : List (Str × Addr)) (fp : List Addr), PG (X.blk s H scope (compEnvC scope cl C X.env) fp) tg (TGM (GO X tb) ts g)) (ht : ∀ (s : Shared) (H : Hp) (C : Addr) (cl : List (Str × Addr)) (fp : List Addr), PTs (X.blk s H scope (compEnvC scope cl C X.env) fp) ifs (TB (GO X tb) c))
    (he : ∀ (s : Shared) (H : Hp) (C : Addr) (cl : List (Str × Addr)) (fp : List Addr), PE (X.blk s H scope (compEnvC scope cl C X.env) fp) elt (TM (GO X tb) f)) (hts : ∀ i ∈ ts, i ∈ own.map (·.2) := by decide) (hs : ∀ x, foldedSetIterable iter X.env x = pure x := by intro _; rfl)
    (na : starEach [Expr.SetComp elt [⟨tg, iter, ifs, 0⟩] scope q] X.env = (false, eval (Expr.SetComp elt [⟨tg, iter, ifs, 0⟩] scope q) X.env) :: starEach [] X.env := by rfl) :
    PE X (.Call (.Name "sorted" p) [.SetComp elt [⟨tg, iter, ifs, 0⟩] scope q] [] pos) (TM (GO X tb) (mSortST s g c f (own.map (·.2)))) := by
  refine (pe_callB (CallR.or' (cr_sortedT hc) (cr_sortedT1 hc)) hg hm (by rfl) (pa_cons (pe_scG (skT X.prog X.w X.K X.A room.units) hc hN hi ok hgt ht he hs) pa_nil na) (by decide) (by decide) na rfl).imp fun σ H Q h => ?_
  unfold tCB tCons tNil
  obtain ⟨ρ, hs1, m, sl, hr, r, hs', ee, fin⟩ := h
  unfold mSortST at ee
  split at ee
  · rename_i xs hs2 e1
    split at ee
    · rename_i nss en
      split at ee
      · rename_i l el
        cases ee
        have ex := tupsOf_eq en
        subst ex
        unfold setTL at el
        split at el
        · rename_i a es
          cases el
          refine tm_scG (sjT X tb room.units nss (set_le es (by show 1 + 1 < 64; omega))) (fun {v u H k k'} i h => skT_am i h) hts sl hr e1 fun D L H' m' n' hr' nD h0 eD j => ?_
          have hL : ∀ is, is ∈ L.map (·.2) ↔ is = a := fun is => by
            obtain ⟨ms, e2, hm⟩ := j.ex
            have := tI_inj e2
            subst this
            rw [hm]
            have := srtU_mem tot_L nss [] is
            rw [es] at this
            simp at this
            exact this.symm
          obtain ⟨x, eL⟩ : ∃ x, L = [(x, a)] := by
            cases L with
            | nil => exact absurd ((hL a).mpr rfl) (by simp)
            | cons p L =>
              cases L with
              | nil =>
                have := (hL p.2).mp (by simp)
                exact ⟨p.1, by rw [← this]⟩
              | cons q L =>
                have e1 := (hL p.2).mp (by simp)
                have e2 := (hL q.2).mp (by simp)
                have := j.nd
                rw [List.map_cons, List.map_cons, List.nodup_cons] at this
                exact absurd (by rw [e1, e2]; simp) this.1
          subst eL
          have hsq := j.sq (x, a) (by simp)
          refine .inr ⟨D, x, a, rfl, eD, sqt hsq, fun p' hp => ?_⟩
          refine fin _ _ (m' ++ [p']) (n'.trans (.alloc hr' hp)) (hr'.alloc hp ⟨_, upd_same, .cons (.tup ((Nx.alloc hr' hp).keep _ _ hsq (hr'.no_tup hsq) fun _ z => by cases z) (reps_ints _)) .nil⟩) (Rep.last hr')
        · rename_i a b r0 es
          split at el
          · rename_i hb h1 h2
            cases el
            refine tm_scG (sjT X tb room.units nss (set_le es (Nat.le_of_ble_eq_true hb))) (fun {v u H k k'} i h => skT_am i h) hts sl hr e1 fun D L H' m' n' hr' nD h0 eD j => ?_
            have hL : ∀ is, is ∈ L.map (·.2) ↔ is ∈ a :: b :: r0 := fun is => by
              obtain ⟨ms, e2, hm⟩ := j.ex
              have := tI_inj e2
              subst this
              rw [hm, ← es, srtU_mem tot_L]; simp
            have hB := okT_eq h2
            refine .inl ⟨D, L, a.length, 64, rfl, eD, fun p hp => sqt (j.sq p hp), Nat.le_of_ble_eq_true h1, fun p hp => hB p.2 ((hL p.2).mp (List.mem_map.mpr ⟨p, hp, rfl⟩)), fun L' p' pm nd hl pw hp => ?_⟩
            have hsq : ∀ q ∈ L', H' q.1 = some (.tup (q.2.map V.int)) := fun q hq => j.sq q (pm.mem_iff.mp hq)
            have em : L'.map (·.2) = a :: b :: r0 := by
              refine asc_eq tot_L (asc_code (n := a.length) (fun x hx => hB x ?_) nd (List.pairwise_map.mpr pw)) (by rw [← es]; exact srtU_asc tot_L _ _ List.Pairwise.nil) fun x => ?_
              · exact (hL x).mp ((pm.map (·.2)).mem_iff.mp hx)
              · rw [(pm.map (·.2)).mem_iff, hL]
            have nx : Nx m' H' (m' ++ [p']) (upd H' p' (.lst (L'.map fun q => V.ref q.1))) := .alloc hr' hp
            refine fin _ _ (m' ++ [p']) (n'.trans nx) (hr'.alloc hp ⟨_, upd_same, ?_⟩) (Rep.last hr')
            have := reps_tI (K := X.K) (H := upd H' p' (.lst (L'.map fun q => V.ref q.1))) (m := m' ++ [p']) (L := L') fun q hq => nx.keep _ _ (hsq q hq) (hr'.no_tup (hsq q hq)) fun _ z => by cases z
            rw [em] at this
            exact this
          · cases el
        · cases el
      · cases ee
    · cases ee
  · cases ee
end
end
end Mir

/-! MirT: sorted(list, key=lambda x: ..), the keys ints. -/
namespace PySem.W
open PySem PySem.Calls PyProof.Rows
section
variable {prog : Program} {w : World} {A : Around} {E : Value → Shared → Prop} {s : Shared} {a kS : Addr} {vs : List Value} {e1 : Nat} {P : PySem.Fin → Shared → Prop} {ks : List Int}

theorem keyP_data (ks : List Int) : AllAlike (ks.map PyData.int) ∧ Sortable (ks.map PyData.int) ∧ ∀ d, d ∈ ks.map PyData.int → d.depth = 0 := by
  refine ⟨AllAlike.of (enc := PyData.int) fun _ _ => rfl, Sortable.others (enc := PyData.int) fun b => ⟨fun z => (by cases z), fun xs z => by cases z⟩, fun d hd => ?_⟩
  obtain ⟨k, _, rfl⟩ := List.mem_map.mp hd
  rfl
theorem keyP_reads {h : Heap} : ∀ {us : List Value} {ks : List Int}, EachIs (fun v k => ∃ t, v = Value.int k t) us ks → EachIs (fun v d => ∃ as, Reads h v d as) us (ks.map PyData.int)
  | _, _, .nil => .nil
  | _, _, .cons ⟨t, e⟩ r => .cons ⟨[], by rw [e]; exact .int _ t⟩ (keyP_reads r)

/-- the keys are asked for one by one; Pst is what stays known meanwhile -/
theorem keyP_rest {f : Value} (Pst : Nat → Shared → Prop) (hka : kS ≠ a)
    (nk : s.heap.get? kS = some (seqObj "list" #[] 0)) (na : s.heap.get? a = some (seqObj "list" #[] e1)) (hlen : ks.length = vs.length) (hZ : vs.length ≤ sizeLine) (hu : A.units < cLine) (p0 : Pst 0 s)
    (turn : ∀ (i : Nat) (v : Value) (k : Int), vs[i]? = some v → ks[i]? = some k → ∀ (s' : Shared) (xK : Array Value) (nK : Nat), Pst i s' → s'.heap.get? kS = some (seqObj "list" xK nK) → s'.heap.get? a = some (seqObj "list" #[] e1) →
      wpAny (model prog w) A (call f [v]) (fun r s'' => (∃ t, r = .int k t) ∧ Pst (i + 1) s'' ∧ s''.heap.get? kS = some (seqObj "list" xK nK) ∧ s''.heap.get? a = some (seqObj "list" #[] e1)) (fun _ _ => False) s')
    (up : ∀ (i : Nat) (s' : Shared) (h' : Heap) (tk : Nat), Pst i s' → (∀ b o, b ≠ kS → b ≠ a → s'.heap.get? b = some o → h'.get? b = some o) → Pst i { s' with heap := h', toks := tk })
    (h : ∀ s' out c, Pst vs.length s' → s'.heap.get? a = some (seqObj "list" (List.toArray out) c) → KeyedOut false (ks.map .int) vs out → P (.done (.ret .none)) s') :
    wpAny (model prog w) A (ksk_rest a f false vs.toArray e1 (.ref kS)) P E s := by
  obtain ⟨hal, hsk, hdp⟩ := keyP_data ks
  unfold ksk_rest
  refine wpAny_bind (wpAny_rule ?_)
  first
    | rw [List.forIn_toArray]
    | (rw [← Array.forIn_toList]; simp only [List.toList_toArray])
    | rw [← Array.forIn_toList]
  refine wpAny_bind (ksk_fold (fun i s' => ∃ kA e, Pst i s' ∧ s'.heap.get? kS = some (seqObj "list" kA e) ∧ s'.heap.get? a = some (seqObj "list" #[] e1) ∧ EachIs (fun v k => ∃ t, v = Value.int k t) kA.toList (ks.take i)) vs 0 s
    ⟨#[], 0, p0, nk, na, by rw [List.take_zero]; exact EachIs.nil⟩ ?step ?done)
  case step =>
    rintro j x s' hx ⟨kA, e, ps, nk', na', hk⟩
    simp only [Nat.zero_add] at ps hk ⊢
    have hj : j < vs.length := (List.getElem?_eq_some_iff.mp hx).1
    obtain ⟨k, hkj⟩ : ∃ k, ks[j]? = some k := ⟨_, List.getElem?_eq_getElem (by omega)⟩
    have hz : kA.size ≤ vs.length := by
      have h1 := hk.length
      rw [Array.length_toList, List.length_take] at h1
      omega
    refine wpAny_bind (wpAny_attempt (wpAny_mono (turn j x k hx hkj s' kA e ps nk' na') (fun v s'' he => ?_) fun _ _ hF => hF.elim))
    obtain ⟨⟨t, rfl⟩, ps2, nk2, na2⟩ := he
    try dsimp only
    have s1 := Heap.SameBut.update s''.heap kS (Obj.mapSeq (·.push (Value.int k t)))
    obtain ⟨c2, hc2⟩ : ∃ c2, (s''.heap.update kS (Obj.mapSeq (·.push (Value.int k t)))).get? kS = some (seqObj "list" (kA.push (Value.int k t)) c2) := ⟨_, get?_update_seq nk2 (·.push (Value.int k t))⟩
    have ek : ks.take (j + 1) = ks.take j ++ [k] := by rw [List.take_add_one, hkj]; simp
    have ea : (kA.push (Value.int k t)).toList = kA.toList ++ [Value.int k t] := by simp
    refine wpAny_bind (listUpdate_at nk2 rfl ?_ (Nat.le_trans hz hZ) (Nat.le_trans (Nat.le_of_eq (Array.size_push ..)) (Nat.succ_le_succ (Nat.le_trans hz hZ))))
    refine wpAny_pure ⟨rfl, kA.push (Value.int k t), c2, up _ s'' _ s''.toks ps2 (fun b o h1 _ q => (s1.2 b h1).trans q), hc2, (s1.2 a hka.symm).trans na2, ?_⟩
    rw [ea, ek]
    exact each_snoc ⟨t, rfl⟩ hk
  case done =>
    rintro s' ⟨kA, e, ps, nk', na', hk⟩
    simp only [Nat.zero_add] at ps hk
    rw [List.take_of_length_le (by omega)] at hk
    have hk' : EachIs (fun v d => ∃ as, Reads s'.heap v d as) kA.toList (ks.map PyData.int) := keyP_reads hk
    have hsz : kA.size = vs.length := by
      have h1 := hk.length
      rw [Array.length_toList] at h1
      omega
    refine wpAny_bind (listItems_at nk' rfl ?_)
    refine keyH_end (κ := dataKind s'.heap (ks.map PyData.int)) (h₁ := hideAll s'.heap [kS]) (fun b o _ q => of_hideAll _ q) (hideAll_none _ (by simp)) nk' na' hka (SortsAt.data hk' hal hsk (fun d hd => by rw [hdp d hd]; exact hu)) hsz hZ fun h3 tk3 c k3 n3 => ?_
    refine h _ _ c (up _ s' h3 tk3 ps fun b o h1 h2 q => k3 b o h2 (hideAll_get _ q (by simpa using h1))) n3 ⟨s'.heap, kA.toList, hal, rfl, hk'⟩

theorem keyP_tree {f : Value} {n : Nat} (Pst : Nat → Shared → Prop) (ho : s.heap.get? a = some (seqObj "list" vs.toArray n)) (hlen : ks.length = vs.length) (hZ : vs.length ≤ sizeLine) (hu : A.units < cLine) (hkS : kS = s.heap.objs.size + 1)
    (p0 : ∀ h', (∀ b o, b ≠ a → s.heap.get? b = some o → h'.get? b = some o) → Pst 0 { s with heap := h' })
    (turn : ∀ (e1 i : Nat) (v : Value) (k : Int), vs[i]? = some v → ks[i]? = some k → ∀ (s' : Shared) (xK : Array Value) (nK : Nat), Pst i s' → s'.heap.get? kS = some (seqObj "list" xK nK) → s'.heap.get? a = some (seqObj "list" #[] e1) →
      wpAny (model prog w) A (call f [v]) (fun r s'' => (∃ t, r = .int k t) ∧ Pst (i + 1) s'' ∧ s''.heap.get? kS = some (seqObj "list" xK nK) ∧ s''.heap.get? a = some (seqObj "list" #[] e1)) (fun _ _ => False) s')
    (up : ∀ (i : Nat) (s' : Shared) (h' : Heap) (tk : Nat), Pst i s' → (∀ b o, b ≠ kS → b ≠ a → s'.heap.get? b = some o → h'.get? b = some o) → Pst i { s' with heap := h', toks := tk })
    (h : ∀ s' out c, Pst vs.length s' → s'.heap.get? a = some (seqObj "list" (List.toArray out) c) → KeyedOut false (ks.map .int) vs out → P (.done (.ret .none)) s') :
    wpAny (model prog w) A (ksk_tree a f false) P E s := by
  have ha : a < s.heap.objs.size := Heap.lt_size ho
  obtain ⟨e1, ho1⟩ : ∃ e1, (s.heap.update a (Obj.mapSeq fun _ => (#[] : Array Value))).get? a = some (seqObj "list" #[] e1) := ⟨_, get?_update_seq ho fun _ => #[]⟩
  have hk2 : ((s.heap.update a (Obj.mapSeq fun _ => (#[] : Array Value))).push (seqObj "tuple" vs.toArray 0)).objs.size = kS := by rw [size_push', Heap.size_update, hkS]
  unfold ksk_tree
  refine wpAny_bind (listItems_at ho rfl ?_)
  refine wpAny_bind (listUpdate_at ho rfl ?_ (by rw [List.size_toArray]; exact hZ) (Nat.zero_le _))
  refine wpAny_bind (seqEpoch_at ho1 rfl ?_)
  refine wpAny_bind (wpAny_newTuple ?_ (by show vs.length ≤ _; exact hZ))
  refine wpAny_bind (wpAny_newList ?_ (Nat.zero_le _))
  refine wpAny_holding ?_
  have hn : (((s.heap.update a (Obj.mapSeq fun _ => (#[] : Array Value))).push (seqObj "tuple" vs.toArray 0)).push (seqObj "list" #[] 0)).get? kS = some (seqObj "list" #[] 0) := by
    rw [← hk2]; exact Heap.get?_push_size _ rfl
  show wpAny _ _ (ksk_rest a f false vs.toArray e1 (.ref ((s.heap.update a (Obj.mapSeq fun _ => (#[] : Array Value))).push (seqObj "tuple" vs.toArray 0)).objs.size)) _ _ _
  rw [hk2]
  exact keyP_rest (s := { s with heap := ((s.heap.update a (Obj.mapSeq fun _ => (#[] : Array Value))).push (seqObj "tuple" vs.toArray 0)).push (seqObj "list" #[] 0) }) Pst
    (by rw [hkS]; exact Nat.ne_of_gt (Nat.lt_succ_of_lt ha)) hn (Heap.get?_push_of_some _ (Heap.get?_push_of_some _ ho1)) hlen hZ hu (p0 _ fun b o hb q => sortingHeap_old hb q) (turn e1) up h

theorem sortedP {l : Addr} {q : Addr} {Q : Value → Shared → Prop} (Pst : Nat → Shared → Prop) (hl : s.heap.IsList l vs.toArray) (hlen : ks.length = vs.length) (hZ : vs.length ≤ sizeLine) (hu : A.units + 2 < cLine) (ha : a = s.heap.objs.size + 1) (hkS : kS = s.heap.objs.size + 3)
    (p0 : ∀ h', (∀ b o, s.heap.get? b = some o → h'.get? b = some o) → Pst 0 { s with heap := h' })
    (turn : ∀ (e1 i : Nat) (v : Value) (k : Int), vs[i]? = some v → ks[i]? = some k → ∀ (s' : Shared) (xK : Array Value) (nK : Nat), Pst i s' → s'.heap.get? kS = some (seqObj "list" xK nK) → s'.heap.get? a = some (seqObj "list" #[] e1) →
      wpAny (model prog w) A.in1.in1 (call (.ref q) [v]) (fun r s'' => (∃ t, r = .int k t) ∧ Pst (i + 1) s'' ∧ s''.heap.get? kS = some (seqObj "list" xK nK) ∧ s''.heap.get? a = some (seqObj "list" #[] e1)) (fun _ _ => False) s')
    (up : ∀ (i : Nat) (s' : Shared) (h' : Heap) (tk : Nat), Pst i s' → (∀ b o, b ≠ kS → b ≠ a → s'.heap.get? b = some o → h'.get? b = some o) → Pst i { s' with heap := h', toks := tk })
    (h : ∀ s' out c, Pst vs.length s' → s'.heap.get? a = some (seqObj "list" (List.toArray out) c) → KeyedOut false (ks.map .int) vs out → Q (.ref a) s') :
    wpAny (model prog w) A (call (.builtin "sorted") [.ref l] [(Str.ofString "key", .ref q)]) Q E s := by
  subst ha
  refine sorted_of_sort hl hZ (ksk_s1 _ _) (fun x => by unfold argsOk; kernel_rfl) fun E' => ?_
  rw [ksk_t1]
  have hsz : (copyHeap s.heap vs).objs.size = s.heap.objs.size + 2 := by
    unfold copyHeap
    rw [size_push', Heap.size_update, size_push']
  refine keyP_tree (s := { s with heap := copyHeap s.heap vs }) (kS := kS) Pst (copyHeap_at s.heap vs) hlen hZ (by simp only [Around.in1_units]; omega) (by rw [hkS, hsz]) (fun h' k => ?_) turn up fun s' out c ps na ko => ⟨rfl, h s' out c ps na ko⟩
  exact p0 h' fun b o e => k b o (Nat.ne_of_lt (Nat.lt_succ_of_lt (Heap.lt_size e))) (copyHeap_old e)
end
end PySem.W

/-! MirU: a lambda of one parameter made and called. -/
namespace L2
open PySem PySem.Spec PyProof.Rows
section
variable {X : Cx} {pins : List (Addr × Obj)} {σ : St} {H : Hp} {s : Shared}
/-- a thing that stands is tracked from now on -/
theorem Inv.adopt {a : Addr} {o : HO} (I : Inv X pins σ H s) (fp : FpOk X pins H a) (new : ObjOk X.prog X.w (upd H a o) s.heap a o) : Inv X pins σ (upd H a o) s := by
  have hn := fp.1
  have ne : ∀ b u, H b = some u → b ≠ a := fun b u e z => by rw [z, hn] at e; cases e
  refine I.call' (ch := [a]) rfl ⟨fun b o e _ _ _ => e, fun b o e _ _ _ => ⟨o.slots, e⟩, fun b u e n hc => ?_, fun b o e _ => ⟨o, e⟩, fun b xs e => by rw [upd_ne (ne _ _ e)]; exact e, fun b ob u e => by rw [upd_ne (ne _ _ e)]; exact e,
    fun b ps e => ⟨#[], by rw [upd_ne (ne _ _ e), e]; simp⟩⟩ (fun b u e => ?_) I.bare fun b hb => ?_
  · rw [upd_ne (fun z => hc (by simp [z]))]; exact n
  · by_cases hb : b = a
    · subst hb
      rw [upd_same] at e; cases e
      exact new
    · rw [upd_ne hb] at e
      exact (I.hok b u e).stay (fun c v _ q => q) (fun c q => by rw [upd_ne (ne _ _ q)]; exact q) fun c xs q => by rw [upd_ne (ne _ _ q)]; exact q
  · have e : b = a := by simpa using hb
    subst e
    exact ⟨fp.2.2.2.1, fp.2.1, fp.2.2.2.2.1, fp.2.2.2.2.2⟩
/-- untracked things change -/
theorem Inv.off {ch : List Addr} {h' : Heap} {t' : Nat} (I : Inv X pins σ H s) (fp : ∀ b ∈ ch, FpOk X pins H b) (k : ∀ b o, b ∉ ch → s.heap.get? b = some o → h'.get? b = some o) : Inv X pins σ H { s with heap := h', toks := t' } := by
  have ne : ∀ b u, H b = some u → b ∉ ch := fun b u e z => by rw [(fp b z).1] at e; cases e
  refine I.call (ch := ch) (g' := s.gens) (d' := s.drawn) ⟨fun b o e _ _ hc => k b o hc e, fun b o e _ _ hc => ⟨o.slots, k b o hc e⟩, fun b u e n _ => n, fun b o e hc => ⟨o, k b o hc e⟩, fun b xs e => e, fun b ob u e => e,
    fun b ps e => ⟨#[], by rw [e]; simp⟩⟩ (fun b u e => ?_) I.bare fun b hb => ?_
  · refine (I.hok b u e).stay (fun c v hc q => k c v ?_ q) (fun _ q => q) fun _ _ q => q
    rcases hc with z | z
    · rw [z]; exact ne b u e
    · exact ne c _ z
  · exact ⟨(fp b hb).2.2.2.1, (fp b hb).2.1, (fp b hb).2.2.2.2.1, (fp b hb).2.2.2.2.2⟩
end
end L2
namespace Mir
open PySem PySem.Spec PyProof.Rows L2

/-! ### a code table of one name has grown -/
theorem nx_tabF {G : GX} {m : List Addr} {hs : Hs} {H H1 : Hp} {P c' : Addr} {q : Str} {ps ps' : Array Value} {oc : Obj} {u : HO} (hPl : (P, q) ∈ G.tb.l) (hP : H P = some (.tbl ps)) (hP1 : H1 P = some (.tbl ps')) (htr : TriplesOk ps'.toList)
    (cs : ∀ (pos : Pos) (cv : Value), codeAmong pos ps'.toList = some cv → ∃ c, cv = .ref c ∧ CodeF H1 c q) (nc : H c' = none) (hc : H1 c' = some (.frz oc u)) (oth : ∀ b, b ≠ P → b ≠ c' → H1 b = H b) (hr : HR G m hs H) : Nx m H m H1 ∧ HR G m hs H1 := by
  have keep : ∀ b o, H b = some o → (∀ ps, o ≠ .tbl ps) → H1 b = some o := fun b o e nt => by
    rw [oth b (fun z => by rw [z, hP] at e; cases e; exact nt _ rfl) (ne_of_none e nc)]; exact e
  have n : Nx m H m H1 := ⟨⟨[], by simp⟩, fun a h z => absurd h z, fun a o e _ ht => keep a o e ht, fun a e => by
    by_cases z : a = P
    · rw [z, hP1]; simp
    · by_cases z2 : a = c'
      · rw [z2, hc]; simp
      · rw [oth a z z2]; exact e⟩
  refine ⟨n, hr.len, hr.nd, fun i a o e1 e2 => ?_, fun Q hQ => ?_, fun p hp => ?_, hr.tab.d, hr.tab.u⟩
  · have r := hr.obj i a o e1 e2
    obtain ⟨w, hw, _, _, nt, _⟩ := r.some
    exact r.nx hr n ((keep a w hw nt).trans hw.symm)
  · obtain ⟨qs, e, t⟩ := hr.tab.g Q hQ
    have z : Q ≠ P := fun z => hr.tab.d _ hPl (by rw [← z]; exact hQ)
    exact ⟨qs, by rw [oth Q z (ne_of_none e nc)]; exact e, t⟩
  · by_cases z : p.1 = P
    · have e := hr.tab.u p hp _ hPl z
      rw [e]
      exact ⟨ps', hP1, htr, cs⟩
    · obtain ⟨qs, e, t, cs2⟩ := hr.tab.l p hp
      refine ⟨qs, by rw [oth _ z (ne_of_none e nc)]; exact e, t, fun pos cv h => ?_⟩
      obtain ⟨c, ec, oc2, u2, vs2, t2, e1, e2⟩ := cs2 pos cv h
      exact ⟨c, ec, oc2, u2, vs2, t2, keep _ _ e1 (fun ps z => by cases z), e2⟩

section
variable {X : Cx} {tb : TBs}
/-- the lambda's names: one parameter, captured ones, globals -/
structure LamS1 (sc scope : Scope) (x : Str) : Prop where
  kind : scope.kind = .function
  co : scope.isCoroutine = false
  gen : scope.isGenerator = false
  par : scope.names.lookup x = some .local
  own : ∀ y ∈ scope.names, y.2 = .local → y.1 = x
  cell : ∀ y ∈ scope.names, y.2 ≠ .cell
  free : ∀ y ∈ scope.names, y.2 = .free → sc.names.lookup y.1 = some .cell ∨ sc.names.lookup y.1 = some .free
def lamS1B (sc scope : Scope) (x : Str) : Bool :=
  decide (scope.kind = .function) && !scope.isCoroutine && !scope.isGenerator && decide (scope.names.lookup x = some .local) && scope.names.all fun y => (!decide (y.2 = .local) || decide (y.1 = x)) && !decide (y.2 = .cell) && (!decide (y.2 = .free) || decide (sc.names.lookup y.1 = some .cell) || decide (sc.names.lookup y.1 = some .free))
theorem lamS1_by {sc scope : Scope} {x : Str} (h : lamS1B sc scope x = true) : LamS1 sc scope x := by
  unfold lamS1B at h
  simp only [Bool.and_eq_true, Bool.or_eq_true, Bool.not_eq_true', decide_eq_true_eq, decide_eq_false_iff_not, List.all_eq_true] at h
  obtain ⟨⟨⟨⟨h1, h2⟩, h3⟩, h4⟩, h5⟩ := h
  refine ⟨h1, h2, h3, h4, fun y hy e => ?_, fun y hy => (h5 y hy).1.2, fun y hy e => ?_⟩
  · rcases (h5 y hy).1.1 with z | z
    · exact absurd e z
    · exact z
  · rcases (h5 y hy).2 with (z | z) | z
    · exact absurd e z
    · exact .inl z
    · exact .inr z
theorem LamS1.has {scope : Scope} {x : Str} (L : LamS1 X.env.scope scope x) (ok : X.Ok) : ∀ y ∈ scope.names, y.2 = .free → ∃ c, X.env.cells.lookup y.1 = some c := fun y hy e => by
  rcases L.free y hy e with k | k
  · exact ok.has _ (.inl k)
  · exact ok.has _ (.inr k)
abbrev lamO (X : Cx) (params : Arguments) (body : Expr) (scope : Scope) (pm : Value) (c' : Addr) (ctv : Value) : Obj := PySem.W.kla_obj "<lambda>" (X.env.qual ++ "<lambda>") params body scope (cloFrom X.env.cells scope.names []) pm c' ctv
def tLamF (X : Cx) (tb : TBs) (params : Arguments) (body : Expr) (scope : Scope) : TE := fun σ H Q => ∃ hs m, HR (GO X tb) m hs H ∧ ∀ (f c' : Addr) (pm ctv : Value) (H1 : Hp), Nx m H m H1 → HR (GO X tb) m hs H1 → H1 f = some (.frz (lamO X params body scope pm c' ctv) (.ext fun _ => True)) → CodeF H1 c' (X.env.qual ++ "<lambda>") → Q (.ref f) H1
theorem m_lam {c P : Addr} {params : Arguments} {body : Expr} {scope : Scope} {x : Str} {pos : Pos} (TQ : LamX.TabB X.base X.mg c P) (hcode : X.env.code = .ref c) (hPl : (P, X.env.qual ++ "<lambda>") ∈ tb.l) (hdef : defaultsOf params X.env = ([], [])) (L : LamS1 X.env.scope scope x) :
    PE X (.Lambda params body scope pos) (tLamF X tb params body scope) := by
  refine ⟨fun pins s σ H Q I h => ?_⟩
  obtain ⟨hs, m, hr, q⟩ := h
  have hfree := L.has I.ok
  obtain ⟨ps, hP, ht, ha⟩ := hr.tab.l _ hPl
  refine PySem.W.kla_eval hdef ?_
  have bP : s.heap.BuiltinsAt X.mg P := TQ.bm.keeps I.bk
  have hP' : s.heap.get? P = some { cls := .none, data := .fields ps } := I.hok P _ hP
  -- the function's object is frozen
  have done : ∀ {s' : Shared} {H1 : Hp} {f c' : Addr} {pm ctv : Value} {hp : Heap} {tk : Nat}, L2.Inv X pins σ H1 { s' with heap := hp, toks := tk } → hp.objs.size ≤ f → Nx m H m H1 → HR (GO X tb) m hs H1 → CodeF H1 c' (X.env.qual ++ "<lambda>") →
      ∀ h2 : Heap, h2 = hp.push (lamO X params body scope pm c' ctv) → f = hp.objs.size → EP X pins σ Q (.ref f) { s' with heap := h2, toks := tk } := by
    intro s' H1 f c' pm ctv hp tk I1 hf n1 hr1 hc h2 e ef
    subst e ef
    have hn : H1 hp.objs.size = none := I1.hok.fresh (Nat.le_refl _)
    have new : (hp.push (lamO X params body scope pm c' ctv)).get? hp.objs.size = some (lamO X params body scope pm c' ctv) := Heap.get?_push_size _ rfl
    have I2 := I1.laid (a := hp.objs.size) (o := .frz (lamO X params body scope pm c' ctv) (.ext fun _ => True)) (t' := tk) (h' := hp.push (lamO X params body scope pm c' ctv)) (fun b o e => Heap.get?_push_of_some _ e) (Nat.le_refl _) ⟨new, trivial, ⟨_, new⟩, fun _ _ _ _ => trivial⟩
    obtain ⟨oc, u, vs, t, e1, e2⟩ := hc
    have n2 : Nx m H1 m (upd H1 hp.objs.size (.frz (lamO X params body scope pm c' ctv) (.ext fun _ => True))) := .fresh1 hn
    exact ⟨.ref hp.objs.size, _, I2, rfl, q _ c' pm ctv _ (n1.trans n2) (hr1.more hn) upd_same ⟨oc, u, vs, t, by rw [upd_ne (ne_of_none e1 hn)]; exact e1, e2⟩⟩
  cases hc : codeAmong pos ps.toList with
  | none =>
    refine PySem.W.kla_makeFunction (mg := X.mg) (c := c) (P := P) (ps := ps) (closure_ok hfree) I.ok.glob (I.mod.glob.keeps I.bk) hcode (TQ.code.keeps I.bk) hP' ht hc TQ.gP bP fun c' ctv h' tk hx hge hlt hrec htb => ?_
    obtain ⟨c2, oc, vs, t, e2, hoc, hd, hv⟩ := hrec
    cases e2
    have nC : H c' = none := I.hok.fresh hge
    have I1 := LamX.inv_table (t' := tk) (more := #[rawInt pos.line, rawInt pos.col, .ref c']) (h' := h') I hP hx htb hge ⟨oc, vs, t, hoc, hd, hv⟩
    have I2 := I1.write (x := c') (e := c') (o := .frz oc (LamX.CodeO c' (X.env.qual ++ "<lambda>"))) (t' := tk) (h' := h') (by rw [upd_same]; trivial) (.inl rfl) (fun b u _ e => e) ⟨oc, hoc⟩
      ⟨hoc, ⟨oc, vs, t, hoc, hd, hv⟩, ⟨oc, hoc⟩, fun h1 h2 ⟨oc, vs, t, a, b, c⟩ st => ⟨oc, vs, t, st _ a, b, c⟩⟩
    have nPc : P ≠ c' := ne_of_none hP nC
    have eL : (ps ++ #[rawInt pos.line, rawInt pos.col, .ref c']).toList = ps.toList ++ [rawInt pos.line, rawInt pos.col, .ref c'] := by simp
    have cf : CodeF (upd (upd (upd H P (.tbl (ps ++ #[rawInt pos.line, rawInt pos.col, .ref c']))) c' (LamX.CodeO c' (X.env.qual ++ "<lambda>"))) c' (.frz oc (LamX.CodeO c' (X.env.qual ++ "<lambda>")))) c' (X.env.qual ++ "<lambda>") := ⟨oc, _, vs, t, upd_same, hd, hv⟩
    have oth : ∀ b, b ≠ P → b ≠ c' → upd (upd (upd H P (.tbl (ps ++ #[rawInt pos.line, rawInt pos.col, .ref c']))) c' (LamX.CodeO c' (X.env.qual ++ "<lambda>"))) c' (.frz oc (LamX.CodeO c' (X.env.qual ++ "<lambda>"))) b = H b := fun b h1 h2 => by
      rw [upd_ne h2, upd_ne h2, upd_ne h1]
    obtain ⟨n1, hr1⟩ := nx_tabF (c' := c') (ps' := ps ++ #[rawInt pos.line, rawInt pos.col, .ref c']) hPl hP (by rw [upd_ne nPc, upd_ne nPc, upd_same]) (by rw [eL]; exact PySem.TriplesOk_snoc _ _ _ _ ht) (fun p' cv hcv => by
        rw [eL] at hcv
        rcases LamX.among_app _ ht hcv with z | z
        · obtain ⟨c0, e1, oc2, u2, vs2, t2, e2, e3⟩ := ha p' cv z
          exact ⟨c0, e1, oc2, u2, vs2, t2, by rw [oth c0 (fun z => by rw [z, hP] at e2; cases e2) (ne_of_none e2 nC)]; exact e2, e3⟩
        · exact ⟨c', z, cf⟩) nC upd_same oth hr
    exact done I2 (Nat.le_refl _) n1 hr1 cf _ rfl rfl
  | some cv =>
    obtain ⟨c', e, hco⟩ := ha pos cv hc
    subst e
    refine PySem.W.kla_makeFunctionHit (mg := X.mg) (c := c) (P := P) (ps := ps) (closure_ok hfree) I.ok.glob (I.mod.glob.keeps I.bk) hcode (TQ.code.keeps I.bk) hP' ht hc bP fun ctv h' tk hx hsz => ?_
    have I1 : L2.Inv X pins σ H { s with heap := h', toks := tk } := I.kept fun b o e => hx b o e
    exact done I1 (Nat.le_refl _) .refl hr hco _ rfl rfl

/-! ### the call -/
theorem lam_start1 {pins : List (Addr × Obj)} {σ : L2.St} {H : Hp} {s : Shared} {A' : Around} {scope : Scope} {x : Str} {i : Nat} {f c' : Addr} {h₁ : Heap} {tk : Nat} {v : Value} {dv : V} (I : L2.Inv X pins σ H s) (L : LamS1 X.env.scope scope x) (hN : X.N.Nodup) (hi : X.N[i]? = some x) (rv : RelV dv v)
    (hA : A'.handled = none) (hfr : A'.frames = some (LamX.lamEnv X scope s.heap.objs.size f c' :: X.stack)) (hns : h₁.Ns s.heap.objs.size fun y => [(x, v)].reverse.lookup y) (kp : ∀ b o, s.heap.get? b = some o → h₁.get? b = some o) :
    L2.Inv (X.gx s H (LamX.lamEnv X scope s.heap.objs.size f c') [] A') [] ((wipe σ [i]).set i (some dv)) H { s with heap := h₁, toks := tk } := by
  have hfree := L.has I.ok
  have cm : ∀ {y c}, (cloFrom X.env.cells scope.names []).lookup y = some c → X.env.cells.lookup y = some c := fun {y c} hm => by
    rcases cloFrom_mem (PySem.mem_of_lookup hm) with hm | ⟨h1, rfl⟩
    · cases hm
    · obtain ⟨c, hc⟩ := hfree _ h1 rfl
      rw [hc]
      rfl
  have look : ∀ {y}, scope.names.lookup y = some .free → ∃ c, (cloFrom X.env.cells scope.names []).lookup y = some c ∧ X.env.cells.lookup y = some c := fun {y} hl => by
    obtain ⟨c', e'⟩ := mem_lookup (cloFrom_has (cells := X.env.cells) (acc := []) (PySem.mem_of_lookup hl))
    exact ⟨c', e', cm e'⟩
  have okB : (X.gx s H (LamX.lamEnv X scope s.heap.objs.size f c') [] A').Ok := by
    refine ⟨I.ok.mod, L.kind, rfl, rfl, Nat.le_refl _,
      fun y z c e1 e2 => I.ok.inj y z c (cm e1) (cm e2), fun y hy => ?_, fun y c z e => ?_, fun _ => hA, hfr, .inr ⟨rfl, rfl⟩, fun b hb => absurd (show b ∈ ([] : List Addr) from hb) (by simp), I.bs, Nat.le_trans I.ok.bsz I.sz, fun b o e hb => absurd (show b ∈ ([] : List Addr) from hb) (by simp),
      fun b hb z => absurd (show b ∈ ([] : List Addr) from hb) (by simp), I.stack, I.stkFree⟩
    · rcases hy with hy | hy
      · have hy : scope.names.lookup y = some .cell := hy
        exact absurd rfl (L.cell _ (PySem.mem_of_lookup hy))
      · have hy : scope.names.lookup y = some .free := hy
        obtain ⟨c, h1, _⟩ := look hy
        exact ⟨c, h1⟩
    · exact absurd z Bool.false_ne_true
  refine ⟨okB, rfl, I.bare, Un.kept kp, ⟨_, hns, fun j y av e1 e2 e3 => ?_⟩, fun y c e => ?_, I.hok.fresh (Nat.le_refl _), fun y c e => ?_, fun p hp => absurd (show p ∈ ([] : List (Addr × Obj)) ++ [] from hp) (by simp), I.hok.kept kp, by rw [List.length_set, wipe_length]; exact I.len⟩
  · have e3 : Vis scope y := e3
    have e1 : X.N[j]? = some y := e1
    by_cases hj : i = j
    · subst hj
      have ey : y = x := by rw [hi] at e1; exact (Option.some.inj e1).symm
      subst ey
      have hl : i < (wipe σ [i]).length := by
        rw [wipe_length]
        by_cases q : i < σ.length
        · exact q
        · rw [List.getElem?_eq_none (by rw [List.length_set, wipe_length]; omega)] at e2; cases e2
      rw [List.getElem?_set_self hl] at e2
      cases e2
      refine ⟨v, rv, .inl ⟨L.par, ?_⟩⟩
      show List.lookup y [(y, v)] = some v
      simp [List.lookup]
    · rw [List.getElem?_set_ne hj] at e2
      obtain ⟨e2, _⟩ := wipe_some e2
      have hfr : scope.names.lookup y = some .free := by
        rcases e3 with e3 | e3 | e3
        · have := L.own _ (PySem.mem_of_lookup e3) rfl
          have ey : y = x := this
          rw [ey] at e1
          exact absurd (nodup_ix hN hi e1) hj
        · exact absurd rfl (L.cell _ (PySem.mem_of_lookup e3))
        · exact e3
      obtain ⟨m, hn, hl⟩ := I.loc
      have hvis : Vis X.env.scope y := (L.free _ (PySem.mem_of_lookup hfr) rfl).elim (fun k => .inr (.inl k)) (fun k => .inr (.inr k))
      obtain ⟨w, r, q⟩ := hl j y av e1 e2 hvis
      refine ⟨w, r, .inr ⟨.inr hfr, ?_⟩⟩
      obtain ⟨c, h1, h2⟩ := look hfr
      rcases q with ⟨k, _⟩ | ⟨_, c', e', z⟩
      · have k : X.env.scope.names.lookup y = some .local := k
        rcases L.free _ (PySem.mem_of_lookup hfr) rfl with k' | k' <;> rw [show X.env.scope.names.lookup y = _ from k'] at k <;> cases k
      · rw [h2] at e'; cases e'
        exact ⟨c, h1, z.keeps kp⟩
  · obtain ⟨w, z⟩ := I.cell y c (cm e)
    exact ⟨w, z.keeps kp⟩
  · exact I.freeC y c (cm e)
theorem lam_call1 {pins : List (Addr × Obj)} {σ : L2.St} {H : Hp} {s : Shared} {A' : Around} {k : Nat} {params : Arguments} {body : Expr} {scope : Scope} {x : Str} {i : Nat} {f c' : Addr} {pm ctv : Value} {v : Value} {dv : V} {tbd : TE} {Q : VK}
    (I : L2.Inv X pins σ H s) (L : LamS1 X.env.scope scope x) (hN : X.N.Nodup) (hi : X.N[i]? = some x) (rv : RelV dv v) (hr : Room (k + 1) A') (hfr : A'.frames = some X.stack)
    (hf : H f = some (.frz (lamO X params body scope pm c' ctv) (.ext fun _ => True))) (hc : CodeF H c' (X.env.qual ++ "<lambda>"))
    (hbind : ∀ (q : Str) (cl : List (Str × Addr)) (pm cv ctv u : Value), bindArgs (PySem.W.kla_fn "<lambda>" q params body scope cl pm cv ctv) ⟨[u], []⟩ = pure [(x, u)])
    (hbody : ∀ (s : Shared) (H : Hp) (L f c' : Addr) (A' : Around), Room k A' → PE (X.gx s H (LamX.lamEnv X scope L f c') [] A') body tbd) (h : tbd ((wipe σ [i]).set i (some dv)) H Q) :
    wpAny (model X.prog X.w) A' (call (.ref f) [v]) (fun r s'' => ∃ y H', L2.Inv X pins σ H' s'' ∧ RelV y r ∧ Q y H') (fun _ _ => False) s := by
  have of1 : s.heap.get? f = some (lamO X params body scope pm c' ctv) := (I.hok f _ hf).1
  obtain ⟨oc, u, vs, t, e1, e2, e3⟩ := hc
  have hoc : s.heap.get? c' = some oc := (I.hok c' _ e1).1
  refine wpAny_call ?_
  refine PySem.W.kla_callFunE hr.depth of1 rfl L.co L.gen rfl ⟨c', oc, vs, t, rfl, hoc, e2, e3⟩ ?_
  rw [hbind]
  refine wpAny_pure (wpAny_newFunctionEnv L.cell (fun y hy => by rw [List.mem_singleton.mp hy]; exact L.par) (fun h₁ hns hsb => ⟨I.nolimit.fresh _ hsb, ?_⟩) L.kind)
  have kp : ∀ b o, s.heap.get? b = some o → h₁.get? b = some o := fun b o e => hsb.extBut b o (Nat.ne_of_lt (Heap.lt_size e)) (Heap.get?_push_of_some _ e)
  have J := lam_start1 (f := f) (c' := c') (tk := s.toks + [(x, v)].length) (A' := A'.deeper (LamX.lamEnv X scope s.heap.objs.size f c')) I L hN hi rv (hr.deeper _).hd (Around.frames_deeper hfr) hns kp
  refine PySem.W.kla_codeExpr (wpAny_mono ((hbody s H s.heap.objs.size f c' _ (hr.deeper _)).run [] _ _ H Q J h) (fun r s' hq => ?_) fun e s' hq => False.elim hq)
  obtain ⟨y, H', J', ry, q⟩ := hq
  exact ⟨y, H', I.call' (ch := []) J'.os J'.base J'.hok J'.bare (fun b z => absurd z (by simp)), ry, q⟩
end
end Mir

/-! MirV: sorted(list, key=lambda x: ..). -/
namespace Mir
open PySem PySem.Spec PyProof.Rows L2

/-! ### sorted by int keys, stable -/
def insK {α : Type} (k : Int) (x : α) : List (Int × α) → List (Int × α)
  | [] => [(k, x)]
  | (j, y) :: r => match decide (k ≤ j) with
    | true => (k, x) :: (j, y) :: r
    | false => (j, y) :: insK k x r
def srtK {α : Type} : List (Int × α) → List (Int × α)
  | [] => []
  | (k, x) :: r => insK k x (srtK r)
def leK {α : Type} (a b : Int × α) : Bool := decide (a.1 ≤ b.1)
theorem insK_split {α : Type} (k : Int) (x : α) : ∀ (l₁ l₂ : List (Int × α)), (∀ b ∈ l₁, (!leK (k, x) b) = true) → (∀ b ∈ l₂, leK (k, x) b = true) → insK k x (l₁ ++ l₂) = l₁ ++ (k, x) :: l₂
  | [], [], _, _ => rfl
  | [], (j, y) :: r, _, h => by
    have := h (j, y) List.mem_cons_self
    unfold leK at this
    simp only [List.nil_append]
    unfold insK
    rw [this]
  | (j, y) :: l, l₂, h1, h2 => by
    have := h1 (j, y) List.mem_cons_self
    unfold leK at this
    have e : decide (k ≤ j) = false := by simpa using this
    show insK k x ((j, y) :: (l ++ l₂)) = _
    unfold insK
    rw [e, insK_split k x l l₂ (fun b hb => h1 b (List.mem_cons_of_mem _ hb)) h2]
    rfl
theorem srtK_eq {α : Type} : ∀ l : List (Int × α), srtK l = l.mergeSort leK
  | [] => by simp [srtK]
  | (k, x) :: r => by
    have tr : ∀ a b c : Int × α, leK a b = true → leK b c = true → leK a c = true := fun a b c h1 h2 => by
      have := of_decide_eq_true h1
      have := of_decide_eq_true h2
      exact decide_eq_true (by omega)
    have tot : ∀ a b : Int × α, (leK a b || leK b a) = true := fun a b => by
      unfold leK
      rw [Bool.or_eq_true, decide_eq_true_eq, decide_eq_true_eq]
      omega
    obtain ⟨l₁, l₂, e1, e2, h⟩ := List.mergeSort_cons tr tot (k, x) r
    have pw := List.pairwise_mergeSort tr tot ((k, x) :: r)
    rw [e1] at pw ⊢
    unfold srtK
    rw [srtK_eq r, e2]
    refine insK_split k x l₁ l₂ h fun b hb => ?_
    have := (List.pairwise_append.mp pw).2.1
    exact (List.pairwise_cons.mp this).1 b hb
theorem insK_map {α β : Type} (f : α → β) (k : Int) (x : α) : ∀ l : List (Int × α), (insK k x l).map (fun p => (p.1, f p.2)) = insK k (f x) (l.map fun p => (p.1, f p.2))
  | [] => rfl
  | (j, y) :: r => by
    unfold insK
    cases e : decide (k ≤ j) with
    | true => simp [e]
    | false => simp [e, insK_map f k x r]
theorem srtK_map {α β : Type} (f : α → β) : ∀ l : List (Int × α), (srtK l).map (fun p => (p.1, f p.2)) = srtK (l.map fun p => (p.1, f p.2))
  | [] => rfl
  | (k, x) :: r => by
    unfold srtK
    rw [insK_map, srtK_map f r]
    rfl

/-! ### the mirror -/
def mKeys (fk : EM) (i : Nat) (ρ : En) : List D → Hs → Option (List Int × Hs)
  | [], hs => some ([], hs)
  | d :: ds, hs => match fk (put ρ i (some d)) hs with
    | some (.int k, hs1) => match mKeys fk i ρ ds hs1 with
      | some (ks, hs2) => some (k :: ks, hs2)
      | none => none
    | _ => none
def zipK : List Int → List D → List (Int × D)
  | k :: ks, d :: ds => (k, d) :: zipK ks ds
  | _, _ => []
def sndK : List (Int × D) → List D
  | [] => []
  | (_, d) :: r => d :: sndK r
def mSortK (fe fk : EM) (i : Nat) : EM := fun ρ hs => match fe ρ hs with
  | some (.ref j, hs1) => match at? hs1 j with
    | some (.lst ds) => match mKeys fk i (wipeE ρ [i]) ds hs1 with
      | some (ks, hs2) => some (.ref hs2.length, hs2 ++ [.lst (sndK (srtK (zipK ks ds)))])
      | none => none
    | _ => none
  | _ => none
theorem mKeys_len {fk : EM} {i : Nat} {ρ : En} : ∀ {ds : List D} {hs hs' : Hs} {ks : List Int}, mKeys fk i ρ ds hs = some (ks, hs') → ks.length = ds.length
  | [], _, _, _, h => by cases h; rfl
  | d :: ds, hs, hs', ks, h => by
    unfold mKeys at h
    split at h
    · split at h
      · rename_i e
        cases h
        simp [mKeys_len e]
      · cases h
    · cases h
theorem mKeys_grows {fk : EM} [q : QE fk] {i : Nat} {ρ : En} : ∀ {ds : List D} {hs hs' : Hs} {ks : List Int}, mKeys fk i ρ ds hs = some (ks, hs') → Grows hs hs'
  | [], _, _, _, h => by cases h; exact .refl
  | d :: ds, hs, hs', ks, h => by
    unfold mKeys at h
    split at h
    · rename_i e1
      split at h
      · rename_i e
        cases h
        exact (q.q _ _ _ _ e1).trans (mKeys_grows e)
      · cases h
    · cases h
instance {fe fk : EM} {i : Nat} [a : QE fe] [b : QE fk] : QE (mSortK fe fk i) := ⟨fun ρ hs d hs' h => by
  unfold mSortK at h
  split at h
  · rename_i e1
    split at h
    · split at h
      · rename_i e2
        cases h
        exact ((a.q _ _ _ _ e1).trans (mKeys_grows e2)).trans .one
      · cases h
    · cases h
  · cases h⟩
theorem sndK_eq : ∀ l : List (Int × D), sndK l = l.map (·.2)
  | [] => rfl
  | (_, d) :: r => by rw [sndK, sndK_eq r]; rfl
/-- the items with their keys -/
def zip3 : List Int → List D → List V → List (Int × (D × V))
  | k :: ks, d :: ds, v :: vs => (k, (d, v)) :: zip3 ks ds vs
  | _, _, _ => []
theorem zip3_zip : ∀ {ks : List Int} {ds : List D} {vs : List V}, ds.length = vs.length → (zip3 ks ds vs).map (fun p => (p.1, p.2.1)) = zipK ks ds
  | [], ds, vs, _ => by cases ds <;> simp [zip3, zipK]
  | k :: ks, [], vs, _ => by cases vs <;> simp [zip3, zipK]
  | k :: ks, d :: ds, [], h => by simp at h
  | k :: ks, d :: ds, v :: vs, h => by
    simp only [zip3, List.map_cons, zipK]
    rw [zip3_zip (by simpa using h)]
theorem zip3_keys : ∀ {ks : List Int} {ds : List D} {vs : List V}, ks.length = ds.length → ds.length = vs.length → (zip3 ks ds vs).map (·.1) = ks
  | [], [], [], _, _ => rfl
  | [], d :: ds, _, h, _ => by simp at h
  | k :: ks, [], _, h, _ => by simp at h
  | k :: ks, d :: ds, [], _, h => by simp at h
  | [], [], v :: vs, _, h => by simp at h
  | k :: ks, d :: ds, v :: vs, h1, h2 => by
    simp only [zip3, List.map_cons]
    rw [zip3_keys (by simpa using h1) (by simpa using h2)]
theorem zip3_each {us : List Value} : ∀ {ks : List Int} {ds : List D} {vs : List V} {us : List Value}, ks.length = ds.length → ds.length = vs.length → Vals vs us → PySem.W.EachIs (fun u (p : Int × (D × V)) => RelV p.2.2 u) us (zip3 ks ds vs)
  | [], [], [], _, _, _, .nil => .nil
  | [], d :: ds, _, _, h, _, _ => by simp at h
  | k :: ks, [], _, _, h, _, _ => by simp at h
  | k :: ks, d :: ds, v :: vs, _, h1, h2, .cons r t => .cons r (zip3_each (us := []) (by simpa using h1) (by simpa using h2) t)
theorem zip3_reps {K : PySem.W.Frag} {H : Hp} {m : List Addr} : ∀ {ks : List Int} {ds : List D} {vs : List V}, Reps K H m ds vs → ∀ p ∈ zip3 ks ds vs, Rep K H m p.2.1 p.2.2
  | [], ds, vs, r, p, hp => by cases r <;> simp [zip3] at hp
  | k :: ks, _, _, .nil, p, hp => by simp [zip3] at hp
  | k :: ks, _, _, .cons r t, p, hp => by
    simp only [zip3] at hp
    rcases List.mem_cons.mp hp with rfl | hp
    · exact r
    · exact zip3_reps t p hp
theorem each_vals : ∀ {us : List Value} {ps : List (Int × (D × V))}, PySem.W.EachIs (fun u (p : Int × (D × V)) => RelV p.2.2 u) us ps → Vals (ps.map fun p => p.2.2) us
  | _, _, .nil => .nil
  | _, _, .cons r t => .cons r (each_vals t)
theorem reps_of {K : PySem.W.Frag} {H : Hp} {m : List Addr} : ∀ {ps : List (Int × (D × V))}, (∀ p ∈ ps, Rep K H m p.2.1 p.2.2) → Reps K H m (ps.map fun p => p.2.1) (ps.map fun p => p.2.2)
  | [], _ => .nil
  | p :: ps, h => .cons (h p List.mem_cons_self) (reps_of fun q hq => h q (List.mem_cons_of_mem _ hq))
section
variable {X : Cx} {tb : TBs}
/-- sorted(e, key=lambda x: body) -/
theorem m_sortK {fe fk : EM} {k i : Nat} {x : Str} {c P : Addr} {e body : Expr} {params : Arguments} {scope : Scope} {p pos lpos kpos : Pos} (hr : Room (k + 4) X.A) (hN : X.N.Nodup) (hi : X.N[i]? = some x) (hg : Gl X "sorted") (hm : X.mg "sorted" = none)
    (TQ : LamX.TabB X.base X.mg c P) (hcode : X.env.code = .ref c) (hPl : (P, X.env.qual ++ "<lambda>") ∈ tb.l) (L : LamS1 X.env.scope scope x) (he : PE X e (TM (GO X tb) fe))
    (hbody : ∀ (s : Shared) (H : Hp) (L f c' : Addr) (A' : Around), Room k A' → PE (X.gx s H (LamX.lamEnv X scope L f c') [] A') body (TM (GO X tb) fk))
    (hbind : ∀ (q : Str) (cl : List (Str × Addr)) (pm cv ctv u : Value), bindArgs (PySem.W.kla_fn "<lambda>" q params body scope cl pm cv ctv) ⟨[u], []⟩ = pure [(x, u)] := by intro _ _ _ _ _ _; rfl)
    (hdef : defaultsOf params X.env = ([], []) := by rfl) (na : starEach [e] X.env = (false, eval e X.env) :: starEach [] X.env := by rfl) 
    (hx : backTo pos (starEach [e] X.env) = (false, eval e X.env) :: backTo pos (starEach [] X.env) := by rfl) (hpl : (backTo pos (starEach [e] X.env)).any (·.1) = false := by rfl)
    (hall : (backToKw pos (keywordEach [⟨some "key", .Lambda params body scope lpos, kpos⟩] X.env)).all (·.1.isSome) = true := by rfl) (hnone : (backToKw pos (keywordEach [⟨some "key", .Lambda params body scope lpos, kpos⟩] X.env)).any (·.1.isNone) = false := by rfl)
    (hks : (backToKw pos (keywordEach [⟨some "key", .Lambda params body scope lpos, kpos⟩] X.env)).filterMap (·.1) = [("key" : Str)] := by rfl) :
    PE X (.Call (.Name "sorted" p) [e] [⟨some "key", .Lambda params body scope lpos, kpos⟩] pos) (TM (GO X tb) (mSortK fe fk i)) := by
  refine ⟨fun pins s σ H Q I h => ?_⟩
  obtain ⟨ρ, hs, m, sl, hr0, r, hs', ee, fin⟩ := h
  unfold mSortK at ee
  split at ee
  · rename_i j hs1 e1
    split at ee
    · rename_i ds e2
      split at ee
      · rename_i ks hs2 e3
        cases ee
        refine wpAny_Call_Name_kw (ld_blt I hg hm (by rfl) ?_ (by decide) (by decide))
        refine PyProof.Rows.callWith_kw (thn ((pa_cons he pa_nil na).run pos pins s σ H (fun vs H1 => ∃ v m1, vs = [v] ∧ Nx m H m1 H1 ∧ HR (GO X tb) m1 hs1 H1 ∧ Rep X.K H1 m1 (.ref j) v) I ⟨ρ, hs, m, sl, hr0, _, _, e1, fun v H1 m1 n1 hr1 rv => ⟨v, m1, rfl, n1, hr1, rv⟩⟩) fun us s1 ⟨vs, H1, I1, r1, v1, m1, ev, n1, hr1, rv1⟩ => ?_) hx hpl hall hnone
        subst ev
        refine thn ((pk_cons (m_lam (pos := lpos) TQ hcode hPl hdef L) pk_nil).run pos pins s1 σ H1 (fun zs H2 => ∃ (f c' : Addr) (pm ctv : Value), zs = [V.ref f] ∧ Nx m1 H1 m1 H2 ∧ HR (GO X tb) m1 hs1 H2 ∧ H2 f = some (.frz (lamO X params body scope pm c' ctv) (.ext fun _ => True)) ∧ CodeF H2 c' (X.env.qual ++ "<lambda>")) I1
          ⟨hs1, m1, hr1, fun f c' pm ctv H2 n2 hr2 hf hc => ⟨f, c', pm, ctv, rfl, n2, hr2, hf, hc⟩⟩) fun ws s2 ⟨zs, H2, I2, r2, f, c', pm, ctv, ez, n2, hr2, hf, hc⟩ => ?_
        subst ez
        rw [hks]
        cases rv1 with
        | ref el =>
        rename_i l
        rw [Vals.ref1 r1, Vals.ref1 r2]
        obtain ⟨xs, hxs, rx⟩ := hr2.lst el e2
        obtain ⟨its, rv, hl, hz⟩ := I2.list (.of hxs)
        have lk := mKeys_len e3
        have lx := rx.length
        have lv := rv.length
        have fpA : FpOk X pins H2 (s2.heap.objs.size + 1) := I2.fpOk (Nat.le_succ _) (I2.hok.fresh (Nat.le_succ _))
        have fpK : FpOk X pins H2 (s2.heap.objs.size + 3) := I2.fpOk (Nat.le_add_right _ 3) (I2.hok.fresh (Nat.le_add_right _ 3))
        refine PySem.W.sortedP (ks := ks) (vs := its) (a := s2.heap.objs.size + 1) (kS := s2.heap.objs.size + 3)
          (fun n s' => ∃ H' m' hsi, L2.Inv X pins σ H' s' ∧ H' (s2.heap.objs.size + 1) = none ∧ H' (s2.heap.objs.size + 3) = none ∧ Nx m1 H2 m' H' ∧ HR (GO X tb) m' hsi H' ∧ mKeys fk i (wipeE ρ [i]) (ds.drop n) hsi = some (ks.drop n, hs2))
          hl.isList (by omega) (by rw [← rv.length]; exact hz) (by have := hr.units; omega) rfl rfl (fun h' kk => ?_) (fun e1 n v k0 hv hk s' xK nK ps nkS na' => ?_) (fun n s' h' tk ps kk => ?_) fun s' out c0 ps na' ko => ?_
        · exact ⟨H2, m1, hs1, I2.kept (t' := s2.toks) kk, fpA.1, fpK.1, .refl, hr2, e3⟩
        · obtain ⟨H', m', hsi, I', ha, hkS, n', hr', er⟩ := ps
          have hlt : n < its.length := (List.getElem?_eq_some_iff.mp hv).1
          have hlx : n < xs.length := by omega
          have hld : n < ds.length := by omega
          have hlk : n < ks.length := by omega
          obtain ⟨v', hv', rvv⟩ := rv.get (List.getElem?_eq_getElem hlx)
          rw [hv] at hv'; cases hv'
          obtain ⟨y', hy', rdd⟩ := rx.get (List.getElem?_eq_getElem hld)
          rw [List.getElem?_eq_getElem hlx] at hy'; cases hy'
          have ek : ks[n] = k0 := by
            rw [List.getElem?_eq_getElem hlk] at hk; exact Option.some.inj hk
          rw [List.drop_eq_getElem_cons hld, List.drop_eq_getElem_cons hlk] at er
          unfold mKeys at er
          split at er
          · rename_i k1 hsj ej
            split at er
            · rename_i ks' hs2' ek2
              simp only [Option.some.injEq, Prod.mk.injEq, List.cons.injEq] at er
              obtain ⟨⟨ek1, ek3⟩, ek4⟩ := er
              subst ek3 ek4
              have ek5 : k1 = k0 := ek1.trans ek
              subst ek5
              have I3 : L2.Inv X (pins ++ [(s2.heap.objs.size + 3, seqObj "list" xK nK), (s2.heap.objs.size + 1, seqObj "list" #[] e1)]) σ H' s' := I'.pins_of fun pp hp => by
                rcases List.mem_append.mp hp with hp | hp
                · exact I'.pin pp (List.mem_append_right _ hp)
                · rcases List.mem_cons.mp hp with rfl | hp
                  · exact ⟨nkS, hkS, fpK.2.1, fpK.2.2.1, fun v z => by cases z⟩
                  · rw [List.mem_singleton.mp hp]
                    exact ⟨na', ha, fpA.2.1, fpA.2.2.1, fun v z => by cases z⟩
              have hf' := n'.keep f _ hf (hr2.no_frz hf) (fun ps z => by cases z)
              have hc' : CodeF H' c' (X.env.qual ++ "<lambda>") := by
                obtain ⟨oc, u, vs, t, g1, g2⟩ := hc
                exact ⟨oc, u, vs, t, n'.keep c' _ g1 (hr2.no_frz g1) (fun ps z => by cases z), g2⟩
              refine wpAny_mono (lam_call1 (k := k) (A' := X.A.in1.in1) I3 L hN hi rvv ((hr.in1.in1).mono (by omega)) I'.ok.frames hf' hc' hbind hbody
                (Q := fun y H'' => ∃ m'', y = .int k1 ∧ Nx m' H' m'' H'' ∧ HR (GO X tb) m'' hsj H'')
                ⟨put (wipeE ρ [i]) i (some ds[n]), hsi, m', ((((sl.nx hr0 n1).nx hr1 n2).nx hr2 n').wipe [i]).set (rdd.nx hr2 n') i, hr', _, _, ej, fun y H'' m'' n'' hr'' ry => ⟨m'', by cases ry; rfl, n'', hr''⟩⟩) (fun r s'' hq => ?_) fun _ _ z => z
              obtain ⟨y, H'', I4, ry, m'', rfl, n'', hr''⟩ := hq
              have p1 := I4.pin (s2.heap.objs.size + 3, seqObj "list" xK nK) (by simp)
              have p2 := I4.pin (s2.heap.objs.size + 1, seqObj "list" #[] e1) (by simp)
              exact ⟨ry, ⟨H'', m'', hsj, I4.unpinned, p2.2.1, p1.2.1, n'.trans n'', hr'', ek2⟩, p1.1, p2.1⟩
            · cases er
          · cases er
        · obtain ⟨H', m', hsi, I', ha, hkS, n', hr', er⟩ := ps
          refine ⟨H', m', hsi, I'.off (ch := [s2.heap.objs.size + 3, s2.heap.objs.size + 1]) (fun b hb => ?_) (fun b o hb e => kk b o (fun z => hb (by simp [z])) (fun z => hb (by simp [z])) e), ha, hkS, n', hr', er⟩
          rcases List.mem_cons.mp hb with rfl | hb
          · exact ⟨hkS, fpK.2⟩
          · rw [List.mem_singleton.mp hb]; exact ⟨ha, fpA.2⟩
        · obtain ⟨H', m', hsi, I', ha, hkS, n', hr', er⟩ := ps
          rw [List.drop_of_length_le (by omega), List.drop_of_length_le (by omega)] at er
          cases er
          have ekk : ks.map PyData.int = (zip3 ks ds xs).map (fun p => PyData.int p.1) := by
            have := congrArg (List.map PyData.int) (zip3_keys lk lx)
            rw [← this, List.map_map]; rfl
          rw [ekk] at ko
          have eo := PySem.W.keyedOut_each (R := fun u (p : Int × (D × V)) => RelV p.2.2 u) (fun p : Int × (D × V) => PyData.int p.1) ko (zip3_each (us := []) lk lx rv)
          rw [PySem.W.dataLe_int (fun p : Int × (D × V) => p.1)] at eo
          have e5 : (zip3 ks ds xs).mergeSort (fun a b => decide (a.1 ≤ b.1)) = srtK (zip3 ks ds xs) := (srtK_eq _).symm
          rw [e5] at eo
          have rall : ∀ p ∈ srtK (zip3 ks ds xs), Rep X.K H' m' p.2.1 p.2.2 := fun p hp => by
            rw [srtK_eq] at hp
            exact (zip3_reps rx p (List.mem_mergeSort.mp hp)).nx hr2 n'
          have ed : (srtK (zip3 ks ds xs)).map (fun p => p.2.1) = sndK (srtK (zipK ks ds)) := by
            rw [sndK_eq, ← zip3_zip lx, ← srtK_map, List.map_map]; rfl
          have hv := each_vals eo
          have hlen : ((srtK (zip3 ks ds xs)).map fun p => p.2.2).length ≤ sizeLine := by
            have := ko.length (by simp; rw [← List.length_map (f := fun p : Int × (D × V) => p.1), zip3_keys lk lx]; omega)
            rw [hv.length]
            omega
          have I4 := I'.adopt (a := s2.heap.objs.size + 1) (o := .lst ((srtK (zip3 ks ds xs)).map fun p => p.2.2)) ⟨ha, fpA.2⟩ ⟨hlen, out, c0, hv, na'⟩
          have nx : Nx m' H' (m' ++ [s2.heap.objs.size + 1]) (upd H' (s2.heap.objs.size + 1) (.lst ((srtK (zip3 ks ds xs)).map fun p => p.2.2))) := .alloc hr' ha
          refine ⟨.ref _, _, I4, rfl, fin _ _ _ (((n1.trans n2).trans n').trans nx) (hr'.alloc ha ⟨_, upd_same, ?_⟩) (Rep.last hr')⟩
          rw [← ed]
          exact reps_of fun p hp => (rall p hp).nx hr' nx
      · cases ee
    · cases ee
  · cases ee
end
end Mir

/-! MirW: sorted of a list of ints; list and len of a dict; index in a text; chains of three comparisons. -/
namespace Mir
open PySem PySem.Spec PyProof.Rows L2

/-! ### sorted(list), ints -/
def insM (x : Int) : List Int → List Int
  | [] => [x]
  | y :: r => match decide (x ≤ y) with
    | true => x :: y :: r
    | false => y :: insM x r
def srtM : List Int → List Int
  | [] => []
  | x :: r => insM x (srtM r)
theorem insM_perm (x : Int) : ∀ l, (insM x l).Perm (x :: l)
  | [] => .refl _
  | y :: r => by
    unfold insM
    split
    · exact .refl _
    · exact ((insM_perm x r).cons y).trans (List.Perm.swap x y r)
theorem srtM_perm : ∀ l, (srtM l).Perm l
  | [] => .refl _
  | x :: r => (insM_perm x _).trans ((srtM_perm r).cons x)
theorem insM_asc (x : Int) : ∀ l : List Int, l.Pairwise (· ≤ ·) → (insM x l).Pairwise (· ≤ ·)
  | [], _ => by simp [insM]
  | y :: r, h => by
    obtain ⟨h1, h2⟩ := List.pairwise_cons.mp h
    unfold insM
    split
    · rename_i e
      have := of_decide_eq_true e
      refine List.pairwise_cons.mpr ⟨fun z hz => ?_, h⟩
      rcases List.mem_cons.mp hz with rfl | hz
      · exact this
      · have := h1 z hz; omega
    · rename_i e
      have := of_decide_eq_false e
      refine List.pairwise_cons.mpr ⟨fun z hz => ?_, insM_asc x r h2⟩
      rcases List.mem_cons.mp ((insM_perm x r).mem_iff.mp hz) with rfl | hz
      · omega
      · exact h1 z hz
theorem srtM_asc : ∀ l : List Int, (srtM l).Pairwise (· ≤ ·)
  | [] => List.Pairwise.nil
  | x :: r => insM_asc x _ (srtM_asc r)
theorem asc_perm_eq : ∀ {a b : List Int}, a.Perm b → a.Pairwise (· ≤ ·) → b.Pairwise (· ≤ ·) → a = b
  | [], b, p, _, _ => (List.nil_perm.mp p).symm
  | x :: a, [], p, _, _ => absurd p.length_eq (by simp)
  | x :: a, y :: b, p, ha, hb => by
    obtain ⟨a1, a2⟩ := List.pairwise_cons.mp ha
    obtain ⟨b1, b2⟩ := List.pairwise_cons.mp hb
    have e : x = y := by
      rcases List.mem_cons.mp (p.mem_iff.mp List.mem_cons_self) with e | h1
      · exact e
      rcases List.mem_cons.mp (p.mem_iff.mpr (List.mem_cons_self (a := y))) with e | h2
      · exact e.symm
      have := b1 x h1
      have := a1 y h2
      omega
    subst e
    rw [asc_perm_eq ((List.perm_cons x).mp p) a2 b2]
def sortL : FM := fun ds hs => match ds with
  | [.ref i] => match at? hs i with
    | some (.lst a) => match intsOf a with
      | some ns => some (.ref hs.length, hs ++ [.lst ((srtM ns).map D.int)])
      | none => none
    | _ => none
  | _ => none
instance : QF sortL := ⟨fun ds hs d hs' h => by
  unfold sortL at h
  split at h
  · split at h
    · split at h
      · cases h; exact .one
      · cases h
    · cases h
  · cases h⟩
theorem cr_sortL {X : Cx} {tb : TBs} : CallR X (.builtin "sorted") (RLM (GO X tb) sortL) := by
  refine CallR.imp' (cr_sortedI (X := X)) fun vs H Q h => ?_
  obtain ⟨ds, hs, m, hr, r, d, hs', e, q⟩ := h
  unfold sortL at e
  split at e
  · split at e
    · rename_i ei
      split at e
      · rename_i ns en
        cases e
        obtain ⟨v, rfl, rv⟩ := reps1 r
        cases rv with
        | ref e1 =>
          obtain ⟨xs, hx, rx⟩ := hr.lst e1 ei
          rw [intsOf_eq en] at rx
          have ex := rx.ints
          subst ex
          refine ⟨_, ns, rfl, .of hx, fun ns' p pm pw hp => ?_⟩
          have e2 := asc_perm_eq (pm.trans (srtM_perm ns).symm) pw (srtM_asc ns)
          subst e2
          exact q _ _ _ (.alloc hr hp) (hr.alloc hp ⟨_, upd_same, reps_ints _⟩) (Rep.last hr)
      · cases e
    · cases e
  · cases e

/-! ### list(d), len(d), d a dict of ints and texts -/
def fstK : List (D × D) → List D
  | [] => []
  | (k, _) :: r => k :: fstK r
theorem fstK_eq : ∀ l : List (D × D), fstK l = l.map (·.1)
  | [] => rfl
  | (k, _) :: r => by rw [fstK, fstK_eq r]; rfl
def lstX : FM := fun ds hs => match ds with
  | [.ref i] => match at? hs i with
    | some (.dK kvs) => some (.ref hs.length, hs ++ [.lst (fstK kvs)])
    | _ => lstL ds hs
  | _ => lstL ds hs
def lenX : FM := fun ds hs => match ds with
  | [.ref i] => match at? hs i with
    | some (.dK kvs) => some (.int kvs.length, hs)
    | _ => lenL ds hs
  | _ => lenL ds hs
instance : QF lstX := ⟨fun ds hs d hs' h => by
  unfold lstX at h
  split at h
  · split at h
    · cases h; exact .one
    · exact QF.q _ _ _ _ h
  · exact QF.q _ _ _ _ h⟩
instance : QF lenX := ⟨fun ds hs d hs' h => by
  unfold lenX at h
  split at h
  · split at h
    · cases h; exact .refl
    · exact QF.q _ _ _ _ h
  · exact QF.q _ _ _ _ h⟩
theorem HR.dk {G : GX} {m : List Addr} {hs : Hs} {H : Hp} (hr : HR G m hs H) {i : Nat} {a : Addr} {kvs : List (D × D)} (e : m[i]? = some a) (h : at? hs i = some (.dK kvs)) : RepO G.K H m a (.dK kvs) :=
  hr.obj i a _ e (by rw [← at?_eq]; exact h)
theorem reps_keys {K : PySem.W.Frag} {H : Hp} {m : List Addr} : ∀ ks : List (Key × V), Reps K H m (ks.map fun p => keyD p.1) (ks.map fun p => kV p.1)
  | [] => .nil
  | (.inl i, _) :: r => .cons (.int i) (reps_keys r)
  | (.inr s, _) :: r => .cons (.str s) (reps_keys r)
theorem cr_lstX {X : Cx} {tb : TBs} (hc : X.calm = true) : CallR X (.type "list") (RLM (GO X tb) lstX) := by
  refine CallR.imp' (CallR.or' (cr_lst (X := X) (tb := tb)) (call_list_dK hc)) fun vs H Q h => ?_
  obtain ⟨ds, hs, m, hr, r, d, hs', e, q⟩ := h
  unfold lstX at e
  split at e
  · split at e
    · rename_i kvs ei
      cases e
      obtain ⟨v, rfl, rv⟩ := reps1 r
      cases rv with
      | ref e1 =>
        obtain ⟨ks, hx, hk, rx⟩ := hr.dk e1 ei
        refine .inr ⟨_, ks, rfl, hx, fun p hp => q _ _ _ (.alloc hr hp) (hr.alloc hp ⟨_, upd_same, ?_⟩) (Rep.last hr)⟩
        rw [fstK_eq, hk]
        exact reps_keys ks
    · exact .inl ⟨_, hs, m, hr, r, d, hs', e, q⟩
  · exact .inl ⟨_, hs, m, hr, r, d, hs', e, q⟩
theorem cr_lenX {X : Cx} {tb : TBs} : CallR X (.builtin "len") (RLM (GO X tb) lenX) := by
  refine CallR.imp' (CallR.or' (cr_len (X := X) (tb := tb)) call_lenD) fun vs H Q h => ?_
  obtain ⟨ds, hs, m, hr, r, d, hs', e, q⟩ := h
  unfold lenX at e
  split at e
  · split at e
    · rename_i kvs ei
      cases e
      obtain ⟨v, rfl, rv⟩ := reps1 r
      cases rv with
      | ref e1 =>
        obtain ⟨ks, hx, hk, rx⟩ := hr.dk e1 ei
        have hl := congrArg List.length hk
        rw [List.length_map, List.length_map] at hl
        exact .inr ⟨_, ks, rfl, hx, by rw [← hl]; exact q _ _ _ .refl hr (.int _)⟩
    · exact .inl ⟨_, hs, m, hr, r, d, hs', e, q⟩
  · exact .inl ⟨_, hs, m, hr, r, d, hs', e, q⟩

/-! ### s.index(t) -/
def sidxF : F2 := fun d e hs => match d, e with
  | .str a, .str b => match Builtin.Str.occurrences a b 0 a.length 1 with
    | i :: _ => some (.int (i : Nat), hs)
    | [] => none
  | _, _ => none
instance : Q2 sidxF := ⟨fun d e hs r hs' h => by
  unfold sidxF at h
  split at h
  · split at h
    · cases h; exact .refl
    · cases h
  · cases h⟩
def strE (f : EM) : EM := fun ρ hs => match f ρ hs with
  | some (.str a, hs') => some (.str a, hs')
  | _ => none
section
variable {X : Cx} {tb : TBs}
theorem m_sidx {o e : Expr} {fo fe : EM} {apos cpos : Pos} (ho : PE X o (TM (GO X tb) fo)) (he : PE X e (TM (GO X tb) fe))
    (hbase : attributeBase o "index" X.env (eval o X.env) = eval o X.env := by rfl)
    (hfew : ((backTo cpos (starEach (e :: []) X.env)).all (fun x => !x.1) && (backToKw cpos (keywordEach [] X.env)).all (fun x => x.1.isSome)
      && decide ((e :: []).length + ([] : List Keyword).length + (if ([] : List Keyword).isEmpty then 0 else 1) < 30)) = true := by rfl)
    (hline : (apos.endLine == cpos.line) = true := by rfl) (hs : starEach (e :: []) X.env = (false, eval e X.env) :: starEach [] X.env := by rfl) (hplain : (backTo cpos (starEach [] X.env)).any (·.1) = false := by rfl) :
    PE X (.Call (.Attribute o "index" apos) [e] [] cpos) (TM (GO X tb) (mBin sidxF (strE fo) fe)) := by
  refine (pe_bm PySem.F.plainAttrs_str PySem.F.slot_str_index PySem.F.type_str_index mt_sindex ho (pa_cons he pa_nil hs) hbase hfew hline hs hplain).imp fun σ H Q ⟨ρ, hs, m, sl, hr, d, hs', ee, q⟩ => ?_
  unfold mBin at ee
  split at ee
  · rename_i d1 hs1 e1
    split at ee
    · rename_i d2 hs2 e2
      unfold strE at e1
      split at e1
      · rename_i a hs1' e1'
        cases e1
        refine ⟨ρ, hs, m, sl, hr, _, _, e1', fun v H1 m1 n1 hr1 rv => ?_⟩
        cases rv
        refine ⟨rfl, ρ, hs1, m1, sl.nx hr n1, hr1, _, _, e2, fun w H2 m2 n2 hr2 rw => ?_⟩
        unfold sidxF at ee
        split at ee
        · rename_i a' b' ea
          cases ea
          cases rw
          split at ee
          · rename_i i rest eo
            cases ee
            exact ⟨_, _, i, rest, rfl, rfl, eo, q _ _ _ (n1.trans n2) hr2 (.int _)⟩
          · cases ee
        · cases ee
      · cases e1
    · cases ee
  · cases ee
instance {f : EM} [a : QE f] : QE (strE f) := ⟨fun ρ hs d hs' h => by
  unfold strE at h
  split at h
  · rename_i e; cases h; exact a.q _ _ _ _ e
  · cases h⟩

/-! ### a op b op' c op'' d -/
variable {a b c d : Expr} {fa fb fc fd : EM} {pos : Pos}
def mChain3 (f2 f2' f2'' : F2) (fa fb fc fd : EM) : EM := fun ρ hs => match fa ρ hs with
  | some (d, hs1) => match fb ρ hs1 with
    | some (e, hs2) => match f2 d e hs2 with
      | some (.bl true, hs3) => match fc ρ hs3 with
        | some (g, hs4) => match f2' e g hs4 with
          | some (.bl true, hs5) => match fd ρ hs5 with
            | some (k, hs6) => f2'' g k hs6
            | none => none
          | some (.bl false, hs5) => some (.bl false, hs5)
          | _ => none
        | none => none
      | some (.bl false, hs3) => some (.bl false, hs3)
      | _ => none
    | none => none
  | none => none
instance {f2 f2' f2'' : F2} {f g k l : EM} [a : QE f] [b : QE g] [c : QE k] [e : QE l] [p : Q2 f2] [p' : Q2 f2'] [p'' : Q2 f2''] : QE (mChain3 f2 f2' f2'' f g k l) := ⟨fun ρ hs d hs' h => by
  unfold mChain3 at h
  split at h
  · rename_i e1
    split at h
    · rename_i e2
      split at h
      · rename_i e3
        split at h
        · rename_i e4
          have g1 := (((a.q _ _ _ _ e1).trans (b.q _ _ _ _ e2)).trans (p.q _ _ _ _ _ e3)).trans (c.q _ _ _ _ e4)
          split at h
          · rename_i e5
            split at h
            · rename_i e6
              exact ((g1.trans (p'.q _ _ _ _ _ e5)).trans (e.q _ _ _ _ e6)).trans (p''.q _ _ _ _ _ h)
            · cases h
          · rename_i e5
            cases h
            exact g1.trans (p'.q _ _ _ _ _ e5)
          · cases h
        · cases h
      · rename_i e3
        cases h
        exact ((a.q _ _ _ _ e1).trans (b.q _ _ _ _ e2)).trans (p.q _ _ _ _ _ e3)
      · cases h
    · cases h
  · cases h⟩
def tChain3 (r r' r'' : R2) (ta tb tc td : TE) : TE := fun σ H Q => ta σ H fun x H1 => tb σ H1 fun y H2 => r x y H2 fun z H3 => ∃ k, z = .bl k ∧
  (if k = true then tc σ H3 fun w H4 => r' y w H4 fun z' H5 => ∃ k', z' = .bl k' ∧ (if k' = true then td σ H5 fun u H6 => r'' w u H6 Q else Q (.bl false) H5) else Q (.bl false) H3)
theorem pe_chain3 {op op' op'' : CmpOp} {r r' r'' : R2} {ta tb' tc td : TE} (ho : OpR X (compareOp op) r) (ho' : OpR X (compareOp op') r') (ho'' : OpR X (compareOp op'') r'') (ha : PE X a ta) (hb : PE X b tb') (hc : PE X c tc) (hd : PE X d td)
    (hm : lastMarks [op, op', op''] [b, c, d] = false := by with_unfolding_all rfl) : PE X (.Compare a [op, op', op''] [b, c, d] pos) (tChain3 r r' r'' ta tb' tc td) := by
  refine ⟨fun pins s σ H Q I h => ?_⟩
  refine Compare_chain (thn (ha.run pins s σ H _ I h) fun v s1 ⟨x, H1, I1, r1, q1⟩ => chain_link (thn (hb.run pins s1 σ H1 _ I1 q1) fun u s2 ⟨y, H2, I2, r2, q2⟩ =>
    thn (ho pins s2 σ H2 x y v u _ I2 r1 r2 q2) fun d s3 ⟨z, H3, I3, r3, k, e, q3⟩ => ?_)) hm
  subst e
  cases r3
  refine wpAny_truthy_bool ?_
  cases k with
  | false => exact ite_ff ⟨.bl false, H3, I3, rfl, q3⟩
  | true =>
    refine ite_tt (chain_link (thn (hc.run pins s3 σ H3 _ I3 q3) fun w' s4 ⟨z', H4, I4, r4, q4⟩ => thn (ho' pins s4 σ H4 y z' u w' _ I4 r2 r4 q4) fun d5 s5 ⟨z5, H5, I5, r5, k5, e5, q5⟩ => ?_))
    subst e5
    cases r5
    refine wpAny_truthy_bool ?_
    cases k5 with
    | false => exact ite_ff ⟨.bl false, H5, I5, rfl, q5⟩
    | true => exact ite_tt (chain_last (thn (hd.run pins s5 σ H5 _ I5 q5) fun w6 s6 ⟨z6, H6, I6, r6, q6⟩ => ho'' pins s6 σ H6 z' z6 w' w6 Q I6 r4 r6 q6))
theorem pt_chain3 {op op' op'' : CmpOp} {r r' r'' : R2} {ta tb' tc td : TE} (ho : OpR X (compareOp op) r) (ho' : OpR X (compareOp op') r') (ho'' : OpR X (compareOp op'') r'') (ha : PE X a ta) (hb : PE X b tb') (hc : PE X c tc) (hd : PE X d td)
    (hm : lastMarks [op, op', op''] [b, c, d] = false := by with_unfolding_all rfl) : PT X (.Compare a [op, op', op''] [b, c, d] pos) (tTest (tChain3 r r' r'' ta tb' tc td)) := by
  refine ⟨fun pins s σ H Q I h => ?_⟩
  refine isTrue_chain (thn (ha.run pins s σ H _ I h) fun v s1 ⟨x, H1, I1, r1, q1⟩ => test_link (thn (hb.run pins s1 σ H1 _ I1 q1) fun u s2 ⟨y, H2, I2, r2, q2⟩ =>
    thn (ho pins s2 σ H2 x y v u _ I2 r1 r2 q2) fun d s3 ⟨z, H3, I3, r3, k, e, q3⟩ => ?_)) hm
  subst e
  cases r3
  refine wpAny_truthy_bool ?_
  cases k with
  | false =>
    obtain ⟨k', e', q'⟩ := q3
    cases e'
    exact ite_ff ⟨H3, I3, q'⟩
  | true =>
    refine ite_tt (test_link (thn (hc.run pins s3 σ H3 _ I3 q3) fun w' s4 ⟨z', H4, I4, r4, q4⟩ => thn (ho' pins s4 σ H4 y z' u w' _ I4 r2 r4 q4) fun d5 s5 ⟨z5, H5, I5, r5, k5, e5, q5⟩ => ?_))
    subst e5
    cases r5
    refine wpAny_truthy_bool ?_
    cases k5 with
    | false =>
      obtain ⟨k', e', q'⟩ := q5
      cases e'
      exact ite_ff ⟨H5, I5, q'⟩
    | true =>
      refine ite_tt (test_last (thn (hd.run pins s5 σ H5 _ I5 q5) fun w6 s6 ⟨z6, H6, I6, r6, q6⟩ => thn (ho'' pins s6 σ H6 z' z6 w' w6 _ I6 r4 r6 q6) fun d7 s7 ⟨z7, H7, I7, r7, k7, e7, q7⟩ => ?_))
      subst e7
      cases r7
      exact wpAny_truthy_bool ⟨H7, I7, q7⟩
theorem tm_chain3 {G : GX} {f2 f2' f2'' : F2} {σ : L2.St} {H : Hp} {Q : VK} (h : TM G (mChain3 f2 f2' f2'' fa fb fc fd) σ H Q) : tChain3 (R2M G f2) (R2M G f2') (R2M G f2'') (TM G fa) (TM G fb) (TM G fc) (TM G fd) σ H Q := by
  obtain ⟨ρ, hs, m, sl, hr, r, hs', e, q⟩ := h
  unfold mChain3 at e
  split at e
  · rename_i d hs1 e1
    split at e
    · rename_i e2 hs2 ee
      refine ⟨ρ, hs, m, sl, hr, d, hs1, e1, fun x H1 m1 n1 hr1 rx => ?_⟩
      refine ⟨ρ, hs1, m1, sl.nx hr n1, hr1, e2, hs2, ee, fun y H2 m2 n2 hr2 ry => ?_⟩
      split at e
      · rename_i hs3 e3
        refine ⟨d, e2, hs2, m2, hr2, rx.nx hr1 n2, ry, _, _, e3, fun z H3 m3 n3 hr3 rz => ⟨true, by cases rz; rfl, ?_⟩⟩
        refine iteT ?_
        split at e
        · rename_i g hs4 e4
          refine ⟨ρ, hs3, m3, ((sl.nx hr n1).nx hr1 n2).nx hr2 n3, hr3, g, hs4, e4, fun w H4 m4 n4 hr4 rw => ?_⟩
          have n14 := ((n1.trans n2).trans n3).trans n4
          split at e
          · rename_i hs5 e5
            refine ⟨e2, g, hs4, m4, hr4, (ry.nx hr2 n3).nx hr3 n4, rw, _, _, e5, fun z5 H5 m5 n5 hr5 rz5 => ⟨true, by cases rz5; rfl, ?_⟩⟩
            refine iteT ?_
            split at e
            · rename_i k hs6 e6
              refine ⟨ρ, hs5, m5, ((((sl.nx hr n1).nx hr1 n2).nx hr2 n3).nx hr3 n4).nx hr4 n5, hr5, k, hs6, e6, fun u H6 m6 n6 hr6 ru => ?_⟩
              exact ⟨g, k, hs6, m6, hr6, (rw.nx hr4 n5).nx hr5 n6, ru, r, hs', e, fun v H' m' n' => q v H' m' (((n14.trans n5).trans n6).trans n')⟩
            · cases e
          · rename_i hs5 e5
            cases e
            refine ⟨e2, g, hs4, m4, hr4, (ry.nx hr2 n3).nx hr3 n4, rw, _, _, e5, fun z5 H5 m5 n5 hr5 rz5 => ⟨false, by cases rz5; rfl, ?_⟩⟩
            refine iteF ?_
            exact q _ _ _ (n14.trans n5) hr5 (.bl _)
          · cases e
        · cases e
      · rename_i hs3 e3
        cases e
        refine ⟨d, e2, hs2, m2, hr2, rx.nx hr1 n2, ry, _, _, e3, fun z H3 m3 n3 hr3 rz => ⟨false, by cases rz; rfl, ?_⟩⟩
        refine iteF ?_
        exact q _ _ _ ((n1.trans n2).trans n3) hr3 (.bl _)
      · cases e
    · cases e
  · cases e
theorem m_chain3 {op op' op'' : CmpOp} {f2 f2' f2'' : F2} (ho : OpR X (compareOp op) (R2M (GO X tb) f2)) (ho' : OpR X (compareOp op') (R2M (GO X tb) f2')) (ho'' : OpR X (compareOp op'') (R2M (GO X tb) f2'')) (ha : PE X a (TM (GO X tb) fa)) (hb : PE X b (TM (GO X tb) fb)) (hc : PE X c (TM (GO X tb) fc)) (hd : PE X d (TM (GO X tb) fd))
    (hm : lastMarks [op, op', op''] [b, c, d] = false := by with_unfolding_all rfl) : PE X (.Compare a [op, op', op''] [b, c, d] pos) (TM (GO X tb) (mChain3 f2 f2' f2'' fa fb fc fd)) := (pe_chain3 ho ho' ho'' ha hb hc hd hm).imp fun _ _ _ => tm_chain3
theorem mt_chain3 {op op' op'' : CmpOp} {f2 f2' f2'' : F2} (ho : OpR X (compareOp op) (R2M (GO X tb) f2)) (ho' : OpR X (compareOp op') (R2M (GO X tb) f2')) (ho'' : OpR X (compareOp op'') (R2M (GO X tb) f2'')) (ha : PE X a (TM (GO X tb) fa)) (hb : PE X b (TM (GO X tb) fb)) (hc : PE X c (TM (GO X tb) fc)) (hd : PE X d (TM (GO X tb) fd))
    (hm : lastMarks [op, op', op''] [b, c, d] = false := by with_unfolding_all rfl) : PT X (.Compare a [op, op', op''] [b, c, d] pos) (TB (GO X tb) (mTest (mChain3 f2 f2' f2'' fa fb fc fd))) := (pt_chain3 ho ho' ho'' ha hb hc hd hm).imp fun _ _ _ h => tm_chain3 (tb_test h)
end
end Mir

/-! MirX: x = {k: v for ..}. -/
namespace Mir
open PySem PySem.Spec PyProof.Rows L2
theorem sw_trueD {kx vx : Expr} {gs : List Comprehension} {scope : Scope} {pos py : Pos} {y : Str} {l : Nat} {env : Env} (hk : env.scope.kind = .function) (hy : env.scope.names.lookup y = some .local) (hl : (py.line == pos.line) = true)
    (ha : (scope.names.any fun (n, k) => n == y && (k == .local || k == .cell)) = false) : swapsWith (.DictComp kx vx gs scope pos) (some (.Name y py)) l env = pure true := by
  have ky : env.kindOf y = some .local := hy
  have hb : env.blockKind = .function := by unfold Env.blockKind; rw [hk]; rfl
  unfold swapsWith
  simp only [hb, ky, ha, Expr.pos, hl]
  rfl
section
variable {X : Cx} {tb : TBs} {kx vx tg iter : Expr} {ifs : List Expr} {scope : Scope} {own : List (Str × Nat)} {pos : Pos} {s : IM} {ts : List Nat} {g : GM} {c : BM} {fk fv : EM}
theorem ms_setDc [qc : QB c] [qk : QE fk] [qf : QE fv] {i : Nat} {y : Str} {py spos : Pos} (hc : X.calm = true) (hN : X.N.Nodup) (hy : X.N[i]? = some y) (hyl : X.env.scope.names.lookup y = some .local)
    (hsw : swapsWith (.DictComp kx vx [⟨tg, iter, ifs, 0⟩] scope pos) (some (.Name y py)) spos.line X.env = pure true) (hi : PI X tg iter (TIW (GO X tb) s)) (ok : BlkOk X.N X.env.scope scope own)
    (hg : ∀ (s : Shared) (H : Hp) (C : Addr) (cl : List (Str × Addr)) (fp : List Addr), PG (X.blk s H scope (compEnvC scope cl C X.env) fp) tg (TGM (GO X tb) ts g)) (ht : ∀ (s : Shared) (H : Hp) (C : Addr) (cl : List (Str × Addr)) (fp : List Addr), PTs (X.blk s H scope (compEnvC scope cl C X.env) fp) ifs (TB (GO X tb) c))
    (hk : ∀ (s : Shared) (H : Hp) (C : Addr) (cl : List (Str × Addr)) (fp : List Addr), PE (X.blk s H scope (compEnvC scope cl C X.env) fp) kx (TM (GO X tb) fk)) (he : ∀ (s : Shared) (H : Hp) (C : Addr) (cl : List (Str × Addr)) (fp : List Addr), PE (X.blk s H scope (compEnvC scope cl C X.env) fp) vx (TM (GO X tb) fv))
    (hts : ∀ i ∈ ts, i ∈ own.map (·.2) := by decide) (hs : ∀ x, foldedSetIterable iter X.env x = pure x := by intro _; rfl) :
    PS X (.Assign [.Name y py] (.DictComp kx vx [⟨tg, iter, ifs, 0⟩] scope pos) spos) (TSM (GO X tb) (mSet i (mDc s g c fk fv (own.map (·.2))))) := by
  refine ⟨fun pins s0 σ H D I h => ?_⟩
  rw [exec_Assign_Name_used _ _ _ _ hsw]
  refine wpAny_bind (wpAny_standAt (wpAny_bind ?_))
  show wpAny _ X.A (do let _ ← comprehension (.DictComp kx vx [⟨tg, iter, ifs, 0⟩] scope pos) scope X.env (firstIterPos [⟨tg, iter, ifs, 0⟩] pos) (newObj (.type "dict") (.dict #[])) false (eval iter X.env) (some (assign (.Name y py) X.env))) _ _ s0
  have h2 : tDc (TIW (GO X tb) s) (TGM (GO X tb) ts g) (TB (GO X tb) c) (TM (GO X tb) fk) (TM (GO X tb) fv) (own.map (·.2)) σ H (fun x H1 => gName i x σ H1 D.nx) := by
    obtain ⟨ρ, hs0, m, sl, hr, r, ee, q⟩ := h
    unfold mSet at ee
    split at ee
    · rename_i d hs' e'
      cases ee
      exact tm_dc hts ⟨ρ, hs0, m, sl, hr, d, hs', e', fun v H' m' n' hr' rv => q _ H' m' n' hr' ((sl.nx hr n').set rv i)⟩
    · cases ee
  refine wpAny_bind (thn (dc_core (Qf := fun _ s' => SP X pins D .next s') hc hN I hi ok hg ht hk he hs h2 fun L C s' m H' I' q hn f => ?_) fun _ s' hq => wpAny_pure (wpAny_pure hq))
  show wpAny _ _ (assign (.Name y py) X.env (.ref L)) _ _ _
  refine wpAny_assign_Name (store_ok2 (v := V.ref L) I' hN hy (.inl hyl) rfl (fun s2 I2 ⟨a, sb, ha⟩ => ?_) (.inr hyl))
  obtain ⟨f0, f1, f2, f3, f4, f5⟩ := f
  have haC : C ≠ a := by
    rcases ha with z | z
    · rw [z]; exact f1
    · exact fun e => f4 y a z e.symm
  refine ⟨m, hn.sameBut sb haC, fun h3 sb3 => ?_⟩
  exact ⟨_, H', I2.turned (t' := s2.toks) (fun b o hb e => (sb3.2 b hb).trans e) f0 f1 f3 f4 f5, q⟩
end
end Mir

/-! MirY: Euclid's loop is the greatest common divisor. -/
namespace Mir
open PySem PySem.Spec PyProof.Rows L2

def gcdT : BM := mTest (mBin gtD (mVar 1) (mC (.int 0)))
def gcdB : SM := mPar 0 1 (mCons (mVar 1) (mCons (mBin modD (mVar 0) (mVar 1)) mNil))
def gcdM : SM := (mSeq (mWhile 40000 (mTest (mBin gtD (mVar 1) (mC (.int 0)))) (mPar 0 1 (mCons (mVar 1) (mCons (mBin modD (mVar 0) (mVar 1)) mNil)))) (mRet (mVar 0)))
def gcdF : FM := fun ds hs => match ds with
  | [.int (.ofNat a), .int (.ofNat b)] => match Nat.blt b (2 ^ 19901) with
    | true => some (.int (.ofNat (Nat.gcd a b)), hs)
    | false => none
  | _ => none
instance : QF gcdF := ⟨fun ds hs d hs' h => by
  unfold gcdF at h
  split at h
  · split at h
    · cases h; exact .refl
    · cases h
  · cases h⟩
def gE (a b : Nat) : En := [some (.int (.ofNat a)), some (.int (.ofNat b))]
theorem gcd_stop (N a : Nat) (hs : Hs) : mWhile (N + 1) gcdT gcdB (gE a 0) hs = some (.nx (gE a 0) hs) := rfl
theorem gcd_turn (N a b : Nat) (hs : Hs) : mWhile (N + 1) gcdT gcdB (gE a (b + 1)) hs = mWhile N gcdT gcdB (gE (b + 1) (a % (b + 1))) hs := by
  have e : gcdT (gE a (b + 1)) hs = some (true, hs) := by
    show some (decide ((Int.ofNat (b + 1)) > 0), hs) = _
    have : decide ((Int.ofNat (b + 1)) > 0) = true := decide_eq_true (by show (0 : Int) < ((b + 1 : Nat) : Int); omega)
    rw [this]
  have e2 : gcdB (gE a (b + 1)) hs = some (.nx (gE (b + 1) (a % (b + 1))) hs) := rfl
  show (match gcdT (gE a (b + 1)) hs with
    | some (false, hs') => some (Rs.nx (gE a (b + 1)) hs')
    | some (true, hs') => match gcdB (gE a (b + 1)) hs' with
      | some (.nx ρ' hs2) => mWhile N gcdT gcdB ρ' hs2
      | some (.ct ρ' hs2) => mWhile N gcdT gcdB ρ' hs2
      | some (.bk ρ' hs2) => some (.nx ρ' hs2)
      | some (.ret d hs2) => some (.ret d hs2)
      | none => none
    | none => none) = _
  rw [e]
  simp only [e2]
theorem gcd_loop : ∀ (k a b N : Nat) (hs : Hs), b < 2 ^ k → 2 * k + 1 ≤ N → mWhile N gcdT gcdB (gE a b) hs = some (.nx (gE (Nat.gcd a b) 0) hs)
  | 0, a, b, N, hs, h, hN => by
    have e : b = 0 := by simpa using h
    subst e
    obtain ⟨M, rfl⟩ : ∃ M, N = M + 1 := ⟨N - 1, by omega⟩
    rw [gcd_stop, Nat.gcd_zero_right]
  | k + 1, a, b, N, hs, h, hN => by
    obtain ⟨M, rfl⟩ : ∃ M, N = M + 2 := ⟨N - 2, by omega⟩
    cases b with
    | zero => rw [gcd_stop, Nat.gcd_zero_right]
    | succ b =>
      rw [gcd_turn, Nat.gcd_comm, Nat.gcd_succ, Nat.gcd_comm]
      have hr := Nat.mod_lt a (show 0 < b + 1 by omega)
      generalize a % (b + 1) = r at hr ⊢
      cases r with
      | zero => rw [gcd_stop, Nat.gcd_zero_right]
      | succ r =>
        rw [gcd_turn, Nat.gcd_comm, Nat.gcd_succ, Nat.gcd_comm]
        refine gcd_loop k (r + 1) ((b + 1) % (r + 1)) M hs ?_ (by omega)
        have h1 := Nat.mod_lt (b + 1) (show 0 < r + 1 by omega)
        have h2 := Nat.div_add_mod (b + 1) (r + 1)
        have h3 : 1 ≤ (b + 1) / (r + 1) := Nat.div_pos (by omega) (Nat.succ_pos r)
        have h4 : (r + 1) * 1 ≤ (r + 1) * ((b + 1) / (r + 1)) := Nat.mul_le_mul_left _ h3
        have h5 : 2 ^ (k + 1) = 2 * 2 ^ k := by rw [Nat.pow_succ]; omega
        omega
theorem gcd_ok {ds : List D} {hs : Hs} {r : D × Hs} (h : gcdF ds hs = some r) : FP (mBody gcdM 0) ds hs = some r := by
  unfold gcdF at h
  split at h
  · rename_i a b
    split at h
    · rename_i hb
      cases h
      have hlt : b < 2 ^ 19901 := Nat.le_of_ble_eq_true hb
      have e := gcd_loop 19901 a b 40000 [] hlt (by decide)
      have e2 : mBody gcdM 0 [.int (.ofNat a), .int (.ofNat b)] [] = some (.int (.ofNat (Nat.gcd a b)), []) := by
        show (match (match mWhile 40000 gcdT gcdB (gE a b) [] with
          | some (.nx ρ' hs') => mRet (mVar 0) ρ' hs'
          | some r => some r
          | none => none) with
          | some (.nx _ hs') => some (D.non, hs')
          | some (.ret d hs') => some (d, hs')
          | _ => none) = _
        rw [e]
        rfl
      show (match mBody gcdM 0 [.int (.ofNat a), .int (.ofNat b)] [] with
        | some (d, hs') => match shal 12 d with
          | true => some (d, hs)
          | false => some (shD hs.length d, hs ++ hs'.map (shO hs.length))
        | none => none) = _
      rw [e2]
      rfl
    · cases h
  · cases h
end Mir

/-! MirZ: sorted of a list of tuples of ints; min of two; reversed of a tuple; a tuple times a number. -/
namespace Mir
open PySem PySem.Spec PyProof.Rows L2

/-! ### sorted lists with repeats -/
def insS {α : Type} (lt : α → α → Bool) (x : α) : List α → List α
  | [] => [x]
  | y :: r => match lt y x with
    | true => y :: insS lt x r
    | false => x :: y :: r
def srtS {α : Type} (lt : α → α → Bool) : List α → List α
  | [] => []
  | x :: r => insS lt x (srtS lt r)
section
variable {α : Type} {lt : α → α → Bool}
abbrev AscE (lt : α → α → Bool) (l : List α) : Prop := l.Pairwise fun a b => lt b a = false
theorem insS_perm (x : α) : ∀ l, (insS lt x l).Perm (x :: l)
  | [] => .refl _
  | y :: r => by
    unfold insS
    split
    · exact ((insS_perm x r).cons y).trans (List.Perm.swap x y r)
    · exact .refl _
theorem srtS_perm : ∀ l, (srtS lt l).Perm l
  | [] => .refl _
  | x :: r => (insS_perm x _).trans ((srtS_perm r).cons x)
theorem Tot.le_tr (T : Tot lt) {a b c : α} (h1 : lt b a = false) (h2 : lt c b = false) : lt c a = false := by
  cases e : lt c a with
  | false => rfl
  | true =>
    cases e2 : lt a b with
    | true =>
      have := T.tr _ _ _ e e2
      rw [h2] at this; cases this
    | false =>
      have := T.tri a b e2 h1
      subst this
      rw [h2] at e; cases e
theorem Tot.le_of (T : Tot lt) {a b : α} (h : lt a b = true) : lt b a = false := by
  cases e : lt b a with
  | false => rfl
  | true =>
    have := T.tr _ _ _ h e
    rw [T.irr] at this; cases this
theorem insS_asc (T : Tot lt) (x : α) : ∀ l : List α, AscE lt l → AscE lt (insS lt x l)
  | [], _ => by simp [insS, AscE]
  | y :: r, h => by
    obtain ⟨h1, h2⟩ := List.pairwise_cons.mp h
    unfold insS
    split
    · rename_i e
      refine List.pairwise_cons.mpr ⟨fun z hz => ?_, insS_asc T x r h2⟩
      rcases List.mem_cons.mp ((insS_perm x r).mem_iff.mp hz) with rfl | hz
      · exact T.le_of e
      · exact h1 z hz
    · rename_i e
      refine List.pairwise_cons.mpr ⟨fun z hz => ?_, h⟩
      rcases List.mem_cons.mp hz with rfl | hz
      · exact e
      · exact T.le_tr e (h1 z hz)
theorem srtS_asc (T : Tot lt) : ∀ l : List α, AscE lt (srtS lt l)
  | [] => List.Pairwise.nil
  | x :: r => insS_asc T x _ (srtS_asc T r)
theorem ascE_eq (T : Tot lt) : ∀ {a b : List α}, a.Perm b → AscE lt a → AscE lt b → a = b
  | [], b, p, _, _ => (List.nil_perm.mp p).symm
  | x :: a, [], p, _, _ => absurd p.length_eq (by simp)
  | x :: a, y :: b, p, ha, hb => by
    obtain ⟨a1, a2⟩ := List.pairwise_cons.mp ha
    obtain ⟨b1, b2⟩ := List.pairwise_cons.mp hb
    have e : x = y := by
      rcases List.mem_cons.mp (p.mem_iff.mp List.mem_cons_self) with e | h1
      · exact e
      rcases List.mem_cons.mp (p.mem_iff.mpr (List.mem_cons_self (a := y))) with e | h2
      · exact e.symm
      exact T.tri _ _ (b1 x h1) (a1 y h2)
    subst e
    rw [ascE_eq T ((List.perm_cons x).mp p) a2 b2]
end
/-! ### sorted(list), tuples of ints -/
def okS : List (List Int) → Bool
  | [] => true
  | [_] => true
  | a :: b :: r => allNe (a :: b :: r)
where allNe : List (List Int) → Bool
  | [] => true
  | [] :: _ => false
  | (_ :: _) :: r => allNe r
theorem allNe_eq : ∀ {l : List (List Int)}, okS.allNe l = true → ∀ a ∈ l, ∃ x r, a = x :: r
  | [], _, a, h => by cases h
  | [] :: _, h, _, _ => by cases h
  | (x :: y) :: r, h, a, ha => by
    rcases List.mem_cons.mp ha with rfl | ha
    · exact ⟨x, y, rfl⟩
    · exact allNe_eq (l := r) h a ha
def sortTL : FM := fun ds hs => match ds with
  | [.ref i] => match at? hs i with
    | some (.lst a) => match tupsOf a with
      | some nss => match okS nss with
        | true => some (.ref hs.length, hs ++ [.lst ((srtS ltL nss).map tI)])
        | false => none
      | none => none
    | _ => none
  | _ => none
instance : QF sortTL := ⟨fun ds hs d hs' h => by
  unfold sortTL at h
  split at h
  · split at h
    · split at h
      · split at h
        · cases h; exact .one
        · cases h
      · cases h
    · cases h
  · cases h⟩
theorem isIT_tI (l : List Int) : isIT (tI l) = true := by
  show allL isI (l.map D.int) = true
  induction l with
  | nil => rfl
  | cons x r ih => exact ih
theorem allL_of {p : D → Bool} : ∀ {l : List D}, (∀ d ∈ l, p d = true) → allL p l = true
  | [], _ => rfl
  | d :: r, h => by
    unfold allL
    rw [h d List.mem_cons_self]
    exact allL_of fun x hx => h x (List.mem_cons_of_mem _ hx)
theorem cmpAll_tI (nss : List (List Int)) : cmpAll (nss.map tI) = true := by
  unfold cmpAll
  split
  · rfl
  · refine allL_of fun d hd => ?_
    obtain ⟨l, _, rfl⟩ := List.mem_map.mp hd
    exact isIT_tI l
theorem dlt_tI (a b : List Int) : dlt (tI a) (tI b) = ltL a b := by
  show ltT (a.map D.int) (b.map D.int) = ltL a b
  induction a generalizing b with
  | nil => cases b <;> simp [ltT, ltL]
  | cons x a ih =>
    cases b with
    | nil => simp [ltT, ltL]
    | cons y b =>
      simp only [List.map_cons, ltT, ltL]
      cases intEq x y with
      | true => exact ih b
      | false => rfl
def zip2 : List (List Int) → List V → List (List Int × V)
  | a :: r, v :: s => (a, v) :: zip2 r s
  | _, _ => []
theorem zip2_fst : ∀ {l : List (List Int)} {vs : List V}, l.length = vs.length → (zip2 l vs).map (·.1) = l
  | [], [], _ => rfl
  | [], _ :: _, h => by simp at h
  | _ :: _, [], h => by simp at h
  | a :: l, v :: vs, h => by simp [zip2, zip2_fst (l := l) (vs := vs) (by simpa using h)]
theorem zip2_each : ∀ {l : List (List Int)} {vs : List V} {us : List Value}, l.length = vs.length → Vals vs us → PySem.W.EachIs (fun u (p : List Int × V) => RelV p.2 u) us (zip2 l vs)
  | [], [], _, _, .nil => .nil
  | [], _ :: _, _, h, _ => by simp at h
  | _ :: _, [], _, h, _ => by simp at h
  | a :: l, v :: vs, _, h, .cons r t => .cons r (zip2_each (by simpa using h) t)
theorem zip2_reps {K : PySem.W.Frag} {H : Hp} {m : List Addr} : ∀ {l : List (List Int)} {vs : List V}, Reps K H m (l.map tI) vs → ∀ p ∈ zip2 l vs, Rep K H m (tI p.1) p.2
  | [], vs, r, p, hp => by cases r; simp [zip2] at hp
  | a :: l, _, .cons r t, p, hp => by
    simp only [zip2] at hp
    rcases List.mem_cons.mp hp with rfl | hp
    · exact r
    · exact zip2_reps t p hp
theorem each_vals2 : ∀ {us : List Value} {ps : List (List Int × V)}, PySem.W.EachIs (fun u (p : List Int × V) => RelV p.2 u) us ps → Vals (ps.map fun p => p.2) us
  | _, _, .nil => .nil
  | _, _, .cons r t => .cons r (each_vals2 t)
theorem reps_of2 {K : PySem.W.Frag} {H : Hp} {m : List Addr} : ∀ {ps : List (List Int × V)}, (∀ p ∈ ps, Rep K H m (tI p.1) p.2) → Reps K H m ((ps.map fun p => p.1).map tI) (ps.map fun p => p.2)
  | [], _ => .nil
  | p :: ps, h => .cons (h p List.mem_cons_self) (reps_of2 fun q hq => h q (List.mem_cons_of_mem _ hq))
section
variable {X : Cx} {tb : TBs}
theorem cr_sortTL (hu : X.A.units + 64 < cLine) : CallR X (.builtin "sorted") (RLM (GO X tb) sortTL) := by
  intro pins s σ H vs us Q I rr h
  obtain ⟨ds, hs, m, hr, r, d, hs', e, q⟩ := h
  unfold sortTL at e
  split at e
  · split at e
    · rename_i a0 ei
      split at e
      · rename_i nss en
        split at e
        · rename_i hok
          cases e
          obtain ⟨v, rfl, rv0⟩ := reps1 r
          cases rv0 with
          | ref e1 =>
          rename_i a
          have ex := tupsOf_eq en
          subst ex
          obtain ⟨xs, hx, rx⟩ := hr.lst e1 ei
          obtain ⟨u, rfl, ru⟩ := vals1 rr
          cases ru
          obtain ⟨its, as, rv, pl, rd, al⟩ := minmax_of I hx rx (cmpAll_tI nss)
          obtain ⟨_, hz, _⟩ := (show ∃ _ : Unit, xs.length ≤ sizeLine ∧ True from ⟨(), (I.hok a _ hx).1, trivial⟩)
          have lx := rx.length
          rw [List.length_map] at lx
          have lv := rv.length
          -- the new list stands
          have fin : ∀ (ps : List (List Int × V)) (out : List Value), (∀ p ∈ ps, p ∈ zip2 nss xs) → PySem.W.EachIs (fun u (p : List Int × V) => RelV p.2 u) out ps → ps.map (·.1) = srtS ltL nss → ps.length = nss.length →
              EP X pins σ Q (.ref (s.heap.objs.size + 1)) { s with heap := sortedAll s.heap its out.toArray } := by
            intro ps out hmem ho hk hl
            obtain ⟨ep, he'⟩ := PyProof.Rows.sortedAll_at s.heap its out.toArray
            have hn : H (s.heap.objs.size + 1) = none := I.hok.fresh (Nat.le_succ _)
            have hv := each_vals2 ho
            have hlen : (ps.map fun p => p.2).length ≤ sizeLine := by rw [List.length_map, hl]; omega
            have nx : Nx m H (m ++ [s.heap.objs.size + 1]) (upd H (s.heap.objs.size + 1) (.lst (ps.map fun p => p.2))) := .alloc hr hn
            refine ⟨.ref _, upd H (s.heap.objs.size + 1) (.lst (ps.map fun p => p.2)), I.laid (t' := s.toks) (fun _ _ => PyProof.Rows.sortedAll_old) (Nat.le_succ _) ⟨hlen, out, ep, hv, he'⟩, rfl, q _ _ _ nx (hr.alloc hn ⟨_, upd_same, ?_⟩) (Rep.last hr)⟩
            rw [← hk]
            exact reps_of2 fun p hp => (zip2_reps rx p (hmem p hp)).nx hr nx
          have hsp := zip2_fst (l := nss) (vs := xs) lx
          by_cases h2 : 2 ≤ nss.length
          · have hne : ∀ a ∈ nss, ∃ x r, a = x :: r := by
              match nss, h2, hok with
              | a :: b :: r, _, hok => exact allNe_eq hok
            have epd : (zip2 nss xs).map (fun p => pdOf (tI p.1)) = pdAll (nss.map tI) := by
              rw [pdAll_eq, ← hsp, List.map_map, List.map_map, hsp]; rfl
            rw [← epd] at rd al
            refine PySem.W.sorted_data (R := fun u (p : List Int × V) => RelV p.2 u) (bs := zip2 nss xs) (enc := fun p => pdOf (tI p.1)) pl (zip2_each lx rv) (PySem.W.readsAll_each _ (by simpa using rd)) (fun x hx y hy => al.1 x hx y hy) (.inl fun d hd => ?_) ?_ (fun b hb => ?_) fun out hol ho => ?_
            · obtain ⟨p, hp, rfl⟩ := List.mem_map.mp hd
              have hp1 : p.1 ∈ nss := by rw [← hsp]; exact List.mem_map.mpr ⟨p, hp, rfl⟩
              obtain ⟨x, r, e⟩ := hne _ hp1
              rw [e]
              exact ⟨.int x, pdAll (r.map D.int), rfl⟩
            · have := congrArg List.length hsp
              rw [List.length_map] at this
              omega
            · have : (pdOf (tI b.1)).depth ≤ 1 := by
                have : PyData.depthAll (pdAll (b.1.map D.int)) = 0 := dep_isI (by
                  have := isIT_tI b.1
                  exact this)
                simp only [tI, pdOf, PyData.depth, this]
                omega
              omega
            · have ele : PySem.W.dataLe false (fun p : List Int × V => pdOf (tI p.1)) = fun a b => !ltL b.1 a.1 := by
                funext a b
                show (!PySem.W.dataLt (pdOf (tI b.1)) (pdOf (tI a.1))) = _
                rw [dlt_IT (isIT_tI _) (isIT_tI _), dlt_tI]
              rw [ele] at ho
              have pm := List.mergeSort_perm (zip2 nss xs) (fun a b => !ltL b.1 a.1)
              refine fin _ out (fun p hp => pm.mem_iff.mp hp) ho ?_ ?_
              · have pw := List.pairwise_mergeSort (le := fun (a b : List Int × V) => !ltL b.1 a.1) (fun a b c h1 h2 => by
                    simp only [Bool.not_eq_true'] at h1 h2 ⊢
                    exact tot_L.le_tr h1 h2) (fun a b => by
                    simp only [Bool.or_eq_true, Bool.not_eq_true']
                    cases e : ltL b.1 a.1 with
                    | false => exact .inl rfl
                    | true => exact .inr (tot_L.le_of e)) (zip2 nss xs)
                refine ascE_eq tot_L ((pm.map (·.1)).trans (by rw [hsp]; exact (srtS_perm nss).symm)) (List.pairwise_map.mpr (pw.imp fun {a b} h => by simpa using h)) (srtS_asc tot_L nss)
              · rw [pm.length_eq]
                have := congrArg List.length hsp
                rw [List.length_map] at this
                exact this
          · refine SrtO.sorted_ord (ltv := fun _ _ => false) ⟨fun _ _ h => (by cases h), fun _ _ _ _ _ => rfl⟩ pl (by omega) (fun h3 => absurd h3 (by omega)) fun out h1 h3 => ?_
            have eo : out = its := by
              match its, h3.perm, (show its.length < 2 by omega) with
              | [], p, _ => exact List.perm_nil.mp p
              | [x], p, _ => exact List.perm_singleton.mp p
              | _ :: _ :: _, _, hl => simp at hl; omega
            subst eo
            refine fin (zip2 nss xs) out (fun p hp => hp) (zip2_each lx rv) ?_ ?_
            · rw [hsp]
              match nss, h2 with
              | [], _ => rfl
              | [x], _ => rfl
              | _ :: _ :: _, h2 => simp at h2
            · have := congrArg List.length hsp
              rw [List.length_map] at this
              exact this
        · cases e
      · cases e
    · cases e
  · cases e
end
end Mir

/-! Mir0: tuple(reversed(t)), t a tuple; t * n; min of two tuples of ints. -/
namespace RT
open PySem PySem.Spec PyProof.Rows
theorem nolen_rt : typeLookup (.type "reversed") "__len__" = pure none := by rw [typeLookup_type, builtinLookup_eq_fast]; kernel_rfl
theorem slot_rt_hint : Slot "reversed" "__length_hint__" "reversed.__length_hint__" :=
  .of (owner := "reversed") (n := "__length_hint__") (by rw [typeLookup_type, builtinLookup_eq_fast]; kernel_rfl) (by decide +kernel) (by decide +kernel) (by decide +kernel)
    (by first | exact .inl (by decide +kernel) | exact .inr (by decide +kernel)) (by rw [isSubtype_type]; kernel_rfl)
theorem entry_rt_hint : entryFor table "reversed.__length_hint__" = some Builtin.«reversed.__length_hint__» := entryFor_of_tree (by kernel_rfl)
theorem args_rt_hint (a : Value) : argsOk "reversed.__length_hint__" ⟨[a], []⟩ := by
  unfold argsOk; rw [signature?_of (id := "reversed.__length_hint__") (n := ['_', '_', 't', 'n', 'i', 'h', '_', 'h', 't', 'g', 'n', 'e', 'l', '_', '_']) (o := ['d', 'e', 's', 'r', 'e', 'v', 'e', 'r']) (by kernel_rfl) owner_rt]; kernel_rfl
theorem type_rt_hint : typeOf (.builtin "reversed.__length_hint__") = pure (.type "method_descriptor") := by show builtinType _ = _; rw [builtinType_eq_fast]; kernel_rfl
section
variable {prog : Program} {w : World} {A : Around} {E : Value → Shared → Prop} {s : Shared}
theorem call_rt_hint {it t : Addr} {items : Array Value} {Q : Value → Shared → Prop} (hit : IsRt s.heap it t ((items.size : Int) - 1)) (ht : IsTup s.heap t items) (hn : (items.size : Int) < 2 ^ 63)
    (h : ∀ tk tk', Q (.int items.size tk) { s with toks := tk' }) : wpAny (model prog w) A (call (.builtin "reversed.__length_hint__") [.ref it]) Q E s := by
  obtain ⟨o, ho, hc, hd⟩ := id hit
  refine wpAny_call_entry slot_rt_hint hit.typeIs entry_rt_hint ?_ (args_rt_hint _)
  unfold Builtin.«reversed.__length_hint__»
  refine wpAny_bind (wpAny_of_eq (a := Value.ref it) rfl ?_)
  try dsimp only
  refine wpAny_bind (wpAny_field ho hd (x := .ref t) rfl ?_)
  try dsimp only
  try rw [if_neg (by decide)]
  try dsimp only
  refine wpAny_bind (len_tuple ht hn ?_)
  refine wpAny_bind (wpAny_of_eq (a := some ((items.size : Nat) : Int)) rfl ?_)
  try dsimp only
  refine wpAny_bind (wpAny_field (s := { s with toks := s.toks + 1 + 1 }) ho hd (x := rawInt ((items.size : Int) - 1)) rfl ?_)
  show wpAny _ _ (if ((items.size : Nat) : Int) < ((items.size : Int) - 1) + 1 then _ else _) _ _ _
  rw [if_neg (by omega)]
  have e1 : ((items.size : Int) - 1) + 1 = (items.size : Int) := by omega
  rw [e1]
  show wpAny _ _ (mkInt ((items.size : Nat) : Int) >>= fun v => ret v) _ _ _
  refine wpAny_bind (wpAny_mkInt ?_)
  exact wpAny_pure ⟨_, rfl, h _ _⟩
theorem hint_rt {it t : Addr} {items : Array Value} {Q : Bool → Shared → Prop} (hit : IsRt s.heap it t ((items.size : Int) - 1)) (ht : IsTup s.heap t items) (hn : items.size ≤ sizeLine)
    (h : ∀ b tk, Q b { s with toks := tk }) : wpAny (model prog w) A (Builtin.List.listLengthHint (.ref it)) Q E s := by
  have h63 : (items.size : Int) < 2 ^ 63 := by rw [sizeLine_eq] at hn; omega
  unfold Builtin.List.listLengthHint
  refine wpAny_bind (wpAny_specialOf hit.typeIs nolen_rt ?_)
  try dsimp only
  show wpAny _ _ (specialOf (Value.ref it) (Str.ofString "__length_hint__") >>= _) _ _ _
  refine wpAny_bind (wpAny_specialOf hit.typeIs slot_rt_hint.lookup ?_)
  generalize hid : ("reversed.__length_hint__" : String) = id0
  wp_delta
  rw [show splitId id0 = some ("reversed", "__length_hint__") from by subst hid; decide +kernel]
  subst hid
  refine wpAny_bind (wpAny_isInstance (b := true) hit.typeIs (by rw [isSubtype_type]; kernel_rfl) ?_)
  rw [if_neg (by decide), if_neg (by decide +kernel)]
  refine wpAny_bind (wpAny_rule ?_)
  refine wpAny_bind ?_
  unfold bindSpecial
  refine wpAny_bind (wpAny_of_eq type_rt_hint ?_)
  rw [if_pos (by decide +kernel)]
  refine wpAny_pure ?_
  try dsimp only
  refine wpAny_bind (wpAny_attempt (call_rt_hint hit ht h63 fun tk tk' => ?_))
  try dsimp only
  have ei : asInt? (Value.int (items.size : Int) tk) = pure (some (items.size : Int)) := rfl
  rw [ei]
  simp only [pure_bind]
  have f1 : Builtin.List.listFitsIndex ((items.size : Nat) : Int) = true := by
    unfold Builtin.List.listFitsIndex
    rw [Bool.and_eq_true, decide_eq_true_eq, decide_eq_true_eq]
    exact ⟨by omega, h63⟩
  have f2 : Builtin.List.listTooLong ((items.size : Nat) : Int).toNat = false := by
    unfold Builtin.List.listTooLong
    rw [Int.toNat_natCast]
    exact decide_eq_false (Nat.not_lt.mpr hn)
  rw [f1, if_neg (by decide), if_neg (by omega), f2, if_neg (by decide)]
  exact wpAny_pure (h _ _)
theorem walks_rt (hh : A.handled = none) (I t : Addr) (hne : t ≠ I) (items : Array Value) (hn : items.size ≤ sizeLine) :
    Walks prog w A I [I, t] [I] items.size (fun i v => items[items.size - 1 - i]? = some v) (fun i h => i ≤ items.size ∧ IsRt h I t ((items.size : Int) - 1 - (i : Int)) ∧ IsTup h t items) where
  sub := fun b hb => by simp at hb; simp [hb]
  frame := fun _ _ _ x hk => ⟨x.1, x.2.1.at fun o e => hk I (by simp) o e, let ⟨o, ho, r⟩ := x.2.2; ⟨o, hk t (by simp) o ho, r⟩⟩
  item := fun i s Q E hi x hQ => by
    have e : (items.size : Int) - 1 - (i : Int) = ((items.size - 1 - i : Nat) : Int) := by omega
    have hit := x.2.1
    rw [e] at hit
    have hx : items[items.size - 1 - i]? = some (items[items.size - 1 - i]'(by omega)) := Array.getElem?_eq_getElem (by omega)
    refine next_rt_item hit x.2.2 hx hn fun h' hit' hs' => ?_
    have e2 : ((items.size - 1 - i : Nat) : Int) - 1 = (items.size : Int) - 1 - ((i + 1 : Nat) : Int) := by omega
    rw [e2] at hit'
    exact hQ _ h' _ hx ⟨hi, hit', let ⟨o, ho, r⟩ := x.2.2; ⟨o, (hs'.2 t hne).trans ho, r⟩⟩ fun b o hb eo => hs'.extBut b o (fun h => hb (by simp [h])) eo
  done := fun s Q E x hQ => by
    have e : (items.size : Int) - 1 - (items.size : Int) = -1 := by omega
    have hit := x.2.1
    rw [e] at hit
    exact next_rt_end hh hit fun h' he' => hQ h' s.toks fun b o hb eo => he' b o (fun h => hb (by simp [h])) eo
  self := fun _ _ _ _ x hQ => iter_rt x.2.1 hQ
theorem collect_rt {it t : Addr} {items : Array Value} {Q : List Value → Shared → Prop} (hh : A.handled = none) (hit : IsRt s.heap it t ((items.size : Int) - 1)) (hl : IsTup s.heap t items) (hne : t ≠ it) (hn : items.size ≤ sizeLine)
    (hQ : ∀ (h' : Heap) (tk : Nat) (acc : Array Value), (∀ b o, b ≠ it → s.heap.get? b = some o → h'.get? b = some o) → ItemsOf (fun i v => items[items.size - 1 - i]? = some v) acc items.size → Q acc.toList { s with heap := h', toks := tk }) :
    wpAny (model prog w) A (collect (.ref it)) Q E s := by
  have W := (walks_rt (prog := prog) (w := w) (A := A.in1) hh it t hne items hn).toS
  obtain ⟨oi, hoi, _⟩ := id hit
  obtain ⟨ol, hol, _⟩ := id hl
  have hSi : s.heap.objs.size ≠ it := Nat.ne_of_gt (Heap.lt_size hoi)
  have hSl : s.heap.objs.size ≠ t := Nat.ne_of_gt (Heap.lt_size hol)
  have hSf : s.heap.objs.size ∉ [it, t] := by simp only [List.mem_cons, List.not_mem_nil, or_false, not_or]; exact ⟨hSi, hSl⟩
  unfold collect
  refine wpAny_bind (wpAny_runValue (codeAny_builtin F.entry_proto_collect ?_))
  rw [Around.under_plainId F.plain_proto_collect _]
  show wpAny _ A.in1 (newList [] >>= fun l' => again (.builtin "list.__iadd__" ⟨[l', .ref it], []⟩)) _ _ s
  refine wpAny_bind (wpAny_newObj_type ?_)
  refine wpAny_pure ⟨plainId_quiet F.plain_list_iadd _, codeAny_builtin F.entry_list_iadd ?_⟩
  rw [Around.under_plainId F.plain_list_iadd _]
  have hS1 : (s.heap.push { cls := .type "list", data := .seq ([] : List Value).toArray }).get? s.heap.objs.size = some { cls := .type "list", data := .seq ([] : List Value).toArray } := Heap.get?_push_size _ rfl
  have hit1 : IsRt (s.heap.push { cls := .type "list", data := .seq ([] : List Value).toArray }) it t ((items.size : Int) - 1) := hit.at fun o e => Heap.get?_push_of_some _ e
  have hl1 : IsTup (s.heap.push { cls := .type "list", data := .seq ([] : List Value).toArray }) t items := let ⟨o, ho, r⟩ := hl; ⟨o, Heap.get?_push_of_some _ ho, r⟩
  have hT : ({ s with heap := s.heap.push { cls := .type "list", data := .seq ([] : List Value).toArray } } : Shared).TypeIs (.ref it) "reversed" := IsRt.typeIs (s := { s with heap := s.heap.push { cls := .type "list", data := .seq ([] : List Value).toArray } }) hit1
  have h1 : Builtin.List.listSameRef (.ref s.heap.objs.size) (.ref it) = false := by simp [Builtin.List.listSameRef, hSi]
  show wpAny _ A.in1 (Builtin.List.listExtendWith (.ref s.heap.objs.size) (.ref it) (.ref s.heap.objs.size)) _ _ _
  unfold Builtin.List.listExtendWith
  refine wpAny_bind (wpAny_typeOf hT ?_)
  rw [if_neg (by rw [h1]; decide)]
  refine wpAny_bind (iter_rt (s := { s with heap := s.heap.push { cls := .type "list", data := .seq ([] : List Value).toArray } }) hit1 ?_)
  refine wpAny_bind (wpAny_holding (hint_rt (s := { s with heap := s.heap.push { cls := .type "list", data := .seq ([] : List Value).toArray } }) hit1 hl1 hn fun b tk => ?_))
  have e0 : ((items.size : Nat) : Int) - 1 - ((0 : Nat) : Int) = (items.size : Int) - 1 := by omega
  try dsimp only
  split
  · refine wpAny_bind (wpAny_rule ?_)
    refine wpAny_bind ?_
    show wpAny _ A.in1 (updateSeq s.heap.objs.size (·.push .none) >>= fun _ => updateSeq s.heap.objs.size (·.pop)) _ _ _
    refine wpAny_bind (wpAny_updateSeq hS1 rfl ?_)
    have hS3 := Heap.get?_update_self (Obj.mapSeq (·.push Value.none)) hS1 rfl
    refine wpAny_updateSeq hS3 rfl ?_
    have hS4 := Heap.get?_update_self (Obj.mapSeq (·.pop)) hS3 rfl
    have oth : ∀ b u, b ≠ s.heap.objs.size → (s.heap.push { cls := .type "list", data := .seq ([] : List Value).toArray }).get? b = some u → (((s.heap.push { cls := .type "list", data := .seq ([] : List Value).toArray }).update s.heap.objs.size (Obj.mapSeq (·.push Value.none))).update s.heap.objs.size (Obj.mapSeq (·.pop))).get? b = some u :=
      fun b u hb e => (Heap.get?_update_other _ _ (Ne.symm hb)).trans ((Heap.get?_update_other _ _ (Ne.symm hb)).trans e)
    refine wpAny_pure ⟨plainId_quiet F.plain_extend_loop _, codeAny_extend_loopS W hn _ hSf _ items.size 0 _ _ _ rfl (Nat.zero_le _) ⟨Nat.zero_le _, by rw [e0]; exact hit1.at fun o e => oth it o (Ne.symm hSi) e, (let ⟨o, ho, r⟩ := hl1; ⟨o, oth t o (Ne.symm hSl) ho, r⟩)⟩ hS4 (ItemsOf.nil _) fun s' acc' c' hm hS' hacc => ?_⟩
    show wpAny _ A (load s.heap.objs.size >>= _) _ _ s'
    refine wpAny_bind (wpAny_load hS' ?_)
    refine wpAny_pure ?_
    rw [Moved.eq_with hm]
    refine hQ s'.heap s'.toks acc' (fun b o hb e => hm.heap b o (fun hmem => ?_) (oth b o (Nat.ne_of_lt (Heap.lt_size e)) (Heap.get?_push_of_some _ e))) hacc
    rcases List.mem_cons.mp hmem with e' | hmem
    · exact absurd (Heap.lt_size e) (by rw [e']; exact Nat.lt_irrefl _)
    · exact hb (List.mem_singleton.mp hmem)
  · refine wpAny_pure ⟨plainId_quiet F.plain_extend_loop _, codeAny_extend_loopS W hn _ hSf _ items.size 0 _ _ _ rfl (Nat.zero_le _) ⟨Nat.zero_le _, by rw [e0]; exact hit1, hl1⟩ hS1 (ItemsOf.nil _) fun s' acc' c' hm hS' hacc => ?_⟩
    show wpAny _ A (load s.heap.objs.size >>= _) _ _ s'
    refine wpAny_bind (wpAny_load hS' ?_)
    refine wpAny_pure ?_
    rw [Moved.eq_with hm]
    refine hQ s'.heap s'.toks acc' (fun b o hb e => hm.heap b o (fun hmem => ?_) (Heap.get?_push_of_some _ e)) hacc
    rcases List.mem_cons.mp hmem with e' | hmem
    · exact absurd (Heap.lt_size e) (by rw [e']; exact Nat.lt_irrefl _)
    · exact hb (List.mem_singleton.mp hmem)
theorem code_tuple_new_rt {it t : Addr} {items : Array Value} {Q₁ : Value → Shared → Prop} (hh : A.handled = none) (hit : IsRt s.heap it t ((items.size : Int) - 1)) (hl : IsTup s.heap t items) (hne : t ≠ it) (hn : items.size ≤ sizeLine)
    (h : ∀ (h' : Heap) (tk : Nat) (acc : Array Value), (∀ b o, b ≠ it → s.heap.get? b = some o → h'.get? b = some o) → ItemsOf (fun i v => items[items.size - 1 - i]? = some v) acc items.size →
      Q₁ (.ref h'.objs.size) { s with heap := h'.push { cls := .type "tuple", data := .seq acc }, toks := tk }) :
    codeAny (model prog w) A (.call (.builtin "tuple.__new__") ⟨[.type "tuple", .ref it], []⟩) (wants Q₁ E) s := by
  refine codeAny_of_tree ?_
  show wpAny _ A.in1 (do checkBuiltinCall "tuple.__new__" ⟨[.type "tuple", .ref it], []⟩; again (.builtin "tuple.__new__" ⟨[.type "tuple", .ref it], []⟩)) _ _ s
  refine wpAny_bind (wpAny_of_eq (F.newCall_tuple_1 _) (wpAny_pure ⟨plainId_quiet F.plain_tuple_new _, codeAny_builtin F.entry_tuple_new ?_⟩))
  rw [Around.under_plainId F.plain_tuple_new _]
  have hsub := sub_tuple_self
  have hinit := init_tuple_lookup
  have hmh := madeHere_tuple
  have hTI : s.TypeIs (.ref it) "reversed" := hit.typeIs
  have hh1 : A.in1.handled = none := hh
  wp_walk using wpAny_typeOf hTI, collect_rt (A := A.in1) hh1 hit hl hne hn
  intro h' tk acc hk hacc
  show wpAny _ _ (Builtin.Tuple.tupleExact acc.toList.toArray >>= fun v => ret v) _ _ _
  unfold Builtin.Tuple.tupleExact
  refine wpAny_bind (wpAny_newObj_type ?_ (by show acc.toList.toArray.size ≤ sizeLine; simp only [Array.toArray_toList]; rw [hacc.1]; exact hn))
  refine wpAny_pure ?_
  have e : acc.toList.toArray = acc := by simp
  rw [e]
  exact h h' tk acc hk hacc
theorem call_tuple_rt {it t : Addr} {items : Array Value} {Q : Value → Shared → Prop} (hh : A.handled = none) (hit : IsRt s.heap it t ((items.size : Int) - 1)) (hl : IsTup s.heap t items) (hne : t ≠ it) (hn : items.size ≤ sizeLine)
    (hQ : ∀ (h' : Heap) (tk : Nat) (acc : Array Value), (∀ b o, b ≠ it → s.heap.get? b = some o → h'.get? b = some o) → ItemsOf (fun i v => items[items.size - 1 - i]? = some v) acc items.size →
      Q (.ref h'.objs.size) { s with heap := h'.push { cls := .type "tuple", data := .seq acc }, toks := tk }) :
    wpAny (model prog w) A (call (.type "tuple") [.ref it]) Q E s := by
  refine callType_codes (Q₁ := fun obj s₁ => s₁.TypeIs obj "tuple" ∧ Q obj s₁) F.called_tuple (F.typeCall_tuple_1 _) F.entry_object_init
    (code_tuple_new_rt (A := A.in1) hh hit hl hne hn fun h' tk acc hk hacc => ⟨⟨_, Heap.get?_push_size _ rfl, rfl⟩, hQ h' tk acc hk hacc⟩) fun obj s₁ h₁ => ?_
  exact ⟨h₁.1, F.args_object_init_2 obj _, object_init_meets F.called_tuple.init.lookup F.called_tuple.made (by decide) prog w A.in1 _ s₁ ⟨h₁.1, rfl, h₁.2⟩⟩
end
end RT
namespace Mir
open PySem PySem.Spec PyProof.Rows L2 RT

/-! ### tuple(reversed(t)) -/
def mTupRev (f : EM) : EM := fun ρ hs => match f ρ hs with
  | some (.tup ds, hs') => some (.tup ds.reverse, hs')
  | some (.ref i, hs') => match at? hs' i with
    | some (.lst ds) => some (.tup ds.reverse, hs')
    | _ => none
  | _ => none
instance {f : EM} [a : QE f] : QE (mTupRev f) := ⟨fun ρ hs d hs' h => by
  unfold mTupRev at h
  split at h
  · rename_i e; cases h; exact a.q _ _ _ _ e
  · rename_i e
    split at h
    · cases h; exact a.q _ _ _ _ e
    · cases h
  · cases h⟩
def tTupRevA (K : PySem.W.Frag) (te : TE) : TE := fun σ H Q => te σ H fun v H1 => ∃ (a : Addr) (xs : List V), v = .ref a ∧ (SqL K H1 a xs ∨ SqT K H1 a xs) ∧ ∀ q, H1 q = none → Q (.ref q) (upd H1 q (.tup xs.reverse))
section
variable {X : Cx} {tb : TBs}
theorem pe_tupRevA {e : Expr} {te : TE} {p p2 pos pos2 : Pos} (hc : X.calm = true) (hg : Gl X "tuple") (hm : X.mg "tuple" = none) (hg2 : Gl X "reversed") (hm2 : X.mg "reversed" = none) (he : PE X e te)
    (hs : starEach [e] X.env = (false, eval e X.env) :: starEach [] X.env := by rfl)
    (hs2 : starEach [.Call (.Name "reversed" p2) [e] [] pos2] X.env = (false, eval (.Call (.Name "reversed" p2) [e] [] pos2) X.env) :: starEach [] X.env := by rfl) :
    PE X (.Call (.Name "tuple" p) [.Call (.Name "reversed" p2) [e] [] pos2] [] pos) (tTupRevA X.K te) := by
  refine ⟨fun pins s σ H Q I h => ?_⟩
  refine Call_ (ld_blt I hg hm boot_tuple (PyProof.Rows.callWith_type1 (args_cons (Call_ (ld_blt I hg2 hm2 PyProof.Rows.boot_reversed (PyProof.Rows.callWith_type1 (args_cons (thn (he.run pins s σ H _ I h) fun u s1 ⟨v, H1, I1, r1, q1⟩ => args_nil ?_) hs) hs rfl))) hs2) hs2 rfl))
  obtain ⟨a, xs, ev, hq, q⟩ := q1
  subst ev
  obtain rfl : u = Value.ref a := r1
  rcases hq with hq | hq
  · obtain ⟨its, rv, p', hz⟩ := I1.list hq
    refine call_reversed_list p'.isList (args_nil ?_)
    have k0 : ∀ b o, s1.heap.get? b = some o → (s1.heap.push (revObj a ((its.toArray.size : Int) - 1))).get? b = some o := fun b o e => Heap.get?_push_of_some _ e
    have I2 : L2.Inv X pins σ H1 { s1 with heap := s1.heap.push (revObj a ((its.toArray.size : Int) - 1)) } := I1.kept (t' := s1.toks) k0
    obtain ⟨f0, f1, f2, f3, f4, f5⟩ := I1.fpOk (H' := H1) (b := s1.heap.objs.size) (Nat.le_refl _) (I1.hok.fresh (Nat.le_refl _))
    have hl := p'.isList
    obtain ⟨ol, hol, _⟩ := id hl
    have hne : a ≠ s1.heap.objs.size := Nat.ne_of_lt (Heap.lt_size hol)
    have hn : its.toArray.size ≤ sizeLine := by rw [List.size_toArray, ← rv.length]; exact hz
    refine call_tuple_rev (s := { s1 with heap := s1.heap.push (revObj a ((its.toArray.size : Int) - 1)) }) (I1.ok.hd hc) ⟨_, Heap.get?_push_size _ rfl, rfl, rfl⟩ (hl.push _) hne hn fun h' tk acc hk hi => ?_
    have I3 : L2.Inv X pins σ H1 { s1 with heap := h', toks := tk } := I2.turned (t' := tk) (fun b o hb e => hk b o hb e) f0 f1 f3 f4 f5
    refine ⟨.ref h'.objs.size, upd H1 h'.objs.size (.tup xs.reverse), I3.laid (t' := tk) (fun c o e => Heap.get?_push_of_some _ e) (Nat.le_refl _) (show ObjOk X.prog X.w _ _ _ (.tup xs.reverse) from ⟨by rw [List.length_reverse]; exact hz, acc.toList, vals_rev rv hi, ?_⟩), rfl, q _ (I3.hok.fresh (Nat.le_refl _))⟩
    rw [Array.toArray_toList]
    exact IsTup.new _ _
  · obtain ⟨its, rv, p', hz⟩ := I1.tuple hq
    have hn : its.toArray.size ≤ sizeLine := by rw [List.size_toArray, ← rv.length]; exact hz
    have h63 : ((its.toArray.size : Nat) : Int) < 2 ^ 63 := by rw [sizeLine_eq] at hn; omega
    refine call_reversed_tup p' (fun A E Q k => len_tuple p' h63 k) (args_nil ?_)
    have k0 : ∀ b o, s1.heap.get? b = some o → (s1.heap.push (rtObj a ((its.toArray.size : Int) - 1))).get? b = some o := fun b o e => Heap.get?_push_of_some _ e
    have I2 : L2.Inv X pins σ H1 { s1 with heap := s1.heap.push (rtObj a ((its.toArray.size : Int) - 1)), toks := s1.toks + 1 + 1 } := I1.kept k0
    obtain ⟨f0, f1, f2, f3, f4, f5⟩ := I1.fpOk (H' := H1) (b := s1.heap.objs.size) (Nat.le_refl _) (I1.hok.fresh (Nat.le_refl _))
    obtain ⟨ol, hol, hr⟩ := id p'
    have hne : a ≠ s1.heap.objs.size := Nat.ne_of_lt (Heap.lt_size hol)
    refine call_tuple_rt (s := { s1 with heap := s1.heap.push (rtObj a ((its.toArray.size : Int) - 1)), toks := s1.toks + 1 + 1 }) (I1.ok.hd hc) ⟨_, Heap.get?_push_size _ rfl, rfl, rfl⟩ ⟨ol, k0 _ _ hol, hr⟩ hne hn fun h' tk acc hk hi => ?_
    have I3 : L2.Inv X pins σ H1 { s1 with heap := h', toks := tk } := I2.turned (t' := tk) (fun b o hb e => hk b o hb e) f0 f1 f3 f4 f5
    refine ⟨.ref h'.objs.size, upd H1 h'.objs.size (.tup xs.reverse), I3.laid (t' := tk) (fun c o e => Heap.get?_push_of_some _ e) (Nat.le_refl _) (show ObjOk X.prog X.w _ _ _ (.tup xs.reverse) from ⟨by rw [List.length_reverse]; exact hz, acc.toList, vals_rev rv hi, ?_⟩), rfl, q _ (I3.hok.fresh (Nat.le_refl _))⟩
    rw [Array.toArray_toList]
    exact IsTup.new _ _
theorem reps_rev {K : PySem.W.Frag} {H : Hp} {m : List Addr} : ∀ {ds : List D} {xs : List V}, Reps K H m ds xs → Reps K H m ds.reverse xs.reverse
  | _, _, .nil => .nil
  | _, _, .cons r t => by
    rw [List.reverse_cons, List.reverse_cons]
    exact (reps_rev t).append (.cons r .nil)
theorem m_tupRev {e : Expr} {f : EM} {p p2 pos pos2 : Pos} (hc : X.calm = true) (hg : Gl X "tuple") (hm : X.mg "tuple" = none) (hg2 : Gl X "reversed") (hm2 : X.mg "reversed" = none) (he : PE X e (TM (GO X tb) f))
    (hs : starEach [e] X.env = (false, eval e X.env) :: starEach [] X.env := by rfl)
    (hs2 : starEach [.Call (.Name "reversed" p2) [e] [] pos2] X.env = (false, eval (.Call (.Name "reversed" p2) [e] [] pos2) X.env) :: starEach [] X.env := by rfl) :
    PE X (.Call (.Name "tuple" p) [.Call (.Name "reversed" p2) [e] [] pos2] [] pos) (TM (GO X tb) (mTupRev f)) := by
  refine (pe_tupRevA hc hg hm hg2 hm2 he hs hs2).imp fun σ H Q ⟨ρ, hs, m, sl, hr, d, hs', ee, q⟩ => ?_
  unfold mTupRev at ee
  split at ee
  · rename_i ds hs1 e1
    cases ee
    refine ⟨ρ, hs, m, sl, hr, _, _, e1, fun v H1 m1 n1 hr1 rv => ?_⟩
    cases rv with
    | tup hx rx => exact ⟨_, _, rfl, .inr (sqt hx), fun p hp => q _ _ m1 (n1.trans (.fresh1 hp)) (hr1.more hp) (.tup upd_same ((reps_rev rx).nx hr1 (.fresh1 hp)))⟩
  · rename_i i hs1 e1
    split at ee
    · rename_i ds e2
      cases ee
      refine ⟨ρ, hs, m, sl, hr, _, _, e1, fun v H1 m1 n1 hr1 rv => ?_⟩
      cases rv with
      | ref ea =>
        obtain ⟨xs, hx, rx⟩ := hr1.lst ea e2
        exact ⟨_, _, rfl, .inl (.of hx), fun p hp => q _ _ m1 (n1.trans (.fresh1 hp)) (hr1.more hp) (.tup upd_same ((reps_rev rx).nx hr1 (.fresh1 hp)))⟩
    · cases ee
  · cases ee
end
end Mir

/-! Mir1: a tuple times a number; min of two tuples of ints. -/
namespace PySem.W
open PySem PySem.Calls PyProof.Rows
section
variable {prog : Program} {w : World} {A : Around} {E : Value → Shared → Prop} {s : Shared}
theorem call_min_twoH {a b : Value} {Q : Value → Shared → Prop}
    (h : wpAny (model prog w) A.in1 (pyIter (.ref s.heap.objs.size)) (fun it s₂ => ∃ I fp wr G n P St H bt, it = .ref I ∧ WalksS prog w A.in1 I fp wr G n P St ∧ St 0 s₂ ∧ (∀ b ∈ fp, b < s₂.heap.objs.size) ∧ 0 < n ∧
      (∀ b o, H.get? b = some o → b ∉ wr) ∧ (∀ b o, H.get? b = some o → s₂.heap.get? b = some o) ∧ CmpIn prog w A.in1 .Lt H P bt ∧ ∀ v s', P (argBest bt (n - 1)) v → Moved wr G s₂ s' → Q v s') E { s with heap := s.heap.push { cls := .type "tuple", data := .seq #[a, b] } }) :
    wpAny (model prog w) A (call (.builtin "min") [a, b]) Q E s := by
  have hname : (toString "min" ++ toString ".loop" : String) = "min.loop" := by decide
  refine call_function_tree F.kind_min F.plain_min F.entry_min (F.args_min2 _ _) ?_
  show wpAny _ A.in1 (Builtin.Builtins.bindParams "min" ["key", "default"] 0 ⟨[], []⟩ >>= _) _ _ s
  refine wpAny_bind (wpAny_of_eq (show Builtin.Builtins.bindParams "min" ["key", "default"] 0 ⟨[], []⟩ = pure [none, none] from rfl) ?_)
  show wpAny _ A.in1 (newTuple [a, b] >>= _) _ _ s
  refine wpAny_bind (wpAny_newObj_type ?_)
  refine wpAny_bind (wpAny_mono h (fun it s₂ h₂ => ?_) fun _ _ e => e)
  obtain ⟨I, fp, wr, G, n, P, St, H, bt, rfl, W, hst, hfp, hn, hw, hkeep, hcmp, hQ⟩ := h₂
  refine wpAny_bind (wpAny_newObj_type ?_)
  have hSf : s₂.heap.objs.size ∉ fp := fun hm => Nat.lt_irrefl _ (hfp _ hm)
  rw [hname]
  refine wpAny_pure ⟨plainId_quiet F.plain_min_loop _, codeAny_min_loop_firstH W H hw bt hcmp s₂.heap.objs.size hSf (fresh_in hkeep) _ hn (fun b o e => Heap.get?_push_of_some _ (hkeep b o e)) (W.frame 0 s₂ _ s₂.toks hst (Nat.le_refl _) fun b _ o e => Heap.get?_push_of_some _ e) (Heap.get?_push_size _ rfl) fun v s' hP hm => ?_⟩
  exact hQ v s' hP (Moved.drop_new (tk := s₂.toks) hm (Nat.le_refl _))
/-- min of two alike data: the item itself -/
theorem min_two_data {a b : Value} {x y : PyData} {as : List Addr} {Q : Value → Shared → Prop} (hh : A.handled = none) (hr : ReadsAll s.heap [a, b] [x, y] as) (ha : AlikeAll [x, y]) (hu : A.units + 1 + PyData.depthAll [x, y] < cLine)
    (h : ∀ h' tk, (∀ b o, s.heap.get? b = some o → h'.get? b = some o) → Q (if dataLt y x = true then b else a) { s with heap := h', toks := tk }) :
    wpAny (model prog w) A (call (.builtin "min") [a, b]) Q E s := by
  have hT : (s.heap.push { cls := .type "tuple", data := .seq #[a, b] }).IsTuple s.heap.objs.size #[a, b] := ⟨_, Heap.get?_push_size _ rfl, rfl, 0, rfl⟩
  have hr' : ReadsAll (s.heap.push { cls := .type "tuple", data := .seq #[a, b] }) [a, b] [x, y] as := PyProof.Rows.ReadsAll.keeps (fun _ _ e => Heap.get?_push_of_some _ e) hr
  refine call_min_twoH (iter_tupleW (s := { s with heap := s.heap.push { cls := .type "tuple", data := .seq #[a, b] } }) (A := A.in1) hh hT fun s₂ e W st hfp hw hk => ?_)
  refine ⟨_, _, _, _, _, _, _, s.heap.push { cls := .type "tuple", data := .seq #[a, b] }, _, rfl, W, st, hfp, (by show 0 < 2; decide), hw, hk, cmpIn_lt (A := A.in1) (s := { s with heap := s.heap.push { cls := .type "tuple", data := .seq #[a, b] } }) (vs := #[a, b]) hr' ha (by show A.units + 1 + _ < _; exact hu), fun v s' hP m => ?_⟩
  obtain ⟨h', tk, rfl, hk'⟩ := moved_old e rfl m
  have ev : v = if dataLt y x = true then b else a := by
    have hP : #[a, b][argBest (fun i j => dataLt (([x, y] : List PyData).getD i .none) (([x, y] : List PyData).getD j .none)) 1]? = some v := hP
    cases q : dataLt y x with
    | true =>
      have e1 : argBest (fun i j => dataLt (([x, y] : List PyData).getD i .none) (([x, y] : List PyData).getD j .none)) 1 = 1 := by simp [argBest, q]
      rw [e1] at hP
      simpa using hP.symm
    | false =>
      have e1 : argBest (fun i j => dataLt (([x, y] : List PyData).getD i .none) (([x, y] : List PyData).getD j .none)) 1 = 0 := by simp [argBest, q]
      rw [e1] at hP
      simpa using hP.symm
  rw [ev]
  exact h h' tk fun c o ec => hk' c o (Heap.get?_push_of_some _ ec)
end
end PySem.W
namespace L2
open PySem PySem.Spec PyProof.Rows
theorem tuple_mul1 (l : Addr) (items : Array Value) (n : Nat) (dd : Option Addr) (sl : Array (Option Value)) (u : Tok) :
    Meets (Builtin.«tuple.__mul__» ⟨[.ref l, .int 1 u], []⟩) (fun _ R s => s.heap.get? l = some { cls := .type "tuple", dict := dd, data := .seq items n, slots := sl } ∧ R (.ok (.ret (Value.ref l))) s) :=
  .of_wp fun prog w A R s h => by
    obtain ⟨hp, g, d, tk, os⟩ := s
    obtain ⟨hl, h⟩ := h
    have f1 := AutoSeq1.idx_int
    wp_walk using wpAny_loadPart' hl
    exact ⟨_, rfl, h⟩
def rRepT1 (K : PySem.W.Frag) : R2 := fun x y H Q => ∃ l xs, x = .ref l ∧ y = .int 1 ∧ SqT K H l xs ∧ Q (.ref l) H
theorem op_repT1 {X : Cx} : OpR X (binaryOp .Mult) (rRepT1 X.K) := by
  intro pins s σ H x y v u Q I rx ry h
  obtain ⟨l, xs, rfl, rfl, hT, q⟩ := h
  cases rx
  obtain ⟨t, rfl⟩ := ry
  obtain ⟨its, r, ⟨⟨cls, dd, data, sl⟩, ho, hc, n, hd⟩, hs⟩ := I.tuple hT
  simp only at hc hd
  subst hc hd
  refine wpAny_binaryOp_repeat_ref (T := "tuple") (U := "int") (by decide) ⟨_, ho, rfl⟩ (fun s' => typeIs_int s' 1 t) noFill_tuple_mul F.fills_int_mul F.slot_int_rmul repeat_tuple F.slot_int_index.lookup
    (call_meets F.slot_int_rmul (typeIs_int s 1 t) F.entry_int_rmul (F.args_int_rmul_2 _ _) (int_rmul_tuple 1 t l its.toArray n dd sl)
      ⟨ho, rfl, ⟨_, ho, rfl⟩, call_meets F.slot_tuple_mul ⟨_, ho, rfl⟩ F.entry_tuple_mul (F.args_tuple_mul_2 _ _) (tuple_mul1 l its.toArray n dd sl t) ⟨ho, ?_⟩⟩)
  exact ⟨.ref l, H, I, rfl, q⟩
end L2
namespace Mir
open PySem PySem.Spec PyProof.Rows L2
/-! ### x * y -/
def repD {α : Type} : Nat → List α → List α
  | 0, _ => []
  | n + 1, l => l ++ repD n l
theorem repD_eq {α : Type} (l : List α) : ∀ n, repD n l = (List.replicate n l).flatten
  | 0 => rfl
  | n + 1 => by rw [repD, repD_eq l n, List.replicate_succ, List.flatten_cons]
def mulX : F2 := fun d e hs => match d with
  | .tup ds => match e with
    | .int (.ofNat 1) => some (.tup ds, hs)
    | .int (.ofNat (k + 2)) => match ds, Nat.ble (k + 2) 1000, Nat.ble ds.length 1000 with
      | _ :: _, true, true => some (.tup (repD (k + 2) ds), hs)
      | _, _, _ => none
    | _ => none
  | _ => mulI d e hs
instance : Q2 mulX := ⟨fun d e hs r hs' h => by
  unfold mulX at h
  split at h
  · split at h
    · cases h; exact .refl
    · split at h
      · cases h; exact .refl
      · cases h
    · cases h
  · exact Q2.q _ _ _ _ _ h⟩
theorem reps_rep {K : PySem.W.Frag} {H : Hp} {m : List Addr} {ds : List D} {xs : List V} (r : Reps K H m ds xs) : ∀ n, Reps K H m (repD n ds) (repD n xs)
  | 0 => .nil
  | n + 1 => r.append (reps_rep r n)
section
variable {X : Cx} {tb : TBs}
theorem op_mulXM : OpR X (binaryOp .Mult) (R2M (GO X tb) mulX) := by
  intro pins s σ H x y v u Q I rx ry h
  obtain ⟨d, e, hs, m, hr, r1, r2, r, hs', ef, q⟩ := h
  unfold mulX at ef
  split at ef
  · rename_i ds
    split at ef
    · cases ef
      cases r1 with
      | tup hx rx0 =>
        cases r2
        exact op_repT1 pins s σ H _ _ v u Q I rx ry ⟨_, _, rfl, rfl, sqt hx, q _ _ _ .refl hr (.tup hx rx0)⟩
    · rename_i k
      split at ef
      · rename_i d0 dr h1 h2
        cases ef
        cases r1 with
        | tup hx rx0 =>
          rename_i a xs
          cases r2
          have hl := rx0.length
          have h1' := Nat.le_of_ble_eq_true h1
          have h2' := Nat.le_of_ble_eq_true h2
          refine op_repT pins s σ H _ _ v u Q I rx ry ⟨_, Int.ofNat (k + 2), xs, rfl, rfl, sqt hx, ?_, ?_, ?_, ?_, fun p hp => ?_⟩
          · intro z
            rw [z] at hl
            simp at hl
          · show (2 : Int) ≤ ((k + 2 : Nat) : Int)
            omega
          · show ((k + 2 : Nat) : Int) ≤ 1000
            omega
          · rw [← hl]; exact h2'
          · have rr := reps_rep rx0 (k + 2)
            rw [repD_eq xs] at rr
            exact q _ _ m (.fresh1 hp) (hr.more hp) (.tup upd_same (rr.nx hr (.fresh1 hp)))
      · cases ef
    · cases ef
  · exact op_mulM pins s σ H x y v u Q I rx ry ⟨d, e, hs, m, hr, r1, r2, r, hs', ef, q⟩

/-! ### min(a, b), tuples of ints -/
def min2T : FM := fun ds hs => match ds with
  | [.tup a, .tup b] => match allL isI a, allL isI b with
    | true, true => some ((match ltT b a with | true => .tup b | false => .tup a), hs)
    | _, _ => none
  | _ => none
instance : QF min2T := ⟨fun ds hs d hs' h => by
  unfold min2T at h
  split at h
  · split at h
    · cases h; exact .refl
    · cases h
  · cases h⟩
theorem cr_min2T (hc : X.calm = true) (hu : X.A.units + 64 < cLine) : CallR X (.builtin "min") (RLM (GO X tb) min2T) := by
  intro pins s σ H vs us Q I rr h
  obtain ⟨ds, hs, m, hr, r, d, hs', e, q⟩ := h
  unfold min2T at e
  split at e
  · rename_i a b
    split at e
    · rename_i ha hb
      cases e
      have hcm : cmpAll [.tup a, .tup b] = true := by
        unfold cmpAll
        split
        · rfl
        · show allL isIT [.tup a, .tup b] = true
          refine allL_of fun d hd => ?_
          rcases List.mem_cons.mp hd with rfl | hd
          · exact ha
          · rw [List.mem_singleton.mp hd]; exact hb
      obtain ⟨v1, v2, rfl, r1, r2⟩ := reps2 r
      obtain ⟨u1, u2, rfl, ru1, ru2⟩ := vals2 rr
      have dp : DpAll X.K H [v1, v2] (pdAll [.tup a, .tup b]) := dp_all (n := 12) (fun d v => dp_of 12 d v) _ _ (shal_cmp hcm) (.cons r1 (.cons r2 .nil))
      obtain ⟨as, h4⟩ := Dp.readsAll I _ _ [u1, u2] dp (.cons ru1 (.cons ru2 .nil))
      have al : PySem.W.AlikeAll (pdAll [.tup a, .tup b]) := by
        refine ⟨?_, ?_⟩
        · intro x hx y hy
          rw [pdAll_eq] at hx hy
          obtain ⟨d, hd, rfl⟩ := List.mem_map.mp hx
          obtain ⟨e, he, rfl⟩ := List.mem_map.mp hy
          exact (dlt_all hcm d hd e he).2.1
        · intro x hx
          rw [pdAll_eq] at hx
          obtain ⟨d, hd, rfl⟩ := List.mem_map.mp hx
          exact (dlt_all hcm d hd d hd).2.2
      have hdp := dep_cmp hcm
      have lt := (dlt_all hcm (.tup b) (by simp) (.tup a) (by simp)).1
      refine PySem.W.min_two_data (x := pdOf (.tup a)) (y := pdOf (.tup b)) (I.ok.hd hc) h4 al (by have : PyData.depthAll [pdOf (.tup a), pdOf (.tup b)] ≤ 1 := hdp; omega) fun h' tk k => ?_
      have I2 : L2.Inv X pins σ H { s with heap := h', toks := tk } := I.kept k
      rw [lt]
      show EP X pins σ Q (if ltT b a = true then u2 else u1) _
      cases z : ltT b a with
      | true =>
        rw [if_pos rfl]
        exact ⟨v2, H, I2, ru2, q _ _ _ .refl hr (by rw [z]; exact r2)⟩
      | false =>
        rw [if_neg Bool.false_ne_true]
        exact ⟨v1, H, I2, ru1, q _ _ _ .refl hr (by rw [z]; exact r1)⟩
    · cases e
  · cases e
end
end Mir

/-! Mir2: defs with keyword-only parameters that take their defaults. -/
namespace Mir
open PySem PySem.Spec PyProof.Rows L2
abbrev mkDK (st : Stmt) (x : Str) (kwd : List (Str × He.Dv)) : He.DefD := ⟨(x, none), x, x, defArgs st, defBody st, defScope st, [], kwd⟩
structure OkFK (P : Program) (w : World) (K : PySem.W.Frag) (mg : Str → Option Value) (base : Heap) (tb : TBs) (k : Nat) (x : Str) (ps : List Str) (n b : Nat) (dds : List D) (F : FM) : Prop where
  ex : ∃ fd ds dvs, FnOk P w K mg base CX0 k (He.fAd K (x, none)) fd ps (spM ⟨K, tb⟩ b F) ∧ Binds K fd ps ds ∧ Vals dvs ds ∧ (∀ H m, Reps K H m dds dvs) ∧ PySem.W.keepIn K (.ref (He.fAd K (x, none))) = true
  mg : mg x = some (.ref (He.fAd K (x, none)))
  len : n + dds.length = b
theorem OkFK.pure {P : Program} {w : World} {K : PySem.W.Frag} {mg : Str → Option Value} {base : Heap} {tb : TBs} {k : Nat} {x : Str} {ps : List Str} {n b : Nat} {dds : List D} {F : FM} (o : OkFK P w K mg base tb k x ps n b dds F) : OkFK P w K mg base tb k x ps n b dds (FP F) := by
  obtain ⟨fd, ds, dvs, h, r⟩ := o.ex
  exact ⟨⟨fd, ds, dvs, h.imp fun _ _ _ _ z => spM_FP z, r⟩, o.mg, o.len⟩
theorem OkFK.of {fa : List He.Fa} {fn : List He.DefD} {tf : TFs} {P : Program} {w : World} {K : PySem.W.Frag} {mg : Str → Option Value} {base h : Heap} {st : Stmt} {x : Str} {N ps : List Str} {k n b j : Nat} {f : SM} {kwd : List (Str × He.Dv)} {dds : List D} (T : Tp fa fn tf w K mg base h)
    (i i2 : Nat) (hd : fn[i]? = some (mkDK st x kwd)) (hgl : fa[i2]? = some (.glo x)) (S : FnScope N ps (defScope st)) (hp : ps.length = b) (hN : N.length = b + j) (hk : kwd ≠ []) (hn : n + kwd.length = ps.length) (hl : n + dds.length = b)
    (hdd : ∀ H m, Reps K H m dds ((He.DefD.kws K (mkDK st x kwd)).map (·.2)))
    (hbind : ∀ (D : Addr) (doc pm : Value) (an : Option Addr) (cdv ct : Value) (us ks : List Value), us.length = n → ks.length = kwd.length →
      KwChain D ((kwd.map (·.1)).zip ks) (bindArgs (PySem.W.fnOf x x (defArgs st) (defBody st) (defScope st) .none (.ref D) doc pm an cdv ct) ⟨us, []⟩) (ps.zip (us ++ ks)))
    (hb : ∀ (A : Around) (outer : List Env) (s : Shared) (H : Hp) (E : XK), Room k (DX P w K mg base N st x A outer s H E).A → PSs (DX P w K mg base N st x A outer s H E) (defBody st) (TSM ⟨K, tbs tf K⟩ f)) :
    OkFK P w K mg base (tbs tf K) (k + 1) x ps n b dds (mBody f j) := by
  obtain ⟨fd, F⟩ := T.c.t.d.def_ i hd
  have F : FunD K x x (defArgs st) (defBody st) (defScope st) [] (He.DefD.kws K (mkDK st x kwd)) (He.fAd K (x, none)) fd := F
  have e1 : (He.DefD.kws K (mkDK st x kwd)).length = kwd.length := by unfold He.DefD.kws; rw [List.length_map]
  have e2 : (He.DefD.kws K (mkDK st x kwd)).map (·.1) = kwd.map (·.1) := by unfold He.DefD.kws; rw [List.map_map]; rfl
  obtain ⟨ds, hv, hbn⟩ := FunD.binds0 (ps := ps) F n (fun z => hk (List.eq_nil_of_length_eq_zero (by rw [← e1, z]; rfl))) (by rw [e1]; exact hn) (fun D doc pm an cdv ct us ks h1 h2 => by
    rw [e2]
    exact hbind D doc pm an cdv ct us ks h1 (by rw [h2, e1]))
  exact ⟨⟨fd, ds, _, fun_okM (p := (x, none)) F S hp hN hb, hbn, hv, hdd, F.kp⟩, T.glo i2 hgl, hl⟩
section
variable {X : Cx} {tb : TBs} {k n b : Nat} {ps : List Str} {F : FM} {g : AM} {x : Str} {p pos : Pos} {e : Expr} {es : List Expr} {dds : List D}
theorem m_callOK [an : AN g n] (O : OkFK X.prog X.w X.K X.mg X.base tb k x ps n b dds F) (hr : Room k X.A) (hg : Gl X x) (ha : PA X (e :: es) (TAm (GO X tb) g)) (hdb : (x == ("__debug__" : Str)) = false := by decide)
    (he : starEach (e :: es) X.env = (false, eval e X.env) :: starEach es X.env := by rfl) (hpl : (backTo pos (starEach es X.env)).any (·.1) = false := by rfl) :
    PE X (.Call (.Name x p) (e :: es) [] pos) (TM (GO X tb) (mCall (fun ds => F (ds ++ dds)) g)) := by
  obtain ⟨fd, ds, dvs, FO, hb, hv, hdd, hk⟩ := O.ex
  exact m_callD FO hr hg O.mg hk hb hv hdd O.len ha hdb he hpl
end
end Mir

/-! Mir3: pure calls at every heap; junctions that keep lists; a comprehension that filters a range. -/
namespace Mir
open PySem PySem.Spec PyProof.Rows L2

theorem shL_all {k n : Nat} (ih : ∀ d, shal n (shD k d) = shal n d) : ∀ ds : List D, allL (shal n) (shL k ds) = allL (shal n) ds
  | [] => by unfold shL; rfl
  | d :: ds => by
    unfold shL allL
    rw [ih d, shL_all ih ds]
theorem shal_shD (k : Nat) : ∀ (n : Nat) (d : D), shal n (shD k d) = shal n d
  | n, .non => by unfold shD; rfl
  | n, .bl b => by unfold shD; rfl
  | n, .int i => by unfold shD; rfl
  | n, .str s => by unfold shD; rfl
  | n, .ref i => by unfold shD; cases n <;> rfl
  | n, .tuf ds => by unfold shD; cases n <;> rfl
  | n, .obj ns ds => by unfold shD; cases n <;> rfl
  | 0, .tup ds => by unfold shD; rfl
  | 0, .fro ds => by unfold shD; rfl
  | n + 1, .tup ds => by
    unfold shD
    exact shL_all (shal_shD k n) ds
  | n + 1, .fro ds => by
    unfold shD
    exact shL_all (shal_shD k n) ds
/-- a pure call that gives a value without places does so at every heap -/
theorem fp_at {F : FM} {ds : List D} {d : D} {h' : Hs} (h : FP F ds [] = some (d, h')) (hd : shal 12 d = true) (hs : Hs) : FP F ds hs = some (d, hs) := by
  unfold FP at h ⊢
  cases e0 : allL (shal 12) ds with
  | false => rw [e0] at h; cases h
  | true =>
    rw [e0] at h
    simp only at h ⊢
    cases e1 : F ds [] with
    | none => rw [e1] at h; cases h
    | some r =>
      obtain ⟨d0, h0⟩ := r
      rw [e1] at h
      simp only at h ⊢
      cases e2 : shal 12 d0 with
      | true =>
        rw [e2] at h
        cases h
        rfl
      | false =>
        rw [e2] at h
        cases h
        rw [shal_shD, e2] at hd
        cases hd

/-! ### junctions -/
section
variable {G : GX} {H : Hp} {m : List Addr} {hs : Hs}
theorem RepO.lone {K : PySem.W.Frag} {m' : List Addr} {a : Addr} {ds : List D} (h : RepO K H m a (.lst ds)) (s : allL (shal 12) ds = true) : RepO K H m' a (.lst ds) := by
  obtain ⟨xs, hx, rx⟩ := h
  exact ⟨xs, hx, pure_reps (Rep.pure 12) s rx m'⟩
theorem HR.one (hr : HR G m hs H) {j : Nat} {ds : List D} (e : at? hs j = some (.lst ds)) (s : allL (shal 12) ds = true) : ∃ b, m[j]? = some b ∧ HR G [b] [.lst ds] H := by
  have e' := e
  rw [at?_eq] at e'
  obtain ⟨h1, _⟩ := List.getElem?_eq_some_iff.mp e'
  have l1 : j < m.length := by rw [hr.len]; exact h1
  have ea : m[j]? = some m[j] := List.getElem?_eq_getElem l1
  refine ⟨m[j], ea, rfl, by simp, fun i a o e1 e2 => ?_, hr.tab⟩
  cases i with
  | zero =>
    simp only [List.getElem?_cons_zero, Option.some.injEq] at e1 e2
    subst e1; subst e2
    exact (hr.obj j _ _ ea e').lone s
  | succ i => simp at e1
theorem HR.two (hr : HR G m hs H) {j k : Nat} {ds es : List D} (hne : j ≠ k) (e : at? hs j = some (.lst ds)) (s : allL (shal 12) ds = true) (e2 : at? hs k = some (.lst es)) (s2 : allL (shal 12) es = true) :
    ∃ b c, m[j]? = some b ∧ m[k]? = some c ∧ HR G [b, c] [.lst ds, .lst es] H := by
  have e' := e
  rw [at?_eq] at e'
  have e2' := e2
  rw [at?_eq] at e2'
  obtain ⟨h1, _⟩ := List.getElem?_eq_some_iff.mp e'
  obtain ⟨h2, _⟩ := List.getElem?_eq_some_iff.mp e2'
  have l1 : j < m.length := by rw [hr.len]; exact h1
  have l2 : k < m.length := by rw [hr.len]; exact h2
  have ea : m[j]? = some m[j] := List.getElem?_eq_getElem l1
  have eb : m[k]? = some m[k] := List.getElem?_eq_getElem l2
  refine ⟨m[j], m[k], ea, eb, rfl, ?_, fun i a o e1 e3 => ?_, hr.tab⟩
  · simp only [List.nodup_cons, List.mem_singleton, List.not_mem_nil, not_false_eq_true, List.nodup_nil, and_true]
    exact fun z => hne ((List.getElem_inj hr.nd).mp z)
  · match i with
    | 0 =>
      simp only [List.getElem?_cons_zero, Option.some.injEq] at e1 e3
      subst e1; subst e3
      exact (hr.obj j _ _ ea e').lone s
    | 1 =>
      simp only [List.getElem?_cons_succ, List.getElem?_cons_zero, Option.some.injEq] at e1 e3
      subst e1; subst e3
      exact (hr.obj k _ _ eb e2').lone s2
    | i + 2 => simp at e1
end
theorem shal_ints (l : List Int) : allL (shal 12) (l.map D.int) = true := by
  induction l with
  | nil => rfl
  | cons x r ih =>
    unfold allL
    exact ih
theorem shal_tI (l : List Int) : ∀ n, shal (n + 1) (tI l) = true := fun n => by
  show allL (shal n) (l.map D.int) = true
  induction l with
  | nil => rfl
  | cons x r ih =>
    show (match shal n (.int x) with | true => allL (shal n) (r.map D.int) | false => false) = true
    cases n <;> exact ih
theorem shal_tIs (l : List (List Int)) : allL (shal 12) (l.map tI) = true := allL_of fun d hd => by
  obtain ⟨x, _, rfl⟩ := List.mem_map.mp hd
  exact shal_tI x 11

/-! ### [k for k in range(..) if b k] -/
def filR (b : Int → Bool) (lo : Int) : Nat → List Int
  | 0 => []
  | n + 1 => match b lo with
    | true => lo :: filR b (lo + 1) n
    | false => filR b (lo + 1) n
theorem lcGo_fil {g : GM} {c : BM} {f : EM} {ρ : En} {hs : Hs} {b : Int → Bool} : ∀ (n : Nat) (lo : Int) (acc : List D), (∀ k : Int, lo ≤ k → k < lo + n → ∃ ρ', g (.int k) ρ = some ρ' ∧ c ρ' hs = some (b k, hs) ∧ f ρ' hs = some (.int k, hs)) →
    lcGo g c f ρ (rngL lo n) hs acc = some (acc.reverse ++ (filR b lo n).map D.int, hs)
  | 0, lo, acc, _ => by simp [lcGo, rngL, filR]
  | n + 1, lo, acc, h => by
    obtain ⟨ρ', h1, h2, h3⟩ := h lo (Int.le_refl _) (by omega)
    unfold rngL lcGo
    rw [h1]
    simp only
    rw [h2]
    unfold filR
    cases e : b lo with
    | true =>
      simp only
      rw [h3]
      simp only
      rw [lcGo_fil n (lo + 1) (.int lo :: acc) fun k k1 k2 => h k (by omega) (by omega)]
      simp
    | false =>
      simp only
      exact lcGo_fil n (lo + 1) acc fun k k1 k2 => h k (by omega) (by omega)
end Mir

/-! Mir4: bits. -/
namespace Mir
open PySem PySem.Spec PyProof.Rows L2
theorem filR_congr {b c : Int → Bool} : ∀ (n : Nat) (lo : Int), (∀ k : Int, lo ≤ k → k < lo + n → b k = c k) → filR b lo n = filR c lo n
  | 0, lo, _ => rfl
  | n + 1, lo, h => by
    unfold filR
    rw [h lo (Int.le_refl _) (by omega), filR_congr n (lo + 1) fun k h1 h2 => h k (by omega) (by omega)]
theorem bits_ex (b : Nat → Bool) : ∀ (n : Nat), ∃ i, i < 2 ^ n ∧ ∀ j, j < n → Nat.testBit i j = b j
  | 0 => ⟨0, by decide, fun j h => by omega⟩
  | n + 1 => by
    obtain ⟨i, h1, h2⟩ := bits_ex b n
    cases e : b n with
    | false =>
      refine ⟨i, by rw [Nat.pow_succ]; omega, fun j hj => ?_⟩
      by_cases z : j = n
      · subst z
        rw [e]
        exact Nat.testBit_lt_two_pow h1
      · exact h2 j (by omega)
    | true =>
      refine ⟨2 ^ n + i, by rw [Nat.pow_succ]; omega, fun j hj => ?_⟩
      by_cases z : j = n
      · subst z
        rw [e, Nat.testBit_two_pow_add_eq, Nat.testBit_lt_two_pow h1]
        rfl
      · rw [Nat.testBit_two_pow_add_gt (by omega)]
        exact h2 j (by omega)
/-- a quiet test that leaves as many objects leaves them -/
theorem qb_same {t : BM} [q : QB t] {ρ : En} {hs hs' : Hs} {b : Bool} (h : t ρ hs = some (b, hs')) (hl : hs'.length = hs.length) : hs' = hs := by
  obtain ⟨r, e⟩ := q.q _ _ _ _ h
  rw [e, List.length_append] at hl
  have : r = [] := List.eq_nil_of_length_eq_zero (by omega)
  rw [e, this, List.append_nil]
end Mir

/-! Mir5: instances of own classes: made by an __init__ that checks and then stores its parameters; fields. -/
namespace Mir
open PySem PySem.Spec PyProof.Rows L2

theorem strEq_iff {a b : Str} : strEq a b = true ↔ a = b := by rw [strEq_beq, beq_iff_eq]

/-! ### o.f -/
def fldOf (f : Str) : List Str → List D → Option D
  | n :: ns, d :: ds => match strEq n f with
    | true => some d
    | false => fldOf f ns ds
  | _, _ => none
theorem fldOf_ok {K : PySem.W.Frag} {H : Hp} {m : List Addr} {f : Str} {d : D} : ∀ {ns : List Str} {ds : List D} {xs : List V}, fldOf f ns ds = some d → Reps K H m ds xs → f ∈ ns ∧ ∃ v, (ns.zip xs).lookup f = some v ∧ Rep K H m d v
  | [], _, _, h, _ => by unfold fldOf at h; cases h
  | _ :: _, [], _, h, _ => by unfold fldOf at h; cases h
  | n :: ns, d0 :: ds, _, h, r => by
    cases r with
    | cons r t =>
      rename_i v vs
      unfold fldOf at h
      split at h
      · rename_i e
        cases h
        have e := strEq_iff.mp e
        subst e
        exact ⟨List.mem_cons_self, v, by simp [List.lookup], r⟩
      · rename_i e
        obtain ⟨h1, w, h2, h3⟩ := fldOf_ok h t
        refine ⟨List.mem_cons_of_mem _ h1, w, ?_, h3⟩
        have hne : ¬ f = n := fun z => by rw [strEq_iff.mpr z.symm] at e; cases e
        rw [List.zip_cons_cons, List.lookup_cons, show (f == n) = false from by simpa using hne]
        exact h2
def mFld (f : Str) (fe : EM) : EM := fun ρ hs => match fe ρ hs with
  | some (.obj ns ds, hs') => match fldOf f ns ds with
    | some d => some (d, hs')
    | none => none
  | _ => none
instance {f : Str} {fe : EM} [a : QE fe] : QE (mFld f fe) := ⟨fun ρ hs d hs' h => by
  unfold mFld at h
  split at h
  · rename_i e
    split at h
    · cases h; exact a.q _ _ _ _ e
    · cases h
  · cases h⟩
section
variable {X : Cx} {tb : TBs} {e : Expr} {fe : EM} {pos : Pos}
theorem m_fld {f : Str} (he : PE X e (TM (GO X tb) fe)) (hb : attributeBase e f X.env (eval e X.env) = eval e X.env := by rfl) : PE X (.Attribute e f pos) (TM (GO X tb) (mFld f fe)) := by
  refine (pe_fld he hb).imp fun σ H Q ⟨ρ, hs, m, sl, hr, d, hs', ee, q⟩ => ?_
  unfold mFld at ee
  split at ee
  · rename_i ns ds hs1 e1
    split at ee
    · rename_i d' e2
      cases ee
      refine ⟨ρ, hs, m, sl, hr, _, _, e1, fun v H' m' n' hr' rv => ?_⟩
      cases rv with
      | obj h z c a r =>
        obtain ⟨k1, v, k2, k3⟩ := fldOf_ok e2 r
        exact ⟨_, _, _, _, v, rfl, h, c, a _ k1, k2, q v H' m' n' hr' k3⟩
    · cases ee
  · cases ee
end

/-! ### values without places; instances of such -/
def pur : D → Bool
  | .obj _ es => allL (shal 12) es
  | d => shal 12 d
theorem Rep.pur {K : PySem.W.Frag} {H : Hp} {m : List Addr} {d : D} {v : V} (h : pur d = true) (r : Rep K H m d v) (m' : List Addr) : Rep K H m' d v := by
  unfold Mir.pur at h
  split at h
  · cases r with
    | obj h1 z c a r => exact .obj h1 z c a (pure_reps (Rep.pure 12) h r m')
  · exact r.pure 12 _ _ h m'
theorem Reps.pur {K : PySem.W.Frag} {H : Hp} {m : List Addr} : ∀ {ds : List D} {vs : List V}, allL pur ds = true → Reps K H m ds vs → ∀ m', Reps K H m' ds vs
  | [], _, _, r, _ => by cases r; exact .nil
  | d :: ds, _, h, r, m' => by
    obtain ⟨h1, h2⟩ := allL_cons h
    cases r with
    | cons r t => exact .cons (r.pur h1 m') (Reps.pur h2 t m')
/-- a call whose arguments are without places or instances of such -/
def FPO (F : FM) : FM := fun ds hs => match allL pur ds with
  | true => match F ds [] with
    | some (d, hs') => match pur d with
      | true => some (d, hs)
      | false => some (shD hs.length d, hs ++ hs'.map (shO hs.length))
    | none => none
  | false => none
instance {F : FM} : QF (FPO F) := ⟨fun ds hs d hs' h => by
  unfold FPO at h
  split at h
  · split at h
    · split at h
      · cases h; exact .refl
      · cases h; exact ⟨_, rfl⟩
    · cases h
  · cases h⟩
theorem spM_FPO {G : GX} {n : Nat} {F : FM} {vs : List V} {H : Hp} {Q : VK} {E : XK} (h : spM G n (FPO F) vs H Q E) : spM G n F vs H Q E := by
  obtain ⟨hl, ds, hs, m, hr, r, d, hs', e, q⟩ := h
  unfold FPO at e
  split at e
  · rename_i sd
    split at e
    · rename_i d1 hs1 e1
      have r0 : Reps G.K H [] ds vs := r.pur sd []
      refine ⟨hl, ds, [], [], hr.empty, r0, d1, hs1, e1, fun v H' m' n' hr' rv => ?_⟩
      split at e
      · rename_i s1
        cases e
        obtain ⟨nx, hr2⟩ := hr.join n' hr'
        exact q v H' m nx.cut (hr.cut nx hr2) (rv.pur s1 m)
      · cases e
        obtain ⟨nx, hr2⟩ := hr.join n' hr'
        rw [hr.len] at hr2
        have rv2 : Rep G.K H' (m ++ m') (shD m.length d1) v := rv.sh
        rw [hr.len] at rv2
        exact q v H' (m ++ m') nx hr2 rv2
    · cases e
  · cases e
theorem OkF.pureO {P : Program} {w : World} {K : PySem.W.Frag} {mg : Str → Option Value} {base : Heap} {tb : TBs} {k : Nat} {x : Str} {ps : List Str} {n : Nat} {F : FM} (o : OkF P w K mg base tb k x ps n F) : OkF P w K mg base tb k x ps n (FPO F) := by
  obtain ⟨fd, h, r⟩ := o.ex
  exact ⟨⟨fd, h.imp fun _ _ _ _ z => spM_FPO z, r⟩, o.mg⟩

/-! ### an __init__ -/
/-- a step beside p -/
structure Aft (p : Addr) (H H' : Hp) : Prop where
  keep : ∀ a o, H a = some o → a ≠ p → (∀ ps, o ≠ .tbl ps) → H' a = some o
  there : ∀ a, H a ≠ none → H' a ≠ none
abbrev MkF := List D → Option (List Str × List D)
def spMk (G : GX) (c : Str) (n : Nat) (F : MkF) : Sp := fun vs H Q _ => vs.length = n + 1 ∧ ∃ p us ds, vs = .ref p :: us ∧ (∃ dx, H p = some (.ins (He.ga G.K c) dx [])) ∧ TabsOk G.tb H ∧ Reps G.K H [] ds us ∧
  ∃ ns es, F ds = some (ns, es) ∧ ∀ H', Aft p H H' → TabsOk G.tb H' → (∃ dx xs, H' p = some (.ins (He.ga G.K c) dx (ns.zip xs)) ∧ Reps G.K H' [] es xs) → Cls G.K (He.ga G.K c) → (∀ x ∈ ns, NoAttr G.K (He.ga G.K c) x) → Q .non H'
def slotsOf (ρ : En) : List (Str × Nat) → Option (List D)
  | [] => some []
  | (_, i) :: r => match at? ρ i with
    | some (some d) => match shal 12 d, slotsOf ρ r with
      | true, some ds => some (d :: ds)
      | _, _ => none
    | _ => none
/-- the checks mck, then the fields -/
def mkF (c : Str) (mck : SM) (j : Nat) (fl : List (Str × Nat)) : MkF := fun ds => match allL (shal 12) ds with
  | true => match mck (some (.ref 0) :: (ds.map some ++ List.replicate j none)) [.opq c] with
    | some (.nx ρ hs) => match at? ρ 0, at? hs 0, slotsOf ρ fl with
      | some (some (.ref 0)), some (.opq c'), some es => match strEq c' c with
        | true => some (fl.map (·.1), es)
        | false => none
      | _, _, _ => none
    | _ => none
  | false => none
def TSF (K : PySem.W.Frag) : List (Str × Nat) → TS
  | [] => fun D σ H => D.nx σ H
  | (f, i) :: r => fun D σ H => sFld K (tVar 0) (tVar i) f { D with nx := fun σ' H' => TSF K r D σ' H' } σ H
theorem pss_fld0 {X : Cx} : PSs X [] (TSF X.K []) := pss_nil.imp fun D σ H q => q
theorem pss_fld1 {X : Cx} {st : Stmt} {rest : List Stmt} {f : Str} {i : Nat} {r : List (Str × Nat)} (h : PS X st (sFld X.K (tVar 0) (tVar i) f)) (t : PSs X rest (TSF X.K r)) : PSs X (st :: rest) (TSF X.K ((f, i) :: r)) :=
  (pss_cons h t).imp fun D σ H q => q
theorem putF_zip {f : Str} {v : V} : ∀ {ns : List Str} {xs : List V}, ns.length = xs.length → f ∉ ns → putF f v (ns.zip xs) = (ns ++ [f]).zip (xs ++ [v])
  | [], [], _, _ => rfl
  | n :: ns, x :: xs, h, hf => by
    have h1 : ¬ n = f := fun z => hf (by rw [z]; exact List.mem_cons_self)
    have h2 : f ∉ ns := fun z => hf (List.mem_cons_of_mem _ z)
    show (if n = f then (n, v) :: ns.zip xs else (n, x) :: putF f v (ns.zip xs)) = (n, x) :: (ns ++ [f]).zip (xs ++ [v])
    rw [if_neg h1, putF_zip (Nat.succ.inj h) h2]
  | [], _ :: _, h, _ => by cases h
  | _ :: _, [], h, _ => by cases h
theorem tsf_run {K : PySem.W.Frag} {C p : Addr} {σ : L2.St} {W : Ends} (hc : Cls K C) (h0 : σ[0]? = some (some (.ref p))) : ∀ (fl : List (Str × Nat)) (vs : List V) (dn : List Str) (xs : List V) (H : Hp) (dx : Addr), H p = some (.ins C dx (dn.zip xs)) → dn.length = xs.length → (dn ++ fl.map (·.1)).Nodup → dn.length + fl.length < 1000 →
    (∀ x ∈ fl.map (·.1), NoAttr K C x) → fl.length = vs.length → (∀ (k : Nat) (f : Str) (i : Nat), fl[k]? = some (f, i) → ∃ v, vs[k]? = some v ∧ σ[i]? = some (some v)) →
    (∀ H', (∃ dx', H' p = some (.ins C dx' ((dn ++ fl.map (·.1)).zip (xs ++ vs)))) → (∀ a, a ≠ p → H' a = H a) → W.nx σ H') → TSF K fl W σ H
  | [], vs, dn, xs, H, dx, hp, hl, hn, hs, na, hv, hi, q => by
    cases vs with
    | nil => exact q H ⟨dx, by simpa using hp⟩ fun _ _ => rfl
    | cons v vs => cases hv
  | (f, i) :: fl, vs, dn, xs, H, dx, hp, hl, hn, hs, na, hv, hi, q => by
    cases vs with
    | nil => cases hv
    | cons v vs =>
      obtain ⟨v', e1, e2⟩ := hi 0 f i rfl
      cases e1
      have hf : f ∉ dn := fun z => by
        rw [List.map_cons, List.nodup_append] at hn
        exact hn.2.2 f z f List.mem_cons_self rfl
      have ez := putF_zip (v := v) hl hf
      refine ⟨v, e2, .ref p, h0, p, C, dx, _, rfl, hp, hc, na f List.mem_cons_self, ?_, ?_⟩
      · rw [List.length_zip]; simp only [List.length_cons] at hs; omega
      · refine tsf_run hc h0 fl vs (dn ++ [f]) (xs ++ [v]) _ dx (by rw [upd_same, ez]) (by simp [hl]) ?_ ?_ (fun x hx => na x (List.mem_cons_of_mem _ hx)) (Nat.succ.inj hv) (fun k g j e => hi (k + 1) g j e) fun H' h1 h2 => ?_
        · simpa using hn
        · simp only [List.length_append, List.length_cons, List.length_nil] at hs ⊢; omega
        · refine q H' ?_ fun a ha => (h2 a ha).trans (upd_ne ha)
          obtain ⟨dx', e⟩ := h1
          exact ⟨dx', by simpa using e⟩
theorem slotsOf_ok {G : GX} {H : Hp} {m : List Addr} {ρ : En} {σ : L2.St} (sl : SL G H m ρ σ) : ∀ {fl : List (Str × Nat)} {es : List D}, slotsOf ρ fl = some es → allL (shal 12) es = true ∧ ∃ vs, fl.length = vs.length ∧ Reps G.K H m es vs ∧ ∀ (k : Nat) (f : Str) (i : Nat), fl[k]? = some (f, i) → ∃ v, vs[k]? = some v ∧ σ[i]? = some (some v)
  | [], _, h => by
    cases h
    exact ⟨rfl, [], rfl, .nil, fun k f i e => by simp at e⟩
  | (f, i) :: fl, es, h => by
    unfold slotsOf at h
    split at h
    · rename_i d e
      split at h
      · rename_i ds h1 h2
        cases h
        obtain ⟨v, e1, r⟩ := sl.get e
        obtain ⟨sh, vs, k1, k2, k3⟩ := slotsOf_ok sl h2
        refine ⟨by unfold allL; rw [h1]; exact sh, v :: vs, by simp [k1], .cons r k2, fun k g j e2 => ?_⟩
        cases k with
        | zero =>
          cases e2
          exact ⟨v, rfl, e1⟩
        | succ k => exact k3 k g j e2
      · cases h
    · cases h
/-- a value without places, where instances change -/
theorem reps_off {K : PySem.W.Frag} {H H' : Hp} {m : List Addr} {n : Nat} (ih : ∀ (d : D) (v : V), shal n d = true → Rep K H m d v → Rep K H' m d v) : ∀ {ds : List D} {vs : List V}, allL (shal n) ds = true → Reps K H m ds vs → Reps K H' m ds vs
  | [], _, _, r => by cases r; exact .nil
  | d :: ds, _, h, r => by
    obtain ⟨h1, h2⟩ := allL_cons h
    cases r with
    | cons r t => exact .cons (ih _ _ h1 r) (reps_off ih h2 t)
theorem Rep.off {K : PySem.W.Frag} {H H' : Hp} {m : List Addr} (k : ∀ a o, H a = some o → (∀ C dx fs, o ≠ .ins C dx fs) → (∀ ps, o ≠ .tbl ps) → H' a = some o) : ∀ (n : Nat) (d : D) (v : V), shal n d = true → Rep K H m d v → Rep K H' m d v
  | n, .non, _, _, r => by cases r; exact .non
  | n, .bl b, _, _, r => by cases r; exact .bl b
  | n, .int i, _, _, r => by cases r; exact .int i
  | n, .str s, _, _, r => by cases r; exact .str s
  | n, .ref i, _, h, _ => by cases n <;> cases h
  | n, .tuf i, _, h, _ => by cases n <;> cases h
  | n, .obj _ i, _, h, _ => by cases n <;> cases h
  | 0, .tup ds, _, h, _ => by cases h
  | 0, .fro ds, _, h, _ => by cases h
  | n + 1, .tup ds, _, h, r => by
    cases r with
    | tup hx rx =>
      exact .tup (k _ _ hx (fun _ _ _ z => by cases z) fun _ z => by cases z) (reps_off (Rep.off k n) h rx)
  | n + 1, .fro ds, _, h, r => by
    cases r with
    | fro hx rx =>
      refine .fro ?_ (reps_off (Rep.off k n) h rx)
      rcases hx with ⟨o, hx⟩ | hx
      · exact .inl ⟨o, k _ _ hx (fun _ _ _ z => by cases z) fun _ z => by cases z⟩
      · exact .inr hx
theorem init_run {K : PySem.W.Frag} {tb : TBs} {c : Str} {n j : Nat} {mck : SM} {fl : List (Str × Nat)} {N : List Str} (hN : N.length = n + 1 + j) (hc : Cls K (He.ga K c)) (na : ∀ x ∈ fl.map (·.1), NoAttr K (He.ga K c) x) (nd : (fl.map (·.1)).Nodup) (hf : fl.length < 1000)
    {vs : List V} {H : Hp} {Q : VK} {E : XK} (h : spMk ⟨K, tb⟩ c n (mkF c mck j fl) vs H Q E) : TSK ⟨K, tb⟩ mck (TSF K fl) { nx := fun _ H' => Q .non H', rt := Q } (L2.start N vs) H := by
  obtain ⟨hl, p, us, ds, rfl, ⟨dx, hp⟩, ht, r, ns, es, e, q⟩ := h
  unfold mkF at e
  split at e
  · rename_i sd
    split at e
    · rename_i ρ' hs' e1
      split at e
      · rename_i c' es' e2 e3 e4
        split at e
        · rename_i e5
          cases e
          have e5 := strEq_iff.mp e5
          subst e5
          have hr : HR ⟨K, tb⟩ [p] [.opq c'] H := ⟨rfl, by simp, fun i a o k1 k2 => by
            cases i with
            | zero =>
              simp only [List.getElem?_cons_zero, Option.some.injEq] at k1 k2
              subst k1; subst k2
              exact ⟨dx, hp⟩
            | succ i => simp at k1, ht⟩
          have r1 : Reps K H [p] ds us := pure_reps (Rep.pure 12) sd r [p]
          have hd := r1.length
          have hl1 : us.length = n := by simpa using hl
          have sl : SL ⟨K, tb⟩ H [p] (some (.ref 0) :: (ds.map some ++ List.replicate j none)) (L2.start N (.ref p :: us)) := by
            unfold L2.start
            refine ⟨by simp only [List.length_cons, List.length_append, List.length_map, List.length_replicate]; omega, fun i d' ei => ?_⟩
            cases i with
            | zero =>
              simp only [List.getElem?_cons_zero, Option.some.injEq] at ei
              subst ei
              exact ⟨.ref p, rfl, .ref rfl⟩
            | succ i =>
              rw [List.getElem?_cons_succ] at ei
              by_cases hi : i < ds.length
              · rw [List.getElem?_append_left (by rw [List.length_map]; exact hi), List.getElem?_map] at ei
                rw [List.map_cons, List.cons_append, List.getElem?_cons_succ, List.getElem?_append_left (by rw [List.length_map]; omega), List.getElem?_map]
                cases e1 : ds[i]? with
                | none => rw [e1] at ei; cases ei
                | some d2 =>
                  rw [e1] at ei
                  cases ei
                  obtain ⟨v, h1, h2⟩ := r1.get e1
                  exact ⟨v, by rw [h1]; rfl, h2⟩
              · rw [List.getElem?_append_right (by rw [List.length_map]; omega), List.getElem?_replicate] at ei
                split at ei <;> cases ei
          refine ⟨_, _, [p], sl, hr, _, e1, fun σ' H' m' n' hr' sl' => ?_⟩
          obtain ⟨v0, k1, k2⟩ := sl'.get e2
          obtain ⟨t, em⟩ := n'.pre
          have k0 : v0 = .ref p := by
            cases k2 with
            | ref z =>
              rw [em] at z
              simp only [List.cons_append, List.getElem?_cons_zero, Option.some.injEq] at z
              rw [z]
          subst k0
          obtain ⟨sh, vs2, l2, r2, i2⟩ := slotsOf_ok sl' e4
          have hm0 : m'[0]? = some p := by rw [em]; rfl
          rw [at?_eq] at e3
          obtain ⟨dx', hp'⟩ := hr'.obj 0 p _ hm0 e3
          refine tsf_run (dx := dx') hc k1 fl vs2 [] [] H' hp' rfl (by simpa using nd) (by simpa using hf) na l2 i2 fun H2 h1 h2 => ?_
          have kp : ∀ a o, H' a = some o → (∀ C dx fs, o ≠ .ins C dx fs) → (∀ ps, o ≠ .tbl ps) → H2 a = some o := fun a o e ni _ => by
            have : a ≠ p := fun z => by
              rw [z, hp'] at e
              exact ni _ _ _ (Option.some.inj e).symm
            rw [h2 a this]; exact e
          refine q H2 ⟨fun a o e na' nt => ?_, fun a ha => ?_⟩ (hr'.tab.keep fun b o e ho => ?_) ?_ hc na
          · rw [h2 a na']
            exact n'.keep a o e (by simpa using na') nt
          · by_cases z : a = p
            · obtain ⟨dx2, h1⟩ := h1
              rw [z, h1]; simp
            · rw [h2 a z]; exact n'.there a ha
          · rw [h2 b fun z => ?_]
            · exact e
            · rw [z, hp'] at e
              rcases ho with ⟨ps, eo⟩ | ⟨ob, u, eo⟩ <;> (rw [eo] at e; cases e)
          · obtain ⟨dx2, h1⟩ := h1
            refine ⟨dx2, vs2, by simpa using h1, ?_⟩
            exact reps_off (Rep.off kp 12) sh (pure_reps (Rep.pure 12) sh r2 [])
        · cases e
      · cases e
    · cases e
  · cases e

/-! ### C(..) -/
def mMake (F : MkF) (g : AM) : EM := fun ρ hs => match g ρ hs with
  | some (ds, hs1) => match allL (shal 12) ds, F ds with
    | true, some (n :: ns, e :: es) => some (.obj (n :: ns) (e :: es), hs1)
    | _, _ => none
  | none => none
instance {F : MkF} {g : AM} [a : QA g] : QE (mMake F g) := ⟨fun ρ hs d hs' h => by
  unfold mMake at h
  split at h
  · rename_i e1
    split at h
    · cases h; exact a.q _ _ _ _ e1
    · cases h
  · cases h⟩
/-- the class c can be made; its __init__ keeps the promise told by F -/
structure OkMk (P : Program) (w : World) (K : PySem.W.Frag) (mg : Str → Option Value) (base : Heap) (tb : TBs) (k : Nat) (c : Str) (ps : List Str) (n : Nat) (F : MkF) : Prop where
  ex : ∃ fd, FnOk P w K mg base CX0 k (He.fAd K (c, some "__init__")) fd ps (spMk ⟨K, tb⟩ c n F) ∧ Binds K fd ps []
  mkr : Mk K (He.ga K c) (He.fAd K (c, some "__init__"))
  mg : mg c = some (.ref (He.ga K c))
/-- an __init__ as data -/
abbrev mkDM (c qual : Str) (st : Stmt) : He.DefD := ⟨(c, some "__init__"), "__init__", qual, defArgs st, defBody st, defScope st, [], []⟩
abbrev DXm (P : Program) (w : World) (K : PySem.W.Frag) (mg : Str → Option Value) (base : Heap) (N : List Str) (st : Stmt) (c qual : Str) (A : Around) (outer : List Env) (s : Shared) (H : Hp) (E : XK) : Cx :=
  (cxOf CX0 P w K mg base N qual (defScope st) (He.fAd K (c, some "__init__")) (.ref (He.codeOf K (c, some "__init__"))) A outer s H E).nox
def NoAts (K : PySem.W.Frag) (C : Addr) : List Str → Prop
  | [] => True
  | f :: r => NoAttr K C f ∧ NoAts K C r
theorem NoAts.all {K : PySem.W.Frag} {C : Addr} : ∀ {l : List Str}, NoAts K C l → ∀ x ∈ l, NoAttr K C x
  | [], _, x, hx => by cases hx
  | f :: r, h, x, hx => by
    rcases List.mem_cons.mp hx with e | hx
    · rw [e]; exact h.1
    · exact h.2.all x hx
section
variable {fa : List He.Fa} {fn : List He.DefD} {tf : TFs} {P : Program} {w : World} {K : PySem.W.Frag} {mg : Str → Option Value} {base h : Heap}
theorem Tp.noat (T : Tp fa fn tf w K mg base h) {c f : Str} (i : Nat) (e : fa[i]? = some (.noat c f) := by rfl) : NoAttr K (He.ga K c) f := He.noat_ok (T.c.t.d.fact i e)
theorem OkMk.of {st : Stmt} {c qual : Str} {N ps : List Str} {k n j : Nat} {mck : SM} {fl : List (Str × Nat)} (T : Tp fa fn tf w K mg base h) (i i2 i3 i4 : Nat) (hd : fn[i]? = some (mkDM c qual st)) (hgl : fa[i2]? = some (.glo c)) (hcl : fa[i3]? = some (.cls c)) (hmk : fa[i4]? = some (.mkr c))
    (na : NoAts K (He.ga K c) (fl.map (·.1))) (nd : (fl.map (·.1)).Nodup) (hf : fl.length < 1000) (S : FnScope N ps (defScope st)) (hp : ps.length = n + 1) (hN : N.length = n + 1 + j)
    (hbind : ∀ (kV doc pm : Value) (an : Option Addr) (cdv ct : Value) (us : List Value), us.length = ps.length → bindArgs (PySem.W.fnOf "__init__" qual (defArgs st) (defBody st) (defScope st) .none kV doc pm an cdv ct) ⟨us, []⟩ = Pure.pure (ps.zip us))
    (hb : ∀ (A : Around) (outer : List Env) (s : Shared) (H : Hp) (E : XK), Room k (DXm P w K mg base N st c qual A outer s H E).A → PSs (DXm P w K mg base N st c qual A outer s H E) (defBody st) (TSK ⟨K, tbs tf K⟩ mck (TSF K fl))) :
    OkMk P w K mg base (tbs tf K) (k + 1) c ps n (mkF c mck j fl) := by
  obtain ⟨fd, F⟩ := T.c.t.d.def_ i hd
  have hc : Cls K (He.ga K c) := He.cls_ok (T.c.t.d.fact i3 hcl)
  refine ⟨⟨fd, ?_, FunD.bindsN F hbind⟩, He.mkr_ok (T.c.t.d.fact i4 hmk), T.glo i2 hgl⟩
  obtain ⟨oc, od, dV, kV, doc, pm, an, cdv, ct, osl, rfl, lk, hcd, _⟩ := F.ex
  obtain ⟨cd, rfl⟩ := He.codeIn_ref hcd
  have ec : He.codeOf K (c, some "__init__") = cd := He.codeOf_eq lk rfl
  rw [show DXm P w K mg base N st c qual = fun A outer s H E => (cxOf CX0 P w K mg base N qual (defScope st) (He.fAd K (c, some "__init__")) (.ref (He.codeOf K (c, some "__init__"))) A outer s H E).nox from rfl, ec] at hb
  refine fn_of lk hcd S (fun vs H Q E h => ?_) fun A outer s H vs Q E hr hsp => ⟨_, (hb A outer s H E hr).nox, init_run hN hc na.all nd hf hsp⟩
  obtain ⟨h1, _⟩ := h
  rw [hp]; exact h1
end
section
variable {X : Cx} {tb : TBs} {k n : Nat} {ps : List Str} {F : MkF} {g : AM} {c : Str} {p pos : Pos} {e : Expr} {es : List Expr}
theorem m_make {a : Nat} [an : AN g a] (O : OkMk X.prog X.w X.K X.mg X.base tb k c ps a F) (hr : Room (k + 1) X.A) (hg : Gl X c) (ha : PA X (e :: es) (TAm (GO X tb) g)) (hdb : (c == ("__debug__" : Str)) = false := by decide)
    (he : starEach (e :: es) X.env = (false, eval e X.env) :: starEach es X.env := by rfl) (hpl : (backTo pos (starEach es X.env)).any (·.1) = false := by rfl) :
    PE X (.Call (.Name c p) (e :: es) [] pos) (TM (GO X tb) (mMake F g)) := by
  obtain ⟨fd, FO, hb⟩ := O.ex
  refine (pe_make O.mkr FO hr hg O.mg hb .nil pass0 ha hdb he hpl).imp fun σ H Q ⟨ρ, hs, m, sl, hr, d, hs', ee, q⟩ => ?_
  unfold mMake at ee
  split at ee
  · rename_i ds hs1 e1
    split at ee
    · rename_i n0 ns e0 es' sd e2
      cases ee
      refine ⟨ρ, hs, m, sl, hr, _, _, e1, fun vs H1 m1 n1 hr1 rv => ?_⟩
      intro x dx nx ndx nex
      have kp : ∀ a o, H1 a = some o → upd (upd H1 dx (.own x)) x (.ins (He.ga X.K c) dx []) a = some o := fun a o e => by
        rw [upd_ne (ne_of_none e nx), upd_ne (ne_of_none e ndx)]
        exact e
      have hl := an.n _ _ _ _ e1
      have hv := rv.length
      refine ⟨by simp only [List.length_cons, List.length_append, List.length_nil]; omega, x, vs, ds, by rw [List.append_nil], ⟨dx, upd_same⟩, hr1.tab.keep fun b o e _ => kp b o e, reps_off (Rep.off (fun a o e _ _ => kp a o e) 12) sd (pure_reps (Rep.pure 12) sd rv []), _, _, e2, fun H' af tb' h1 hc na => ?_⟩
      obtain ⟨dx', xs, h1, h2⟩ := h1
      refine ⟨rfl, ?_⟩
      have nxt : Nx m1 H1 m1 H' := ⟨⟨[], by simp⟩, fun a h z => absurd h z, fun a o e _ nt => af.keep a o (kp a o e) (ne_of_none e nx) nt, fun a e => by
        cases z : H1 a with
        | none => exact absurd z e
        | some o => exact af.there a (by rw [kp a o z]; simp)⟩
      refine q _ H' m1 (n1.trans nxt) ⟨hr1.len, hr1.nd, fun i a o e1 e2 => ?_, tb'⟩ (.obj h1 ?_ hc na ?_)
      · have q1 := hr1.obj i a o e1 e2
        obtain ⟨w, hw, _, _, nt, _⟩ := q1.some
        exact q1.nx hr1 nxt ((af.keep a w (kp a w hw) (ne_of_none hw nx) nt).trans hw.symm)
      · cases h2 with
        | cons r t => simp
      · exact Reps.widen (m := []) h2
    · cases ee
  · cases ee
end
end Mir

/-! Mir6: list(range(..)), tuple(range(..)), reversed(range(..)), enumerate, l.index(e), l[i] += e. -/
namespace Mir
open PySem PySem.Spec PyProof.Rows L2

/-! ### range(..) as an argument -/
/-- the two ends -/
abbrev RgM := En → Hs → Option (Int × Int × Hs)
def TRgM (G : GX) (f : RgM) : L2.St → Hp → (Int → Int → Hp → Prop) → Prop := fun σ H Q => ∃ ρ hs m, SL G H m ρ σ ∧ HR G m hs H ∧ ∃ a b hs', f ρ hs = some (a, b, hs') ∧ ∀ H' m', Nx m H m' H' → HR G m' hs' H' → Q a b H'
def mRg1 (f : EM) : RgM := fun ρ hs => match f ρ hs with
  | some (.int n, hs') => some (0, n, hs')
  | _ => none
def mRg2 (f g : EM) : RgM := fun ρ hs => match f ρ hs with
  | some (.int i, hs1) => match g ρ hs1 with
    | some (.int j, hs2) => some (i, j, hs2)
    | _ => none
  | _ => none
class QR (f : RgM) : Prop where
  q : ∀ ρ hs a b hs', f ρ hs = some (a, b, hs') → Grows hs hs'
instance {f : EM} [a : QE f] : QR (mRg1 f) := ⟨fun ρ hs x y hs' h => by
  unfold mRg1 at h
  split at h
  · rename_i e; cases h; exact a.q _ _ _ _ e
  · cases h⟩
instance {f g : EM} [a : QE f] [b : QE g] : QR (mRg2 f g) := ⟨fun ρ hs x y hs' h => by
  unfold mRg2 at h
  split at h
  · rename_i e
    split at h
    · rename_i e2; cases h; exact (a.q _ _ _ _ e).trans (b.q _ _ _ _ e2)
    · cases h
  · cases h⟩
theorem PRg.imp {X : Cx} {e : Expr} {t t' : L2.St → Hp → (Int → Int → Hp → Prop) → Prop} (h : PRg X e t) (i : ∀ σ H Q, t' σ H Q → t σ H Q) : PRg X e t' := fun pins s σ H Q I q => h pins s σ H Q I (i σ H Q q)
section
variable {X : Cx} {tb : TBs} {a b e tg : Expr} {fa fb : EM} {f : RgM} {p pos : Pos}
theorem m_rg1 (hg : Gl X "range") (hm : X.mg "range" = none) (ha : PE X a (TM (GO X tb) fa)) (na : starEach [a] X.env = (false, eval a X.env) :: starEach [] X.env := by rfl) : PRg X (.Call (.Name "range" p) [a] [] pos) (TRgM (GO X tb) (mRg1 fa)) :=
  PRg.imp (prg_1 hg hm ha na) fun σ H Q ⟨ρ, hs, m, sl, hr, x, y, hs', ee, q⟩ => by
    unfold mRg1 at ee
    split at ee
    · rename_i n hs1 e1
      cases ee
      refine ⟨ρ, hs, m, sl, hr, _, _, e1, fun v H' m' n' hr' rv => ?_⟩
      cases rv
      exact ⟨_, rfl, q H' m' n' hr'⟩
    · cases ee
theorem m_rg2 (hg : Gl X "range") (hm : X.mg "range" = none) (ha : PE X a (TM (GO X tb) fa)) (hb : PE X b (TM (GO X tb) fb)) (na : starEach [a, b] X.env = (false, eval a X.env) :: starEach [b] X.env := by rfl)
    (nb : starEach [b] X.env = (false, eval b X.env) :: starEach [] X.env := by rfl) (hp : (backTo pos (starEach [b] X.env)).any (·.1) = false := by rfl) : PRg X (.Call (.Name "range" p) [a, b] [] pos) (TRgM (GO X tb) (mRg2 fa fb)) :=
  PRg.imp (prg_2 hg hm ha hb na nb hp) fun σ H Q ⟨ρ, hs, m, sl, hr, x, y, hs', ee, q⟩ => by
    unfold mRg2 at ee
    split at ee
    · rename_i i hs1 e1
      split at ee
      · rename_i j hs2 e2
        cases ee
        refine ⟨ρ, hs, m, sl, hr, _, _, e1, fun v H1 m1 n1 hr1 rv => ?_⟩
        refine ⟨ρ, hs1, m1, sl.nx hr n1, hr1, _, _, e2, fun w H2 m2 n2 hr2 rw => ?_⟩
        cases rv
        cases rw
        exact ⟨_, _, rfl, rfl, q H2 m2 (n1.trans n2) hr2⟩
      · cases ee
    · cases ee
theorem reps_rng {K : PySem.W.Frag} {H : Hp} {m : List Addr} : ∀ (n : Nat) (lo : Int), Reps K H m (rngL lo n) ((List.range n).map fun i => V.int (lo + (i : Nat)))
  | 0, lo => .nil
  | n + 1, lo => by
    rw [List.range_succ_eq_map, List.map_cons, List.map_map]
    unfold rngL
    refine .cons (by simpa using Rep.int lo) ?_
    have h := reps_rng (K := K) (H := H) (m := m) n (lo + 1)
    have e : (List.range n).map ((fun i => V.int (lo + (i : Nat))) ∘ Nat.succ) = (List.range n).map fun i => V.int (lo + 1 + (i : Nat)) := by
      apply List.map_congr_left
      intro i _
      show V.int (lo + ((i + 1 : Nat) : Int)) = _
      congr 1
      omega
    rw [e]; exact h
def rgCap (a b : Int) : Bool := Nat.blt a.natAbs (2 ^ 62) && (Nat.blt b.natAbs (2 ^ 62) && Nat.ble (b - a).toNat (2 ^ 24))
theorem rgCap_ok {a b : Int} (h : rgCap a b = true) : RgOk a b := by
  unfold rgCap at h
  simp only [Bool.and_eq_true] at h
  obtain ⟨h1, h2, h3⟩ := h
  obtain ⟨a1, a2⟩ := blt_abs h1
  obtain ⟨b1, b2⟩ := blt_abs h2
  exact ⟨a1, a2, b1, b2, Nat.le_of_ble_eq_true h3⟩
def mLstRg (f : RgM) : EM := fun ρ hs => match f ρ hs with
  | some (a, b, hs') => match rgCap a b with
    | true => some (.ref hs'.length, hs' ++ [.lst (rngL a (b - a).toNat)])
    | false => none
  | none => none
def mTupRg (f : RgM) : EM := fun ρ hs => match f ρ hs with
  | some (a, b, hs') => match rgCap a b with
    | true => some (.tup (rngL a (b - a).toNat), hs')
    | false => none
  | none => none
instance [q : QR f] : QE (mLstRg f) := ⟨fun ρ hs d hs' h => by
  unfold mLstRg at h
  split at h
  · rename_i e
    split at h
    · cases h; exact (q.q _ _ _ _ _ e).trans .one
    · cases h
  · cases h⟩
instance [q : QR f] : QE (mTupRg f) := ⟨fun ρ hs d hs' h => by
  unfold mTupRg at h
  split at h
  · rename_i e
    split at h
    · cases h; exact q.q _ _ _ _ _ e
    · cases h
  · cases h⟩
theorem m_lstRg (hc : X.calm = true) (hg : Gl X "list") (hm : X.mg "list" = none) (he : PRg X e (TRgM (GO X tb) f)) (na : starEach [e] X.env = (false, eval e X.env) :: starEach [] X.env := by rfl) : PE X (.Call (.Name "list" p) [e] [] pos) (TM (GO X tb) (mLstRg f)) := by
  refine (pe_listRg hc hg hm he na).imp fun σ H Q ⟨ρ, hs, m, sl, hr, d, hs', ee, q⟩ => ?_
  unfold mLstRg at ee
  split at ee
  · rename_i a b hs1 e1
    split at ee
    · rename_i hcap
      cases ee
      refine ⟨ρ, hs, m, sl, hr, _, _, _, e1, fun H' m' n' hr' => ⟨rgCap_ok hcap, fun l hl => ?_⟩⟩
      have n2 : Nx m' H' (m' ++ [l]) (upd H' l (.lst (rgV a b))) := .alloc hr' hl
      exact q (.ref l) _ (m' ++ [l]) (n'.trans n2) (hr'.alloc (o := .lst (rngL a (b - a).toNat)) hl ⟨_, upd_same, reps_rng _ _⟩) (.new hr')
    · cases ee
  · cases ee
theorem m_tupRg (hc : X.calm = true) (hg : Gl X "tuple") (hm : X.mg "tuple" = none) (he : PRg X e (TRgM (GO X tb) f)) (na : starEach [e] X.env = (false, eval e X.env) :: starEach [] X.env := by rfl) : PE X (.Call (.Name "tuple" p) [e] [] pos) (TM (GO X tb) (mTupRg f)) := by
  refine (pe_tupRg hc hg hm he na).imp fun σ H Q ⟨ρ, hs, m, sl, hr, d, hs', ee, q⟩ => ?_
  unfold mTupRg at ee
  split at ee
  · rename_i a b hs1 e1
    split at ee
    · rename_i hcap
      cases ee
      refine ⟨ρ, hs, m, sl, hr, _, _, _, e1, fun H' m' n' hr' => ⟨rgCap_ok hcap, fun l hl => ?_⟩⟩
      exact q (.ref l) _ m' (n'.trans (.fresh1 hl)) (hr'.more hl) (.tup upd_same (reps_rng _ _))
    · cases ee
  · cases ee
/-- for i in reversed(range(..)) -/
def mRevRg (f : RgM) : IM := fun ρ hs => match f ρ hs with
  | some (a, b, hs') => match rgCap a b with
    | true => some (stpL (a + (((b - a).toNat : Nat) : Int) - 1) (-1) (b - a).toNat, hs')
    | false => none
  | none => none
theorem mi_revRg (hg : Gl X "reversed") (hm : X.mg "reversed" = none) (he : PRg X e (TRgM (GO X tb) f)) (na : starEach [e] X.env = (false, eval e X.env) :: starEach [] X.env := by rfl) : PI X tg (.Call (.Name "reversed" p) [e] [] pos) (TIS (GO X tb) (mRevRg f)) :=
  PI.imp' (pi_revR hg hm he na) fun σ H R ⟨ρ, hs, m, sl, hr, ds, hs', ee, q⟩ => by
    unfold mRevRg at ee
    split at ee
    · rename_i a b hs1 e1
      split at ee
      · rename_i hcap
        cases ee
        obtain ⟨b1, b2, b3, b4, b5⟩ := rgCap_ok hcap
        exact ⟨ρ, hs, m, sl, hr, _, _, _, e1, fun H' m' n' hr' => ⟨b1, b2, b3, b4, q _ H' m' n' hr' js_stp⟩⟩
      · cases ee
    · cases ee
end
/-! ### enumerate(l) -/
def enuL : Nat → List D → List D
  | _, [] => []
  | i, d :: ds => .tup [.int (i : Nat), d] :: enuL (i + 1) ds
theorem enuL_len : ∀ (ds : List D) (i : Nat), (enuL i ds).length = ds.length
  | [], _ => rfl
  | _ :: ds, i => congrArg (· + 1) (enuL_len ds (i + 1))
theorem enuL_get : ∀ (ds : List D) (i j : Nat) (d : D), (enuL i ds)[j]? = some d → ∃ x, ds[j]? = some x ∧ d = .tup [.int ((i + j : Nat)), x]
  | [], _, _, _, h => by simp [enuL] at h
  | x :: ds, i, 0, d, h => by
    simp [enuL] at h
    exact ⟨x, rfl, h.symm⟩
  | x :: ds, i, j + 1, d, h => by
    simp only [enuL, List.getElem?_cons_succ] at h
    obtain ⟨y, h1, h2⟩ := enuL_get ds (i + 1) j d h
    exact ⟨y, by simpa using h1, by rw [h2, show i + 1 + j = i + (j + 1) by omega]⟩
def mEnumW (f : EM) : IM := fun ρ hs => match mSeqW f ρ hs with
  | some (ds, hs') => match f ρ hs with
    | some (.tup _, _) => none
    | _ => some (enuL 0 ds, hs')
  | none => none
section
variable {X : Cx} {tb : TBs} {e : Expr} {f : EM} {p pos tpos : Pos} {elts : List Expr} {kk : Nat}
theorem jat_enum {G : GX} {a : Addr} {m' : List Addr} {hs' : Hs} {H' : Hp} {ds : List D} {xs : List V} (hx : SqL G.K H' a xs) (r : Reps G.K H' m' ds xs) (hr : HR G m' hs' H') : JAt G (Ite G.K a) (enuL 0 ds) m' hs' H' := fun i => by
  refine ⟨fun d e => ?_, fun h => ⟨xs, hx, by rw [enuL_len] at h; rw [← r.length]; exact h⟩⟩
  obtain ⟨x, e1, rfl⟩ := enuL_get ds 0 i d e
  obtain ⟨v, h1, h2⟩ := r.get e1
  refine ⟨⟨xs, v, hx, h1⟩, fun y H2 yl => ?_⟩
  obtain ⟨T, x', rfl, hT, rfl, hat⟩ := yl
  have e2 := hat xs hx
  rw [h1] at e2; cases e2
  refine ⟨.fresh1 hT, hr.more hT, .tup upd_same (.cons ?_ (.cons (h2.nx hr (.fresh1 hT)) .nil))⟩
  rw [Nat.zero_add]; exact .int _
theorem mi_enumW (hg : Gl X "enumerate") (hm : X.mg "enumerate" = none) (ha : PE X e (TM (GO X tb) f)) (hs : starEach [e] X.env = [(false, eval e X.env)] := by rfl) : PI X (.Tuple elts kk tpos) (.Call (.Name "enumerate" p) [e] [] pos) (TIW (GO X tb) (mEnumW f)) :=
  PI.imp' (pi_enum hg hm (pa_cons ha pa_nil hs) hs) fun σ H R ⟨ρ, hs, m, sl, hr, ds, hs', ee, q⟩ => by
    unfold mEnumW at ee
    split at ee
    · rename_i ds0 hs1 e0
      unfold mSeqW at e0
      split at e0
      · rename_i e1
        rw [e1] at ee; cases ee
      · rename_i e1
        rw [e1] at ee
        cases e0; cases ee
        refine ⟨ρ, hs, m, sl, hr, _, _, e1, fun v H' m' n' hr' rv => ?_⟩
        cases rv with
        | fro hx rx => exact ⟨_, _, rfl, hx.sq, q _ H' m' n' hr' fun m2 H2 r2 n2 hr2 => jat_enum (frL_nx hr' n2 hx).sq (rx.nx hr' n2) hr2⟩
      · rename_i n hs2 e1
        rw [e1] at ee
        split at e0
        · rename_i ea
          cases e0; cases ee
          refine ⟨ρ, hs, m, sl, hr, _, _, e1, fun v H' m' n' hr' rv => ?_⟩
          cases rv with
          | ref e2 =>
            obtain ⟨xs, hx, rx⟩ := hr'.lst e2 ea
            refine ⟨_, _, rfl, .of hx, q _ H' m' n' hr' fun m2 H2 r2 n2 hr2 => ?_⟩
            have e3 : at? (hs' ++ r2) n = some (.lst ds0) := by
              rw [at?_eq] at ea ⊢
              obtain ⟨h1, _⟩ := List.getElem?_eq_some_iff.mp ea
              rw [List.getElem?_append_left h1]; exact ea
            obtain ⟨xs2, hx2, rx2⟩ := hr2.lst (n2.ix e2) e3
            exact jat_enum (.of hx2) rx2 hr2
        · cases e0
      · cases e0
    · cases ee
end
/-! ### l.index(e) -/
def idxL (x : D) : List D → Option Nat
  | [] => none
  | d :: ds => match deq 12 d x with
    | true => some 0
    | false => match idxL x ds with
      | some n => some (n + 1)
      | none => none
theorem idxL_ok {x : D} (sx : shal 12 x = true) : ∀ {ds : List D} {j : Nat}, allL (shal 12) ds = true → idxL x ds = some j → ∃ z, (pdAll ds)[j]? = some z ∧ PyData.eqv z (pdOf x) = true ∧ ∀ (k : Nat) (z' : PyData), k < j → (pdAll ds)[k]? = some z' → PyData.eqv z' (pdOf x) = false
  | [], _, _, h => by unfold idxL at h; cases h
  | d :: ds, j, hs, h => by
    obtain ⟨s1, s2⟩ := allL_cons hs
    unfold idxL at h
    have ed := deq_eq 12 d x s1 sx
    split at h
    · rename_i e
      cases h
      exact ⟨pdOf d, by unfold pdAll; rfl, by rw [← ed]; exact e, fun k z hk => by omega⟩
    · rename_i e
      split at h
      · rename_i n e2
        cases h
        obtain ⟨z, h1, h2, h3⟩ := idxL_ok sx s2 e2
        refine ⟨z, by unfold pdAll; exact h1, h2, fun k z' hk hz => ?_⟩
        cases k with
        | zero =>
          unfold pdAll at hz
          cases hz
          rw [← ed]; exact e
        | succ k =>
          unfold pdAll at hz
          exact h3 k z' (by omega) hz
      · cases h
def mLidx (fo fe : EM) : EM := fun ρ hs => match fo ρ hs with
  | some (.ref i, hs1) => match at? hs1 i with
    | some (.lst _) => match fe ρ hs1 with
      | some (d, hs2) => match at? hs2 i with
        | some (.lst ds) => match shal 12 d, allL (shal 11) ds, idxL d ds with
          | true, true, some j => some (.int (j : Nat), hs2)
          | _, _, _ => none
        | _ => none
      | none => none
    | _ => none
  | _ => none
instance {fo fe : EM} [a : QE fo] [b : QE fe] : QE (mLidx fo fe) := ⟨fun ρ hs d hs' h => by
  unfold mLidx at h
  split at h
  · rename_i e1
    split at h
    · split at h
      · rename_i e2
        split at h
        · split at h
          · cases h
            exact (a.q _ _ _ _ e1).trans (b.q _ _ _ _ e2)
          · cases h
        · cases h
      · cases h
    · cases h
  · cases h⟩
theorem shal_up : ∀ (n : Nat) (d : D), shal n d = true → shal (n + 1) d = true
  | n, .non, _ => by cases n <;> rfl
  | n, .bl b, _ => by cases n <;> rfl
  | n, .int i, _ => by cases n <;> rfl
  | n, .str s, h => by cases n <;> exact h
  | n, .ref i, h => by cases n <;> cases h
  | n, .tuf i, h => by cases n <;> cases h
  | n, .obj _ i, h => by cases n <;> cases h
  | 0, .tup ds, h => by cases h
  | 0, .fro ds, h => by cases h
  | n + 1, .tup ds, h => by
    show allL (shal (n + 1)) ds = true
    exact allL_of fun d hd => shal_up n d (allL_mem h d hd)
  | n + 1, .fro ds, h => by
    show allL (shal (n + 1)) ds = true
    exact allL_of fun d hd => shal_up n d (allL_mem h d hd)
section
variable {X : Cx} {tb : TBs}
theorem m_lidx (hu : X.A.units + 65 < cLine) {o e : Expr} {fo fe : EM} {apos cpos : Pos} (ho : PE X o (TM (GO X tb) fo)) (he : PE X e (TM (GO X tb) fe))
    (hbase : attributeBase o "index" X.env (eval o X.env) = eval o X.env := by rfl)
    (hfew : ((backTo cpos (starEach (e :: []) X.env)).all (fun x => !x.1) && (backToKw cpos (keywordEach [] X.env)).all (fun x => x.1.isSome)
      && decide ((e :: []).length + ([] : List Keyword).length + (if ([] : List Keyword).isEmpty then 0 else 1) < 30)) = true := by rfl)
    (hline : (apos.endLine == cpos.line) = true := by rfl) (hs : starEach (e :: []) X.env = (false, eval e X.env) :: starEach [] X.env := by rfl) (hplain : (backTo cpos (starEach [] X.env)).any (·.1) = false := by rfl) :
    PE X (.Call (.Attribute o "index" apos) [e] [] cpos) (TM (GO X tb) (mLidx fo fe)) := by
  refine (pe_bm PySem.F.plainAttrs_list PySem.F.slot_list_index PySem.F.type_list_index (mt_indexD hu) ho (pa_cons he pa_nil hs) hbase hfew hline hs hplain).imp fun σ H Q ⟨ρ, hs, m, sl, hr, d, hs', ee, q⟩ => ?_
  unfold mLidx at ee
  split at ee
  · rename_i i hs1 e1
    split at ee
    · rename_i ds0 e2
      split at ee
      · rename_i d2 hs2 e3
        split at ee
        · rename_i ds e4
          split at ee
          · rename_i j sd sds ej
            cases ee
            refine ⟨ρ, hs, m, sl, hr, _, _, e1, fun v H1 m1 n1 hr1 rv => ?_⟩
            cases rv with
            | ref ha =>
              rename_i a
              obtain ⟨xs0, hx0, _⟩ := hr1.lst ha e2
              refine ⟨.inl ⟨rfl, _, .of hx0⟩, ρ, hs1, m1, sl.nx hr n1, hr1, _, _, e3, fun w H2 m2 n2 hr2 rw => ?_⟩
              have ha2 := n2.ix ha
              obtain ⟨xs, hx, rx⟩ := hr2.lst ha2 e4
              have sds' : allL (shal 12) ds = true := allL_of fun d hd => shal_up 11 d (allL_mem sds d hd)
              obtain ⟨z, h1, h2, h3⟩ := idxL_ok sd sds' ej
              refine ⟨a, w, pdOf d2, pdAll ds, j, z, rfl, rfl, .lst (.of hx) (dp_all (dp_of 12) ds _ sds' rx), dp_of 12 _ _ sd rw, ?_, shaped_of sd (by omega), h1, h2, h3, q _ _ _ (n1.trans n2) hr2 (.int _)⟩
              exact shaped_of (n := 12) (d := .fro ds) sds (by omega)
          · cases ee
        · cases ee
      · cases ee
    · cases ee
  · cases ee

/-! ### l[i] += e -/
def rGetL : V → V → Hp → VK → Prop := fun o i H Q => ∃ p xs k j z, o = .ref p ∧ i = .int k ∧ H p = some (.lst xs) ∧ ixN xs.length k = some j ∧ xs[j]? = some z ∧ 0 ≤ k ∧ Q z H
theorem get_list : PGet X rGetL := by
  intro pins s σ H o i ov iv Q I ro ri h
  obtain ⟨p, xs, k, j, z, rfl, rfl, hp, hj, hz, h0, q⟩ := h
  cases ro
  obtain ⟨t, rfl⟩ := ri
  obtain ⟨its, r, pl, hzz⟩ := I.list (SqL.of hp)
  obtain ⟨h1, h2, h3, h4⟩ := ixN_seq hj
  have hl := r.length
  have hn := line63
  obtain ⟨w, ew, rw'⟩ := r.get hz
  have hk : k.toNat = j := by
    rw [seqIndex_of h0 h4] at h1
    exact Option.some.inj h1
  exact wpAny_getItem_list pl.isList h0 (by omega) (by rw [hk]; simpa using ew) ⟨z, H, I, rw', q⟩
def mAugL (fo fi : EM) (p : Int → Int → Int) (fe : EM) : SM := fun ρ hs => match fo ρ hs with
  | some (.ref n, hs1) => match fi ρ hs1 with
    | some (.int (.ofNat k), hs2) => match at? hs2 n with
      | some (.lst ds) => match at? ds k with
        | some (.int x) => match fe ρ hs2 with
          | some (.int y, hs3) => match at? hs3 n with
            | some (.lst ds') => match Nat.blt k ds'.length with
              | true => some (.nx ρ (put hs3 n (.lst (put ds' k (.int (p x y))))))
              | false => none
            | _ => none
          | _ => none
        | _ => none
      | _ => none
    | _ => none
  | _ => none
theorem ixN_nat {n k : Nat} (h : k < n) : ixN n (k : Int) = some k := by
  unfold ixN
  simp [h]
theorem ms_augL {o i e : Expr} {fo fi fe : EM} {op : Operator} {f : Int → Int → Int} {tpos pos : Pos} (ho : PE X o (TM (GO X tb) fo)) (hi : PE X i (TM (GO X tb) fi)) (he : PE X e (TM (GO X tb) fe)) (hp : PIp X op (ipI f))
    (ha : ∀ ov iv new, augStore i ov iv new = (do holding [new, ov, iv] (setItem ov iv new); release [new, ov, iv] []; pure .next) := by intros; rfl) : PS X (.AugAssign (.Subscript o i tpos) op e pos) (TSM (GO X tb) (mAugL fo fi f fe)) := by
  refine (ps_augS ho hi get_list he hp set_list ha).imp fun D σ H ⟨ρ, hs, m, sl, hr, r, ee, q⟩ => ?_
  unfold mAugL at ee
  split at ee
  · rename_i n hs1 e1
    split at ee
    · rename_i k hs2 e2
      split at ee
      · rename_i ds e3
        split at ee
        · rename_i x e4
          split at ee
          · rename_i y hs3 e5
            split at ee
            · rename_i ds' e6
              split at ee
              · rename_i hlt
                cases ee
                refine ⟨ρ, hs, m, sl, hr, _, _, e1, fun v1 H1 m1 n1 hr1 r1 => ?_⟩
                refine ⟨ρ, hs1, m1, sl.nx hr n1, hr1, _, _, e2, fun v2 H2 m2 n2 hr2 r2 => ?_⟩
                cases r1 with
                | ref ha1 =>
                  rename_i a
                  cases r2
                  have n12 := n1.trans n2
                  obtain ⟨xs, hx, rx⟩ := hr2.lst (n2.ix ha1) e3
                  rw [at?_eq] at e4
                  obtain ⟨v, h1, h2⟩ := rx.get e4
                  cases h2
                  obtain ⟨hk, _⟩ := List.getElem?_eq_some_iff.mp h1
                  refine ⟨a, xs, _, k, _, rfl, rfl, hx, ixN_nat hk, h1, Int.natCast_nonneg k, ?_⟩
                  refine ⟨ρ, hs2, m2, sl.nx hr n12, hr2, _, _, e5, fun v3 H3 m3 n3 hr3 r3 => ?_⟩
                  cases r3
                  refine ⟨x, y, rfl, rfl, ?_⟩
                  have ha3 := n3.ix (n2.ix ha1)
                  obtain ⟨xs', hx', rx'⟩ := hr3.lst ha3 e6
                  have hk' : k < xs'.length := by rw [← rx'.length]; exact Nat.le_of_ble_eq_true hlt
                  obtain ⟨n4, hr4⟩ := upd_sq (K := X.K) (ds' := put ds' k (.int (f x y))) hr3 ha3 e6 hx' (by rw [put_eq]; exact Reps.set (.int (f x y)) k rx')
                  exact ⟨a, xs', _, k, rfl, rfl, hx', ixN_nat hk', q σ _ m3 ((n12.trans n3).trans n4) hr4 ((sl.nx hr (n12.trans n3)).nx hr3 n4)⟩
              · cases ee
            · cases ee
          · cases ee
        · cases ee
      · cases ee
    · cases ee
  · cases ee
end
end Mir

/-! Mir7: junctions by computation. -/
namespace Mir
open PySem PySem.Spec PyProof.Rows L2

theorem keepE_get : ∀ (ρ : En) (vs : List Nat) (n i : Nat) (d : D), (keepE ρ vs n)[i]? = some (some d) → ρ[i]? = some (some d)
  | [], _, _, _, _, h => by simp [keepE] at h
  | x :: r, vs, n, 0, d, h => by
    unfold keepE at h
    simp only [List.getElem?_cons_zero, Option.some.injEq] at h ⊢
    split at h
    · exact h
    · cases h
  | x :: r, vs, n, i + 1, d, h => by
    unfold keepE at h
    simp only [List.getElem?_cons_succ] at h ⊢
    exact keepE_get r vs (n + 1) i d h
/-- only the slots vs are kept -/
def keepR (vs : List Nat) (r : Option Rs) : Option Rs := match r with
  | some (.nx ρ hs) => some (.nx (keepE ρ vs 0) hs)
  | r => r
theorem step_keep {G : GX} {f : SM} {t : TS} {W : Ends} {σ : L2.St} {H : Hp} {m : List Addr} {ρ ρ' : En} {hs hs' : Hs} {vs : List Nat} (hr : HR G m hs H) (sl : SL G H m ρ σ) (e : keepR vs (f ρ hs) = some (.nx ρ' hs'))
    (q : ∀ σ' H' m', HR G m' hs' H' → SL G H' m' ρ' σ' → t W σ' H') : TSK G f t W σ H := by
  unfold keepR at e
  split at e
  · rename_i ρ1 hs1 e1
    cases e
    exact step_nx hr sl e1 fun σ' H' m' hr' sl' => q σ' H' m' hr' (sl'.weaken (keepE_len _ _ _) fun i d h => ⟨d, keepE_get _ _ _ _ _ h, fun v r => r⟩)
  · rename_i e1
    exact absurd e (e1 _ _)
def purE : En → Bool
  | [] => true
  | none :: r => purE r
  | some d :: r => match pur d with
    | true => purE r
    | false => false
theorem purE_get : ∀ {ρ : En} {i : Nat} {d : D}, purE ρ = true → ρ[i]? = some (some d) → pur d = true
  | [], _, _, _, h => by simp at h
  | none :: r, 0, d, _, h => by simp at h
  | some d' :: r, 0, d, hp, h => by
    simp only [List.getElem?_cons_zero, Option.some.injEq] at h
    subst h
    unfold purE at hp
    split at hp
    · assumption
    · cases hp
  | none :: r, i + 1, d, hp, h => purE_get (ρ := r) hp (by simpa using h)
  | some d' :: r, i + 1, d, hp, h => by
    unfold purE at hp
    split at hp
    · exact purE_get hp (by simpa using h)
    · cases hp
/-- only the slots vs are kept, all without places; the heap is forgotten -/
def purR (vs : List Nat) (r : Option Rs) : Option Rs := match r with
  | some (.nx ρ _) => match purE (keepE ρ vs 0) with
    | true => some (.nx (keepE ρ vs 0) [])
    | false => none
  | r => r
theorem step_pur {G : GX} {f : SM} {t : TS} {W : Ends} {σ : L2.St} {H : Hp} {m : List Addr} {ρ ρ' : En} {hs hs' : Hs} {vs : List Nat} (hr : HR G m hs H) (sl : SL G H m ρ σ) (e : purR vs (f ρ hs) = some (.nx ρ' hs'))
    (q : ∀ σ' H', HR G [] [] H' → SL G H' [] ρ' σ' → t W σ' H') : TSK G f t W σ H := by
  unfold purR at e
  split at e
  · rename_i ρ1 hs1 e1
    split at e
    · rename_i hp
      cases e
      exact step_nx hr sl e1 fun σ' H' m' hr' sl' => q σ' H' hr'.none (sl'.weaken (keepE_len _ _ _) fun i d h => ⟨d, keepE_get _ _ _ _ _ h, fun v r => r.pur (purE_get hp h) _⟩)
    · cases e
  · rename_i e1
    exact absurd e (e1 _ _)
theorem mBin_of {op : F2} {f g : EM} {ρ : En} {hs hs1 hs2 : Hs} {d e : D} (h1 : f ρ hs = some (d, hs1)) (h2 : g ρ hs1 = some (e, hs2)) : mBin op f g ρ hs = op d e hs2 := by
  unfold mBin
  rw [h1]
  simp only
  rw [h2]
theorem mTest_of {f : EM} {ρ : En} {hs hs1 : Hs} {b : Bool} (h : f ρ hs = some (.bl b, hs1)) : mTest f ρ hs = some (b, hs1) := by
  unfold mTest
  rw [h]
theorem eqD_int (i j : Int) (hs : Hs) : eqD (.int i) (.int j) hs = some (.bl (intEq i j), hs) := rfl
theorem intEq_self (i : Int) : intEq i i = true := intEq_iff.mpr rfl
/-- f at lo, lo + 1, .. -/
def allR (f : Int → Bool) (lo : Int) : Nat → Bool
  | 0 => true
  | n + 1 => match f lo with
    | true => allR f (lo + 1) n
    | false => false
theorem allR_eq {f : Int → Bool} : ∀ {n : Nat} {lo : Int}, allR f lo n = true → ∀ r : Int, lo ≤ r → r < lo + n → f r = true
  | 0, lo, _, r, h1, h2 => by omega
  | n + 1, lo, h, r, h1, h2 => by
    unfold allR at h
    split at h
    · rename_i e
      by_cases z : r = lo
      · rw [z]; exact e
      · exact allR_eq h r (by omega) (by omega)
    · cases h
/-- a pure call's value is this list of ints -/
def eqLI : List Int → List Int → Bool
  | [], [] => true
  | i :: a, j :: b => match intEq i j with
    | true => eqLI a b
    | false => false
  | _, _ => false
theorem eqLI_eq : ∀ {a b : List Int}, eqLI a b = true → a = b
  | [], [], _ => rfl
  | i :: a, j :: b, h => by
    unfold eqLI at h
    split at h
    · rename_i e
      rw [intEq_iff.mp e, eqLI_eq h]
    · cases h
  | [], _ :: _, h => by cases h
  | _ :: _, [], h => by cases h
theorem eqLI_refl : ∀ a : List Int, eqLI a a = true
  | [] => rfl
  | x :: r => by
    unfold eqLI
    rw [intEq_self]
    exact eqLI_refl r
def isTI (r : Option (D × Hs)) (l : List Int) : Bool := match r with
  | some (.tup ds, []) => match intsOf ds with
    | some ns => eqLI ns l
    | none => false
  | _ => false
theorem isTI_eq {r : Option (D × Hs)} {l : List Int} (h : isTI r l = true) : r = some (tI l, []) := by
  unfold isTI at h
  split at h
  · split at h
    · rename_i ns e
      rw [← eqLI_eq h, intsOf_eq e]
      rfl
    · cases h
  · cases h
theorem deq_tIs (a b : List Int) : deq 12 (tI a) (tI b) = eqLI a b := by
  show Mir.eqL (deq 11) (a.map D.int) (b.map D.int) = eqLI a b
  induction a generalizing b with
  | nil => cases b <;> rfl
  | cons x a ih =>
    cases b with
    | nil => rfl
    | cons y b =>
      simp only [List.map_cons, Mir.eqL, deq, eqLI]
      cases e : intEq x y with
      | true => exact ih b
      | false => rfl
theorem eqD_tI (a b : List Int) (hs : Hs) : eqD (tI a) (tI b) hs = some (.bl (eqLI a b), hs) := by
  rw [← deq_tIs]
  show (match shal 12 (tI a), shal 12 (tI b) with
    | true, true => some (D.bl (deq 12 (tI a) (tI b)), hs)
    | _, _ => none) = _
  rw [shal_tI a 11, shal_tI b 11]
end Mir

/-! Mir8: dicts with keys of any tracked kind: ints, texts, tuples of such. -/
namespace Mir
open PySem PySem.Spec PyProof.Rows L2

def keysL : List D → Option (List Key)
  | [] => some []
  | d :: r => match keyOf d, keysL r with
    | some k, some ks => some (k :: ks)
    | _, _ => none
def tkeyOf : D → Option (List Key)
  | .tup ds => keysL ds
  | _ => none
def keqL : List D → List D → Bool
  | [], [] => true
  | a :: r, b :: s => match keq a b with
    | true => keqL r s
    | false => false
  | _, _ => false
def tkeq : D → D → Bool
  | .tup a, .tup b => keqL a b
  | _, _ => false
def tkD (k : List Key) : D := .tup (k.map keyD)
theorem keysL_eq : ∀ {ds : List D} {ks : List Key}, keysL ds = some ks → ds = ks.map keyD
  | [], _, h => by cases h; rfl
  | d :: r, ks, h => by
    unfold keysL at h
    split at h
    · rename_i k ks' e1 e2
      cases h
      rw [List.map_cons, ← keysL_eq e2, keyOf_eq e1]
    · cases h
theorem tkeyOf_eq {d : D} {k : List Key} (h : tkeyOf d = some k) : d = tkD k := by
  cases d <;> first | cases h | skip
  unfold tkeyOf at h
  rw [keysL_eq h]; rfl
theorem keqL_key : ∀ a b : List Key, keqL (a.map keyD) (b.map keyD) = decide (a = b)
  | [], [] => rfl
  | [], _ :: _ => rfl
  | _ :: _, [] => rfl
  | x :: a, y :: b => by
    rw [List.map_cons, List.map_cons]
    unfold keqL
    rw [keq_key]
    by_cases e : x = y
    · rw [decide_eq_true e, keqL_key a b]
      subst e
      simp
    · rw [decide_eq_false e]
      simp [e]
theorem tkeq_key (a b : List Key) : tkeq (tkD a) (tkD b) = decide (a = b) := keqL_key a b
theorem treps_keys {K : PySem.W.Frag} {H : Hp} {m : List Addr} : ∀ {ks : List Key} {vs : List V}, Reps K H m (ks.map keyD) vs → vs = ks.map kV
  | [], _, r => by cases r; rfl
  | k :: ks, _, r => by
    rw [List.map_cons] at r
    cases r with
    | cons a t =>
      rw [treps_keys t, List.map_cons]
      cases k with
      | inl i => cases a; rfl
      | inr s => cases a; rfl
/-- the key's object -/
theorem tkey_at {K : PySem.W.Frag} {H : Hp} {m : List Addr} {d : D} {k : List Key} {v : V} (h : tkeyOf d = some k) (r : Rep K H m d v) : ∃ b, v = .ref b ∧ H b = some (.tup (k.map kV)) := by
  have e := tkeyOf_eq h
  subst e
  unfold tkD at r
  cases r with
  | tup hx rx =>
    rw [treps_keys rx] at hx
    exact ⟨_, rfl, hx⟩
def tget (k : D) : List (D × D) → Option D
  | [] => none
  | (j, v) :: r => match tkeq j k with
    | true => some v
    | false => tget k r
def tany (k : D) : List (D × D) → Bool
  | [] => false
  | (j, _) :: r => match tkeq j k with
    | true => true
    | false => tany k r
def trep (k v : D) : List (D × D) → List (D × D)
  | [] => []
  | (j, w) :: r => match tkeq j k with
    | true => (j, v) :: trep k v r
    | false => (j, w) :: trep k v r
def tput (k v : D) (kvs : List (D × D)) : List (D × D) := match tany k kvs with
  | true => trep k v kvs
  | false => kvs ++ [(k, v)]
inductive TRel (K : PySem.W.Frag) (H : Hp) (m : List Addr) : List (D × D) → List (List Key × V) → Prop where
  | nil : TRel K H m [] []
  | cons {k : List Key} {d : D} {v : V} {r : List (D × D)} {s : List (List Key × V)} : Rep K H m d v → TRel K H m r s → TRel K H m ((tkD k, d) :: r) ((k, v) :: s)
section
variable {K : PySem.W.Frag} {H H' : Hp} {m m' : List Addr}
theorem TRel.of : ∀ {kvs : List (D × D)} {ks : List (List Key × V)}, kvs.map (·.1) = ks.map (fun p => D.tup (p.1.map keyD)) → Reps K H m (kvs.map (·.2)) (ks.map (·.2)) → TRel K H m kvs ks
  | [], [], _, _ => .nil
  | [], _ :: _, h, _ => by cases h
  | _ :: _, [], h, _ => by cases h
  | (j, d) :: r, (k, v) :: s, h, q => by
    rw [List.map_cons, List.map_cons] at h
    injection h with h1 h2
    rw [List.map_cons, List.map_cons] at q
    cases q with
    | cons q t =>
      have h1 : j = tkD k := h1
      subst h1
      exact .cons q (TRel.of h2 t)
theorem TRel.keys : ∀ {kvs : List (D × D)} {ks : List (List Key × V)}, TRel K H m kvs ks → kvs.map (·.1) = ks.map (fun p => D.tup (p.1.map keyD))
  | _, _, .nil => rfl
  | _, _, .cons _ t => by rw [List.map_cons, List.map_cons, TRel.keys t]; rfl
theorem TRel.vals : ∀ {kvs : List (D × D)} {ks : List (List Key × V)}, TRel K H m kvs ks → Reps K H m (kvs.map (·.2)) (ks.map (·.2))
  | _, _, .nil => .nil
  | _, _, .cons r t => .cons r (TRel.vals t)
theorem TRel.len : ∀ {kvs : List (D × D)} {ks : List (List Key × V)}, TRel K H m kvs ks → kvs.length = ks.length
  | _, _, .nil => rfl
  | _, _, .cons _ t => congrArg (· + 1) t.len
theorem TRel.mapR (f : ∀ d v, Rep K H m d v → Rep K H' m' d v) : ∀ {kvs : List (D × D)} {ks : List (List Key × V)}, TRel K H m kvs ks → TRel K H' m' kvs ks
  | _, _, .nil => .nil
  | _, _, .cons r t => .cons (f _ _ r) (TRel.mapR f t)
theorem tget_rel {k : List Key} : ∀ {kvs : List (D × D)} {ks : List (List Key × V)}, TRel K H m kvs ks → (tget (tkD k) kvs = none → valV ks k = none) ∧ ∀ d, tget (tkD k) kvs = some d → ∃ v, valV ks k = some v ∧ Rep K H m d v
  | _, _, .nil => ⟨fun _ => valV_nil, fun d h => by cases h⟩
  | _, _, .cons (k := j) (v := v) (s := s) r t => by
    have ih := tget_rel (k := k) t
    unfold tget
    rw [tkeq_key]
    by_cases e : j = k
    · rw [decide_eq_true e]
      refine ⟨fun h => (by cases h), fun d h => ?_⟩
      cases h
      exact ⟨_, valV_pos (p := (j, v)) e, r⟩
    · rw [decide_eq_false e]
      have e2 : valV ((j, v) :: s) k = valV s k := valV_neg (p := (j, v)) e
      rw [e2]
      exact ih
theorem tany_rel {k : List Key} : ∀ {kvs : List (D × D)} {ks : List (List Key × V)}, TRel K H m kvs ks → tany (tkD k) kvs = ks.any fun kv => decide (kv.1 = k)
  | _, _, .nil => rfl
  | _, _, .cons (k := j) r t => by
    unfold tany
    rw [tkeq_key, List.any_cons]
    cases e : decide (j = k) with
    | true => rfl
    | false => exact tany_rel t
theorem trep_rel {k : List Key} {d : D} {v : V} (rd : Rep K H m d v) : ∀ {kvs : List (D × D)} {ks : List (List Key × V)}, TRel K H m kvs ks → TRel K H m (trep (tkD k) d kvs) (ks.map fun kv => if kv.1 = k then (kv.1, v) else kv)
  | _, _, .nil => .nil
  | _, _, .cons (k := j) r t => by
    unfold trep
    rw [tkeq_key, List.map_cons]
    by_cases e : j = k
    · rw [decide_eq_true e, if_pos (show j = k from e)]
      exact .cons rd (trep_rel rd t)
    · rw [decide_eq_false e, if_neg (show ¬ j = k from e)]
      exact .cons r (trep_rel rd t)
theorem TRel.snoc {k : List Key} {d : D} {v : V} (rd : Rep K H m d v) : ∀ {kvs : List (D × D)} {ks : List (List Key × V)}, TRel K H m kvs ks → TRel K H m (kvs ++ [(tkD k, d)]) (ks ++ [(k, v)])
  | _, _, .nil => .cons rd .nil
  | _, _, .cons r t => .cons r (TRel.snoc rd t)
theorem tput_rel {k : List Key} {d : D} {v : V} {kvs : List (D × D)} {ks : List (List Key × V)} (rd : Rep K H m d v) (h : TRel K H m kvs ks) : TRel K H m (tput (tkD k) d kvs) (putK ks k v) := by
  unfold tput putK
  rw [tany_rel h]
  cases e : ks.any fun kv => decide (kv.1 = k) with
  | true => rw [if_pos rfl]; exact trep_rel rd h
  | false => rw [if_neg Bool.false_ne_true]; exact h.snoc rd
end
theorem HR.dTr {G : GX} {m : List Addr} {hs : Hs} {H : Hp} (hr : HR G m hs H) {i : Nat} {a : Addr} {kvs : List (D × D)} (e : m[i]? = some a) (h : at? hs i = some (.dT kvs)) : ∃ ks, H a = some (.dT ks) ∧ TRel G.K H m kvs ks := by
  rw [at?_eq] at h
  obtain ⟨ks, h1, h2, h3⟩ := hr.obj i a _ e h
  exact ⟨ks, h1, .of h2 h3⟩

/-! ### any dict -/
/-- none: not served; some none: not there -/
def dgetO : O → D → Option (Option D)
  | .dK kvs, d => match keyOf d with
    | some _ => some (kget d kvs)
    | none => none
  | .dT kvs, d => match tkeyOf d with
    | some _ => some (tget d kvs)
    | none => none
  | _, _ => none
def dputO : O → D → D → Option O
  | .dK kvs, d, w => match keyOf d, cap (kvs.length + 1) with
    | some _, true => some (.dK (kput d w kvs))
    | _, _ => none
  | .dT kvs, d, w => match tkeyOf d, cap (kvs.length + 1) with
    | some _, true => some (.dT (tput d w kvs))
    | _, _ => none
  | _, _, _ => none
def isDict : O → Bool
  | .dK _ => true
  | .dT _ => true
  | _ => false
section
variable {G : GX} {m : List Addr} {hs : Hs} {H : Hp} {i : Nat} {a : Addr} {o : O} {d : D} {y : V}
theorem isDict_ok (hr : HR G m hs H) (e : m[i]? = some a) (h : at? hs i = some o) (hd : isDict o = true) : IsD H a := by
  cases o with
  | dK kvs => obtain ⟨ks, h1, _⟩ := hr.dKr e h; exact .inl ⟨_, .inl h1⟩
  | dT kvs => obtain ⟨ks, h1, _⟩ := hr.dTr e h; exact .inr ⟨_, .inl h1⟩
  | lst _ => cases hd
  | opq _ => cases hd
theorem dget_ok (hr : HR G m hs H) (e : m[i]? = some a) (h : at? hs i = some o) (ry : Rep G.K H m d y) {r : Option D} (hg : dgetO o d = some r) : ∃ ov, DGet H a y ov ∧ (r = none → ov = none) ∧ ∀ w, r = some w → ∃ v, ov = some v ∧ Rep G.K H m w v := by
  cases o with
  | dK kvs =>
    have hg : (match keyOf d with | some _ => some (kget d kvs) | none => none) = some r := hg
    split at hg
    · rename_i k ek
      cases hg
      obtain ⟨ks, hx, kr⟩ := hr.dKr e h
      have q1 := keyOf_rep ek ry
      have q2 := keyOf_eq ek
      subst q1
      subst q2
      obtain ⟨g1, g2⟩ := kget_rel (k := k) kr
      exact ⟨_, DGet.k hx, g1, fun w hw => g2 w hw⟩
    · cases hg
  | dT kvs =>
    have hg : (match tkeyOf d with | some _ => some (tget d kvs) | none => none) = some r := hg
    split at hg
    · rename_i k ek
      cases hg
      obtain ⟨ks, hx, kr⟩ := hr.dTr e h
      obtain ⟨b, rfl, hb⟩ := tkey_at ek ry
      have q2 := tkeyOf_eq ek
      subst q2
      obtain ⟨g1, g2⟩ := tget_rel (k := k) kr
      exact ⟨_, DGet.t hx hb, g1, fun w hw => g2 w hw⟩
    · cases hg
  | lst _ => cases hg
  | opq _ => cases hg
theorem dput_ok (hr : HR G m hs H) (e : m[i]? = some a) (h : at? hs i = some o) (ry : Rep G.K H m d y) {w : D} {v : V} (rw' : Rep G.K H m w v) {o' : O} (hg : dputO o d w = some o') :
    ∃ u, DPut H a y v (upd H a u) ∧ Nx m H m (upd H a u) ∧ HR G m (put hs i o') (upd H a u) := by
  have ha : a ∈ m := List.mem_of_getElem? e
  cases o with
  | dK kvs =>
    have hg : (match keyOf d, cap (kvs.length + 1) with | some _, true => some (O.dK (kput d w kvs)) | _, _ => none) = some o' := hg
    split at hg
    · rename_i k ek hc
      cases hg
      obtain ⟨ks, hx, kr⟩ := hr.dKr e h
      have q1 := keyOf_rep ek ry
      have q2 := keyOf_eq ek
      subst q1
      subst q2
      have kr2 := kput_rel rw' kr (k := k)
      have n : Nx m H m (upd H a (.dK (putK ks k v))) := .write ha
      have kr3 := kr2.mapR fun d v r => r.nx hr n
      have hl := cap_le hc
      exact ⟨_, DPut.k hx (by rw [← kr.len]; omega), n, hr.write e ⟨_, upd_same, kr3.keys, kr3.vals⟩⟩
    · cases hg
  | dT kvs =>
    have hg : (match tkeyOf d, cap (kvs.length + 1) with | some _, true => some (O.dT (tput d w kvs)) | _, _ => none) = some o' := hg
    split at hg
    · rename_i k ek hc
      cases hg
      obtain ⟨ks, hx, kr⟩ := hr.dTr e h
      obtain ⟨b, rfl, hb⟩ := tkey_at ek ry
      have q2 := tkeyOf_eq ek
      subst q2
      have kr2 := tput_rel rw' kr (k := k)
      have n : Nx m H m (upd H a (.dT (putK ks k v))) := .write ha
      have kr3 := kr2.mapR fun d v r => r.nx hr n
      have hl := cap_le hc
      exact ⟨_, DPut.t hx hb (by rw [← kr.len]; omega), n, hr.write e ⟨_, upd_same, kr3.keys, kr3.vals⟩⟩
    · cases hg
  | lst _ => cases hg
  | opq _ => cases hg
end
/-! ### d[k], k in d, d.get(k), d.get(k, x), d[k] = v -/
def mDixA (fo fk : EM) : EM := fun ρ hs => match fo ρ hs with
  | some (.ref i, hs1) => match fk ρ hs1 with
    | some (d, hs2) => match at? hs2 i with
      | some o => match dgetO o d with
        | some (some w) => some (w, hs2)
        | _ => none
      | none => none
    | none => none
  | _ => none
instance {fo fk : EM} [a : QE fo] [b : QE fk] : QE (mDixA fo fk) := ⟨fun ρ hs d hs' h => by
  unfold mDixA at h
  split at h
  · rename_i e1
    split at h
    · rename_i e2
      split at h
      · split at h
        · cases h; exact (a.q _ _ _ _ e1).trans (b.q _ _ _ _ e2)
        · cases h
      · cases h
    · cases h
  · cases h⟩
def mGetA (fo fk fx : EM) : EM := fun ρ hs => match fo ρ hs with
  | some (.ref i, hs1) => match at? hs1 i with
    | some o1 => match isDict o1 with
      | true => match fk ρ hs1 with
        | some (d, hs2) => match fx ρ hs2 with
          | some (z, hs3) => match at? hs3 i with
            | some o => match dgetO o d with
              | some (some w) => some (w, hs3)
              | some none => some (z, hs3)
              | none => none
            | none => none
          | none => none
        | none => none
      | false => none
    | none => none
  | _ => none
instance {fo fk fx : EM} [a : QE fo] [b : QE fk] [c : QE fx] : QE (mGetA fo fk fx) := ⟨fun ρ hs d hs' h => by
  unfold mGetA at h
  split at h
  · rename_i e1
    split at h
    · split at h
      · split at h
        · rename_i e2
          split at h
          · rename_i e3
            have g := ((a.q _ _ _ _ e1).trans (b.q _ _ _ _ e2)).trans (c.q _ _ _ _ e3)
            split at h
            · split at h
              · cases h; exact g
              · cases h; exact g
              · cases h
            · cases h
          · cases h
        · cases h
      · cases h
    · cases h
  · cases h⟩
def mGetA1 (fo fk : EM) : EM := mGetA fo fk (mC .non)
instance {fo fk : EM} [a : QE fo] [b : QE fk] : QE (mGetA1 fo fk) := inferInstanceAs (QE (mGetA fo fk (mC .non)))
/-- k in d -/
def mInA (fk fo : EM) : EM := fun ρ hs => match fk ρ hs with
  | some (d, hs1) => match fo ρ hs1 with
    | some (.ref i, hs2) => match at? hs2 i with
      | some o => match dgetO o d with
        | some (some _) => some (.bl true, hs2)
        | some none => some (.bl false, hs2)
        | none => none
      | none => none
    | _ => none
  | none => none
def mNotInA (fk fo : EM) : EM := fun ρ hs => match mInA fk fo ρ hs with
  | some (.bl b, hs') => some (.bl (!b), hs')
  | _ => none
theorem mInA_q {fo fk : EM} [a : QE fo] [b : QE fk] {ρ : En} {hs hs' : Hs} {d : D} (h : mInA fk fo ρ hs = some (d, hs')) : Grows hs hs' := by
  unfold mInA at h
  split at h
  · rename_i e1
    split at h
    · rename_i e2
      have g := (b.q _ _ _ _ e1).trans (a.q _ _ _ _ e2)
      split at h
      · split at h
        · cases h; exact g
        · cases h; exact g
        · cases h
      · cases h
    · cases h
  · cases h
instance {fo fk : EM} [a : QE fo] [b : QE fk] : QE (mInA fk fo) := ⟨fun ρ hs d hs' h => mInA_q h⟩
instance {fo fk : EM} [a : QE fo] [b : QE fk] : QE (mNotInA fk fo) := ⟨fun ρ hs d hs' h => by
  unfold mNotInA at h
  split at h
  · rename_i e1; cases h; exact mInA_q e1
  · cases h⟩
def mDput (fo fk fv : EM) : SM := fun ρ hs => match fv ρ hs with
  | some (w, hs1) => match fo ρ hs1 with
    | some (.ref i, hs2) => match fk ρ hs2 with
      | some (d, hs3) => match at? hs3 i with
        | some o => match dputO o d w with
          | some o' => some (.nx ρ (put hs3 i o'))
          | none => none
        | none => none
      | none => none
    | _ => none
  | none => none
section
variable {X : Cx} {tb : TBs} {o e f : Expr} {fo fe ff : EM} {pos pos' apos cpos : Pos}
theorem m_dixA (hu : X.A.units + 1 < cLine) (ho : PE X o (TM (GO X tb) fo)) (he : PE X e (TM (GO X tb) fe)) (hs : NoSl e := by intro _ _; rfl) : PE X (.Subscript o e pos) (TM (GO X tb) (mDixA fo fe)) := by
  refine (pe_dget hu ho he hs).imp fun σ H Q ⟨ρ, hs, m, sl, hr, d, hs', ee, q⟩ => ?_
  unfold mDixA at ee
  split at ee
  · rename_i i hs1 e1
    split at ee
    · rename_i d2 hs2 e2
      split at ee
      · rename_i o' e3
        split at ee
        · rename_i w eg
          cases ee
          refine ⟨ρ, hs, m, sl, hr, _, _, e1, fun v H1 m1 n1 hr1 rv => ⟨ρ, hs1, m1, sl.nx hr n1, hr1, _, _, e2, fun y H2 m2 n2 hr2 ry => ?_⟩⟩
          cases rv with
          | ref ha =>
            obtain ⟨ov, g, _, g2⟩ := dget_ok hr2 (n2.ix ha) e3 ry eg
            obtain ⟨v2, rfl, r2⟩ := g2 _ rfl
            exact ⟨_, v2, rfl, g, q _ H2 m2 (n1.trans n2) hr2 r2⟩
        · cases ee
      · cases ee
    · cases ee
  · cases ee
theorem m_getA (hu : X.A.units + 1 < cLine) (ho : PE X o (TM (GO X tb) fo)) (he : PE X e (TM (GO X tb) fe)) (hf : PE X f (TM (GO X tb) ff)) (hm : M2 X o "get" apos e f cpos := by exact ⟨rfl, rfl, rfl, rfl⟩) :
    PE X (.Call (.Attribute o "get" apos) [e, f] [] cpos) (TM (GO X tb) (mGetA fo fe ff)) := by
  refine (pe_dget2 hu ho he hf hm).imp fun σ H Q ⟨ρ, hs, m, sl, hr, d, hs', ee, q⟩ => ?_
  unfold mGetA at ee
  split at ee
  · rename_i i hs1 e1
    split at ee
    · rename_i o1 e0
      split at ee
      · rename_i hd
        split at ee
        · rename_i d2 hs2 e2
          split at ee
          · rename_i z hs3 e3
            split at ee
            · rename_i o' e4
              refine ⟨ρ, hs, m, sl, hr, _, _, e1, fun v H1 m1 n1 hr1 rv => ?_⟩
              cases rv with
              | ref ha =>
                rename_i a
                refine ⟨a, rfl, isDict_ok hr1 ha e0 hd, ρ, hs1, m1, sl.nx hr n1, hr1, _, _, e2, fun y H2 m2 n2 hr2 ry => ⟨ρ, hs2, m2, (sl.nx hr n1).nx hr1 n2, hr2, _, _, e3, fun w H3 m3 n3 hr3 rw => ?_⟩⟩
                split at ee
                · rename_i w2 eg
                  cases ee
                  obtain ⟨ov, g, _, g2⟩ := dget_ok hr3 (n3.ix (n2.ix ha)) e4 (ry.nx hr2 n3) eg
                  obtain ⟨v2, rfl, r2⟩ := g2 _ rfl
                  exact ⟨_, g, q _ H3 m3 ((n1.trans n2).trans n3) hr3 r2⟩
                · rename_i eg
                  cases ee
                  obtain ⟨ov, g, g1, _⟩ := dget_ok hr3 (n3.ix (n2.ix ha)) e4 (ry.nx hr2 n3) eg
                  have e9 := g1 rfl
                  subst e9
                  exact ⟨_, g, q _ H3 m3 ((n1.trans n2).trans n3) hr3 rw⟩
                · cases ee
            · cases ee
          · cases ee
        · cases ee
      · cases ee
    · cases ee
  · cases ee
theorem m_getA1 (hu : X.A.units + 1 < cLine) (ho : PE X o (TM (GO X tb) fo)) (he : PE X e (TM (GO X tb) fe)) (hm : M1 X o "get" apos e cpos := by exact ⟨rfl, rfl, rfl, rfl⟩) :
    PE X (.Call (.Attribute o "get" apos) [e] [] cpos) (TM (GO X tb) (mGetA1 fo fe)) := by
  refine (pe_dget1 hu ho he hm).imp fun σ H Q ⟨ρ, hs, m, sl, hr, d, hs', ee, q⟩ => ?_
  unfold mGetA1 mGetA at ee
  split at ee
  · rename_i i hs1 e1
    split at ee
    · rename_i o1 e0
      split at ee
      · rename_i hd
        split at ee
        · rename_i d2 hs2 e2
          split at ee
          · rename_i z hs3 e3
            cases e3
            split at ee
            · rename_i o' e4
              refine ⟨ρ, hs, m, sl, hr, _, _, e1, fun v H1 m1 n1 hr1 rv => ?_⟩
              cases rv with
              | ref ha =>
                rename_i a
                refine ⟨a, rfl, isDict_ok hr1 ha e0 hd, ρ, hs1, m1, sl.nx hr n1, hr1, _, _, e2, fun y H2 m2 n2 hr2 ry => ?_⟩
                split at ee
                · rename_i w2 eg
                  cases ee
                  obtain ⟨ov, g, _, g2⟩ := dget_ok hr2 (n2.ix ha) e4 ry eg
                  obtain ⟨v2, rfl, r2⟩ := g2 _ rfl
                  exact ⟨_, g, q _ H2 m2 (n1.trans n2) hr2 r2⟩
                · rename_i eg
                  cases ee
                  obtain ⟨ov, g, g1, _⟩ := dget_ok hr2 (n2.ix ha) e4 ry eg
                  have e9 := g1 rfl
                  subst e9
                  exact ⟨_, g, q _ H2 m2 (n1.trans n2) hr2 .non⟩
                · cases ee
            · cases ee
          · cases ee
        · cases ee
      · cases ee
    · cases ee
  · cases ee
theorem tm_inA {G : GX} {fk fo : EM} {σ : L2.St} {H : Hp} {Q : VK} (h : TM G (mInA fk fo) σ H Q) : tDIn (TM G fk) (TM G fo) σ H Q := by
  obtain ⟨ρ, hs, m, sl, hr, d, hs', ee, q⟩ := h
  unfold mInA at ee
  split at ee
  · rename_i d2 hs1 e1
    split at ee
    · rename_i i hs2 e2
      split at ee
      · rename_i o' e3
        refine ⟨ρ, hs, m, sl, hr, _, _, e1, fun y H1 m1 n1 hr1 ry => ⟨ρ, hs1, m1, sl.nx hr n1, hr1, _, _, e2, fun v H2 m2 n2 hr2 rv => ?_⟩⟩
        cases rv with
        | ref ha =>
          split at ee
          · rename_i w eg
            cases ee
            obtain ⟨ov, g, _, g2⟩ := dget_ok hr2 ha e3 (ry.nx hr1 n2) eg
            obtain ⟨v2, rfl, r2⟩ := g2 _ rfl
            exact ⟨_, _, rfl, g, q _ H2 m2 (n1.trans n2) hr2 (.bl true)⟩
          · rename_i eg
            cases ee
            obtain ⟨ov, g, g1, _⟩ := dget_ok hr2 ha e3 (ry.nx hr1 n2) eg
            have e9 := g1 rfl
            subst e9
            exact ⟨_, _, rfl, g, q _ H2 m2 (n1.trans n2) hr2 (.bl false)⟩
          · cases ee
      · cases ee
    · cases ee
  · cases ee
theorem tm_notInA {G : GX} {fk fo : EM} {σ : L2.St} {H : Hp} {Q : VK} (h : TM G (mNotInA fk fo) σ H Q) : tDNotIn (TM G fk) (TM G fo) σ H Q := by
  obtain ⟨ρ, hs, m, sl, hr, d, hs', ee, q⟩ := h
  unfold mNotInA at ee
  split at ee
  · rename_i b hs1 e1
    cases ee
    have z := tm_inA (Q := fun v H' => ∃ m', Nx m H m' H' ∧ HR G m' hs' H' ∧ v = .bl b) ⟨ρ, hs, m, sl, hr, _, _, e1, fun v H' m' n' hr' rv => ⟨m', n', hr', by cases rv; rfl⟩⟩
    obtain ⟨ρ1, hs2, m2, sl2, hr2, d2, hs3, e2, q2⟩ := z
    refine ⟨ρ1, hs2, m2, sl2, hr2, d2, hs3, e2, fun y H1 m1 n1 hr1 ry => ?_⟩
    obtain ⟨ρ3, hs4, m4, sl4, hr4, d4, hs5, e4, q4⟩ := q2 y H1 m1 n1 hr1 ry
    refine ⟨ρ3, hs4, m4, sl4, hr4, d4, hs5, e4, fun v H2 m5 n5 hr5 rv => ?_⟩
    obtain ⟨a, ov, h1, h2, m6, h3, h4, h5⟩ := q4 v H2 m5 n5 hr5 rv
    refine ⟨a, ov, h1, h2, ?_⟩
    have h6 : ov.isSome = b := by injection h5
    rw [h6]
    exact q _ H2 m6 h3 h4 (.bl _)
  · cases ee
theorem ms_dput (hu : X.A.units + 1 < cLine) {v : Expr} {fv : EM} (ho : PE X o (TM (GO X tb) fo)) (he : PE X e (TM (GO X tb) fe)) (hv : PE X v (TM (GO X tb) fv)) (hs : swapsWith v (some (.Subscript o e pos')) pos.line X.env = pure false := by rfl) :
    PS X (.Assign [.Subscript o e pos'] v pos) (TSM (GO X tb) (mDput fo fe fv)) := by
  refine (ps_dput hu ho he hv hs).imp fun D σ H ⟨ρ, hs, m, sl, hr, r, ee, q⟩ => ?_
  unfold mDput at ee
  split at ee
  · rename_i w hs1 e1
    split at ee
    · rename_i i hs2 e2
      split at ee
      · rename_i d2 hs3 e3
        split at ee
        · rename_i o' e4
          split at ee
          · rename_i o2 ep
            cases ee
            refine ⟨ρ, hs, m, sl, hr, _, _, e1, fun v1 H1 m1 n1 hr1 r1 => ⟨ρ, hs1, m1, sl.nx hr n1, hr1, _, _, e2, fun v2 H2 m2 n2 hr2 r2 => ⟨ρ, hs2, m2, (sl.nx hr n1).nx hr1 n2, hr2, _, _, e3, fun v3 H3 m3 n3 hr3 r3 => ?_⟩⟩⟩
            cases r2 with
            | ref ha =>
              obtain ⟨u, g, n4, hr4⟩ := dput_ok hr3 (n3.ix ha) e4 r3 ((r1.nx hr1 n2).nx hr2 n3) ep
              exact ⟨_, _, rfl, g, q σ _ m3 (((n1.trans n2).trans n3).trans n4) hr4 ((((sl.nx hr n1).nx hr1 n2).nx hr2 n3).nx hr3 n4)⟩
          · cases ee
        · cases ee
      · cases ee
    · cases ee
  · cases ee
end
end Mir

/-! Mir9: texts; a dict display with tuples as keys; list.count of data. -/
namespace L2
open PySem PySem.Spec PyProof.Rows
/-! ### {(a, b): v, ..} -/
def mergeT (kvs more : List (List Key × V)) : List (List Key × V) := more.foldl (fun acc kv => putK acc kv.1 kv.2) kvs
theorem length_mergeT : ∀ (more kvs : List (List Key × V)), (mergeT kvs more).length ≤ kvs.length + more.length
  | [], kvs => by show kvs.length ≤ kvs.length + 0; omega
  | p :: r, kvs => by
    have h1 := length_mergeT r (putK kvs p.1 p.2)
    have h2 := length_putK kvs p.1 p.2
    show (mergeT (putK kvs p.1 p.2) r).length ≤ _
    rw [List.length_cons]; omega
/-- the pairs with their keys' places -/
abbrev KAV := List Key × Addr × V
def tDispT (trs : List (TE × TE)) : TE := fun σ H Q => ∀ p, H p = none → tPairs trs σ (upd H p (.dT [])) fun ps H2 => H2 p = some (.dT []) ∧
  ∃ kvs : List KAV, ps = kvs.map (fun kv => (V.ref kv.2.1, kv.2.2)) ∧ (∀ kv ∈ kvs, H2 kv.2.1 = some (.tup (kv.1.map kV))) ∧ kvs.length ≤ 15 ∧ Q (.ref p) (upd H2 p (.dT (mergeT [] (kvs.map fun kv => (kv.1, kv.2.2)))))
theorem carriesT {P : Program} {w : World} {H : Hp} {h : Heap} (ok : HOk P w H h) : ∀ {kvs : List KAV} {ws : List (Value × Value)}, VV (kvs.map fun kv => (V.ref kv.2.1, kv.2.2)) ws → (∀ kv ∈ kvs, H kv.2.1 = some (.tup (kv.1.map kV))) →
    ∃ ps : List (List Key × Addr × Value), CarriesH (tupleKind (mixKind P w)) h ws ps ∧ ps.length = kvs.length ∧ ∀ (acc : List (List Key × V)) (xs : List (List Key × Addr × Value)), KT H acc xs → KT H (mergeT acc (kvs.map fun kv => (kv.1, kv.2.2))) (storedAllH xs ps)
  | [], _, r, _ => by
    rw [List.map_nil] at r; cases r
    exact ⟨[], True.intro, rfl, fun _ _ k => k⟩
  | p :: kvs, _, r, hk => by
    rw [List.map_cons] at r
    cases r with
    | @cons a b as bs h1 t =>
      obtain ⟨ps, c, l, q⟩ := carriesT ok t fun kv hkv => hk kv (List.mem_cons_of_mem _ hkv)
      obtain ⟨b1, b2⟩ := b
      obtain ⟨r1, r2⟩ := h1
      have r1 : b1 = Value.ref p.2.1 := r1
      subst r1
      have ek := hk p List.mem_cons_self
      refine ⟨(p.1, p.2.1, b2) :: ps, ⟨rfl, rfl, key_of ok ek, c⟩, by simp [l], fun acc xs k => ?_⟩
      exact q _ _ (k.put p.1 ek r2)
theorem pe_dispT {X : Cx} {pos : Pos} {keys : List (Option Expr)} {values : List Expr} {trs : List (TE × TE)} (hu : X.A.units + 1 < cLine) (h : PPs X pos keys values trs) (hall : keys.all (·.isSome) = true) (hl : keys.length = values.length) (h0 : keys ≠ [])
    (h15 : keys.length ≤ 15) : PE X (.Dict keys values pos) (tDispT trs) := by
  refine ⟨fun pins s σ H Q I q => ?_⟩
  have hn := I.hok.fresh (Nat.le_refl s.heap.objs.size)
  have I1 := I.laid (a := s.heap.objs.size) (o := .dT []) (h' := s.heap.push { cls := .type "dict", data := .dict #[] }) (t' := s.toks) (fun _ _ q => Heap.get?_push_of_some _ q) (Nat.le_refl _) (dt_empty s.heap I.big)
  have hpn := pairTrees_length keys values X.env pos hall hl
  have hne : pairTrees keys values X.env pos ≠ [] := fun he => by
    rw [he] at hpn
    exact h0 (List.length_eq_zero_iff.mp hpn.symm)
  rw [arm_eval_Dict, zip_pairTrees keys values X.env pos hall hl, dictDisplay_pairs _ hne (by omega)]
  refine wpAny_bind (wpAny_standAt (wpAny_bind (wpAny_subDictH (knd := tupleKind (mixKind X.prog X.w)) (Q := fun d s' => wpAny (model X.prog X.w) X.A (pure (Value.ref d)) (EP X pins σ Q) X.xe s') (show X.A.units < cLine by omega) (by omega)
    (thn (h.run pins _ σ _ _ I1 (q _ hn)) fun ws s2 ⟨ps, H2, I2, rel, e, kvs, ep, hk, lk, q2⟩ => ?_))))
  subst ep
  obtain ⟨rs, c, lr, mk⟩ := carriesT I2.hok rel hk
  obtain ⟨z, hd, vs0, r0, dd⟩ := dt_of I2.hok e
  cases r0
  refine ⟨rs, c, dd, fun h' tk dd' hs => wpAny_pure ⟨.ref s.heap.objs.size, _, ?_, rfl, q2⟩⟩
  have hz : (mergeT [] (kvs.map fun kv => (kv.1, kv.2.2))).length ≤ sizeLine := by
    have h1 := length_mergeT (kvs.map fun kv => (kv.1, kv.2.2)) []
    rw [List.length_nil, List.length_map] at h1
    rw [sizeLine_eq]; omega
  obtain ⟨q', es, ep, hq, h2, h3, h4, _, h5⟩ := dd'
  refine d_write I2 (by rw [e]; exact True.intro) hs ⟨q', hq⟩ ⟨hz, hd, _, (mk [] [] .nil).keeps fun c ys ec => ?_, q', es, ep, hq, h2, h3, h4, h5⟩
  rw [upd_ne (ne_of ec e (fun z => nomatch z))]
  exact ec
/-! ### l.count(x), nested data -/
def rCountD (K : PySem.W.Frag) : V → List V → Hp → VK → Prop := fun x xs H Q => ∃ (a : Addr) (y : V) (d : PyData) (ds : List PyData), x = V.ref a ∧ xs = [y] ∧ Dp K H (V.ref a) (.list ds) ∧ Dp K H y d ∧
  SeqAt.shaped (.list ds) = true ∧ SeqAt.shaped d = true ∧ Q (.int (ds.countP fun z => PyData.eqv z d : Nat)) H
theorem mt_countD {X : Cx} (hu : X.A.units + 65 < cLine) : MtR X "list.count" (rCountD X.K) := by
  intro pins s σ H x xs v us Q I rx rxs h
  obtain ⟨a, y, d, ds, rfl, rfl, hl, hy, sl, sd, q⟩ := h
  cases rx
  cases rxs with
  | cons ry rt =>
    rename_i uy ut
    cases rt
    obtain ⟨bs, r1⟩ := Dp.reads I d y uy hy ry
    have hxs : PyData.canLayAll0 ds = true := SeqAt.canLay_of_shaped sl
    have hroom : X.A.units + 1 + min (PyData.depthAll ds) d.depth < cLine := room_in_shaped sd hu
    cases hl with
    | lst hs ha =>
      obtain ⟨its, rv, ⟨⟨cls, dd, data, sls⟩, n, ho, hc, hdn, hdt⟩, hlen⟩ := I.list hs
      simp only at hc hdt
      subst hc hdt
      obtain ⟨as, h4⟩ := Dp.readsAll I ds _ its ha rv
      have hmap : its.map (SeqAt.readOf s.heap) = ds := SeqAt.readsAll_map ds its as hxs h4
      refine call_meets PySem.F.slot_list_count ⟨_, ho, rfl⟩ PySem.F.entry_list_count (PySem.F.args_list_count_2 _ _)
        (SeqAt.list_countAt a its.toArray n dd sls uy (fun u => PyData.eqv (SeqAt.readOf s.heap u) d)) ⟨ho, SeqAt.items_eqAt (vs := its.toArray) (show ReadsAll s.heap its.toArray.toList ds as from h4) r1 hxs (SeqAt.canLay_of_shaped sd) hroom, ?_⟩
      refine ⟨.int (ds.countP fun z => PyData.eqv z d : Nat), H, I.tok _, ⟨s.toks, ?_⟩, q⟩
      have e : its.toArray.toList.countP (fun u => PyData.eqv (SeqAt.readOf s.heap u) d) = ds.countP fun z => PyData.eqv z d := by
        rw [← hmap, List.countP_map]; rfl
      rw [e]
end L2
namespace Mir
open PySem PySem.Spec PyProof.Rows L2
/-! ### {(a, b): v, ..} -/
def tkeysOk : List (D × D) → Bool
  | [] => true
  | (k, _) :: r => match tkeyOf k with
    | some _ => tkeysOk r
    | none => false
def tmerge (acc : List (D × D)) : List (D × D) → List (D × D)
  | [] => acc
  | (k, v) :: r => tmerge (tput k v acc) r
def mDispT (g : PM) : EM := fun ρ hs => match g ρ hs with
  | some (ps, hs') => match tkeysOk ps with
    | true => some (.ref hs'.length, hs' ++ [.dT (tmerge [] ps)])
    | false => none
  | none => none
instance {g : PM} [a : QP g] : QE (mDispT g) := ⟨fun ρ hs d hs' h => by
  unfold mDispT at h
  split at h
  · rename_i e1
    split at h
    · cases h
      exact (a.q _ _ _ _ e1).trans .one
    · cases h
  · cases h⟩
theorem tkeys_rel {K : PySem.W.Frag} {H : Hp} {m : List Addr} : ∀ {ps : List (D × D)} {vs : List (V × V)}, tkeysOk ps = true → Reps2 K H m ps vs → ∃ ks : List KAV, vs = ks.map (fun kv => (V.ref kv.2.1, kv.2.2)) ∧ (∀ kv ∈ ks, H kv.2.1 = some (.tup (kv.1.map kV))) ∧
    TRel K H m ps (ks.map fun kv => (kv.1, kv.2.2)) ∧ ks.length = ps.length
  | [], _, _, r => by
    cases r
    exact ⟨[], rfl, (fun _ h => by cases h), .nil, rfl⟩
  | (j, d) :: ps, _, h, r => by
    cases r with
    | cons a b t =>
      rename_i k0 v s0
      unfold tkeysOk at h
      split at h
      · rename_i k ek
        obtain ⟨ks, e1, e2, e3, e4⟩ := tkeys_rel h t
        obtain ⟨c, rfl, hc⟩ := tkey_at ek a
        have q2 := tkeyOf_eq ek
        subst q2
        refine ⟨(k, c, v) :: ks, by rw [List.map_cons, e1], fun kv hkv => ?_, .cons b e3, by simp [e4]⟩
        rcases List.mem_cons.mp hkv with rfl | hkv
        · exact hc
        · exact e2 kv hkv
      · cases h
theorem tmerge_rel {K : PySem.W.Frag} {H : Hp} {m : List Addr} : ∀ {ps : List (D × D)} {ks : List (List Key × V)} {acc : List (D × D)} {ak : List (List Key × V)}, TRel K H m ps ks → TRel K H m acc ak → TRel K H m (tmerge acc ps) (mergeT ak ks)
  | _, _, _, _, .nil, a => a
  | _, _, acc, ak, .cons (k := k) (v := v) (s := s) r t, a => by
    have e : mergeT ak ((k, v) :: s) = mergeT (putK ak k v) s := rfl
    rw [e]
    unfold tmerge
    exact tmerge_rel t (tput_rel r a)
theorem m_dispT {X : Cx} {tb : TBs} {pos : Pos} {keys : List (Option Expr)} {values : List Expr} {g : PM} {n : Nat} [pn : PN g n] (hu : X.A.units + 1 < cLine) (h : PPM X (GO X tb) pos keys values g) (hn : n ≤ 15 := by decide) (hall : keys.all (·.isSome) = true := by rfl) (hl : keys.length = values.length := by rfl) (h0 : keys ≠ [] := by intro z; cases z) (h15 : keys.length ≤ 15 := by decide) :
    PE X (.Dict keys values pos) (TM (GO X tb) (mDispT g)) := by
  obtain ⟨trs, hp, hq⟩ := h.ex
  refine (pe_dispT hu hp hall hl h0 h15).imp fun σ H Q ⟨ρ, hs, m, sl, hr, d, hs', ee, q⟩ => ?_
  unfold mDispT at ee
  split at ee
  · rename_i ps hs1 e1
    split at ee
    · rename_i hk
      cases ee
      intro p hp0
      have n0 : Nx m H m (upd H p (.dT [])) := .fresh1 hp0
      refine hq σ _ _ ⟨ρ, hs, m, sl.nx hr n0, hr.more hp0, ps, hs1, e1, fun vs H2 m2 n2 hr2 rp => ?_⟩
      obtain ⟨e2, np⟩ := n2.off (L := p) (u := .dT []) upd_same (hr.no_none hp0) (fun _ z => by cases z)
      obtain ⟨ks, ev, kh, kr, kl⟩ := tkeys_rel hk rp
      refine ⟨e2, ks, ev, kh, by rw [kl, pn.n _ _ _ _ e1]; exact hn, ?_⟩
      obtain ⟨hr3, go⟩ := hr2.asideG (u' := .dT (mergeT [] (ks.map fun kv => (kv.1, kv.2.2)))) e2 np (fun _ z => by cases z) (fun _ _ z => by cases z) (fun _ z => by cases z) (fun _ _ _ z => by cases z)
      have kr3 := (tmerge_rel kr .nil).mapR go
      have n3 : Nx m H m2 (upd H2 p (.dT (mergeT [] (ks.map fun kv => (kv.1, kv.2.2))))) := (n0.trans n2).aside hp0
      exact q _ _ (m2 ++ [p]) (n3.told hp0) (hr3.adoptO np ⟨_, upd_same, kr3.keys, kr3.vals⟩) (Rep.last hr3)
    · cases ee
  · cases ee
/-! ### l.count(x) -/
def cntL (x : D) : List D → Nat
  | [] => 0
  | d :: ds => match deq 12 d x with
    | true => cntL x ds + 1
    | false => cntL x ds
theorem cntL_eq {x : D} (sx : shal 12 x = true) : ∀ {ds : List D}, allL (shal 12) ds = true → cntL x ds = (pdAll ds).countP fun z => PyData.eqv z (pdOf x)
  | [], _ => by unfold cntL pdAll; rfl
  | d :: ds, hs => by
    obtain ⟨s1, s2⟩ := allL_cons hs
    have ed := deq_eq 12 d x s1 sx
    have ih := cntL_eq sx s2
    unfold cntL pdAll
    rw [List.countP_cons, ← ed, ← ih]
    cases deq 12 d x <;> rfl
def mLcnt (fo fe : EM) : EM := fun ρ hs => match fo ρ hs with
  | some (.ref i, hs1) => match at? hs1 i with
    | some (.lst _) => match fe ρ hs1 with
      | some (d, hs2) => match at? hs2 i with
        | some (.lst ds) => match shal 12 d, allL (shal 11) ds with
          | true, true => some (.int (cntL d ds : Nat), hs2)
          | _, _ => none
        | _ => none
      | none => none
    | _ => none
  | _ => none
instance {fo fe : EM} [a : QE fo] [b : QE fe] : QE (mLcnt fo fe) := ⟨fun ρ hs d hs' h => by
  unfold mLcnt at h
  split at h
  · rename_i e1
    split at h
    · split at h
      · rename_i e2
        split at h
        · split at h
          · cases h
            exact (a.q _ _ _ _ e1).trans (b.q _ _ _ _ e2)
          · cases h
        · cases h
      · cases h
    · cases h
  · cases h⟩
section
variable {X : Cx} {tb : TBs}
theorem m_lcnt (hu : X.A.units + 65 < cLine) {o e : Expr} {fo fe : EM} {apos cpos : Pos} (ho : PE X o (TM (GO X tb) fo)) (he : PE X e (TM (GO X tb) fe))
    (hbase : attributeBase o "count" X.env (eval o X.env) = eval o X.env := by rfl)
    (hfew : ((backTo cpos (starEach (e :: []) X.env)).all (fun x => !x.1) && (backToKw cpos (keywordEach [] X.env)).all (fun x => x.1.isSome)
      && decide ((e :: []).length + ([] : List Keyword).length + (if ([] : List Keyword).isEmpty then 0 else 1) < 30)) = true := by rfl)
    (hline : (apos.endLine == cpos.line) = true := by rfl) (hs : starEach (e :: []) X.env = (false, eval e X.env) :: starEach [] X.env := by rfl) (hplain : (backTo cpos (starEach [] X.env)).any (·.1) = false := by rfl) :
    PE X (.Call (.Attribute o "count" apos) [e] [] cpos) (TM (GO X tb) (mLcnt fo fe)) := by
  refine (pe_bm PySem.F.plainAttrs_list PySem.F.slot_list_count PySem.F.type_list_count (mt_countD hu) ho (pa_cons he pa_nil hs) hbase hfew hline hs hplain).imp fun σ H Q ⟨ρ, hs, m, sl, hr, d, hs', ee, q⟩ => ?_
  unfold mLcnt at ee
  split at ee
  · rename_i i hs1 e1
    split at ee
    · rename_i ds0 e2
      split at ee
      · rename_i d2 hs2 e3
        split at ee
        · rename_i ds e4
          split at ee
          · rename_i sd sds
            cases ee
            refine ⟨ρ, hs, m, sl, hr, _, _, e1, fun v H1 m1 n1 hr1 rv => ?_⟩
            cases rv with
            | ref ha =>
              rename_i a
              obtain ⟨xs0, hx0, _⟩ := hr1.lst ha e2
              refine ⟨.inl ⟨rfl, _, .of hx0⟩, ρ, hs1, m1, sl.nx hr n1, hr1, _, _, e3, fun w H2 m2 n2 hr2 rw => ?_⟩
              have ha2 := n2.ix ha
              obtain ⟨xs, hx, rx⟩ := hr2.lst ha2 e4
              have sds' : allL (shal 12) ds = true := allL_of fun d hd => shal_up 11 d (allL_mem sds d hd)
              refine ⟨a, w, pdOf d2, pdAll ds, rfl, rfl, .lst (.of hx) (dp_all (dp_of 12) ds _ sds' rx), dp_of 12 _ _ sd rw, ?_, shaped_of sd (by omega), ?_⟩
              · exact shaped_of (n := 12) (d := .fro ds) sds (by omega)
              · rw [← cntL_eq sd sds']
                exact q _ _ _ (n1.trans n2) hr2 (.int _)
          · cases ee
        · cases ee
      · cases ee
    · cases ee
  · cases ee
end

/-! ### texts: operators -/
theorem mulOk_small {a : Str} {n : Int} (h1 : a.length ≤ 1000) (h2 : -1000 ≤ n) (h3 : n ≤ 1000) : MulOk a n := by
  refine ⟨?_, fun h0 _ => ?_, fun h0 _ => ?_⟩
  · have a1 : ¬ n < -(2 ^ 63 : Int) := by omega
    have a2 : ¬ n ≥ (2 ^ 63 : Int) := by omega
    rw [decide_eq_false a1, decide_eq_false a2]; rfl
  · have b1 : (1000 : Int) ≤ (2 ^ 63 - 1) / n := (Int.le_ediv_iff_mul_le (by omega)).mpr (by omega)
    omega
  · have c1 : a.length * n.toNat ≤ 1000 * 1000 := Nat.mul_le_mul h1 (by omega)
    unfold PySem.Builtin.Str.tooLong
    have := sizeLine_eq
    simp only [decide_eq_false_iff_not]
    omega
def mulS : F2 := fun d e hs => match d with
  | .str a => match e with
    | .int n => match Nat.ble a.length 1000, decide (-1000 ≤ n), decide (n ≤ 1000) with
      | true, true, true => some (.str (Txt.mul a n), hs)
      | _, _, _ => none
    | _ => none
  | _ => mulX d e hs
instance : Q2 mulS := ⟨fun d e hs r hs' h => by
  unfold mulS at h
  split at h
  · split at h
    · split at h
      · cases h; exact .refl
      · cases h
    · cases h
  · exact Q2.q _ _ _ _ _ h⟩
section
variable {X : Cx} {tb : TBs}
theorem op_mulSM : OpR X (binaryOp .Mult) (R2M (GO X tb) mulS) := by
  intro pins s σ H x y v u Q I rx ry h
  obtain ⟨d, e, hs, m, hr, r1, r2, r, hs', ef, q⟩ := h
  cases d with
  | str a =>
    unfold mulS at ef
    cases e with
    | int n =>
      simp only at ef
      split at ef
      · rename_i c1 c2 c3
        cases ef
        cases r1
        cases r2
        obtain ⟨t, rfl⟩ := rx
        obtain ⟨t', rfl⟩ := ry
        exact SB.mul (mulOk_small (Nat.le_of_ble_eq_true c1) (of_decide_eq_true c2) (of_decide_eq_true c3)) fun t' k => ⟨.str _, H, I.tok _, ⟨_, rfl⟩, q _ _ _ .refl hr (.str _)⟩
      · cases ef
    | _ => simp at ef
  | _ => exact op_mulXM pins s σ H x y v u Q I rx ry ⟨_, e, hs, m, hr, r1, r2, r, hs', ef, q⟩
/-- s in t; else as before -/
def inY : F2 := fun d e hs => match e with
  | .str j => match d with
    | .str i => some (.bl (!(Builtin.Str.occurrences j i 0 j.length 1).isEmpty), hs)
    | _ => none
  | _ => inX d e hs
instance : Q2 inY := ⟨fun d e hs r hs' h => by
  unfold inY at h
  split at h
  · split at h
    · cases h; exact .refl
    · cases h
  · exact Q2.q _ _ _ _ _ h⟩
theorem op_inY (hu : X.A.units + 65 < cLine) : OpR X (compareOp .In) (R2M (GO X tb) inY) := by
  intro pins s σ H x y v u Q I rx ry h
  obtain ⟨d, e, hs, m, hr, r1, r2, r, hs', ef, q⟩ := h
  cases e with
  | str j =>
    unfold inY at ef
    cases d with
    | str i =>
      cases ef
      cases r1
      cases r2
      exact op_in_str pins s σ H _ _ v u Q I rx ry ⟨_, _, rfl, rfl, q _ _ _ .refl hr (.bl _)⟩
    | _ => simp at ef
  | _ => exact op_inX hu pins s σ H x y v u Q I rx ry ⟨d, _, hs, m, hr, r1, r2, r, hs', ef, q⟩
theorem op_notInY (hu : X.A.units + 65 < cLine) : OpR X (compareOp .NotIn) (R2M (GO X tb) (notF inY)) := by
  intro pins s σ H x y v u Q I rx ry h
  obtain ⟨d, e, hs, m, hr, r1, r2, r, hs', ef, q⟩ := h
  cases e with
  | str j =>
    unfold notF inY at ef
    cases d with
    | str i =>
      cases ef
      cases r1
      cases r2
      exact op_notIn_str pins s σ H _ _ v u Q I rx ry ⟨_, _, rfl, rfl, q _ _ _ .refl hr (.bl _)⟩
    | _ => simp at ef
  | _ => exact op_notInX hu pins s σ H x y v u Q I rx ry ⟨d, _, hs, m, hr, r1, r2, r, hs', ef, q⟩
/-- s[a:b] too -/
def slG : F3 := fun d lo hi hs => match d with
  | .str z => match cap z.length with
    | true => some (.str ⟨(cutD z.cps.toList lo hi).toArray⟩, hs)
    | false => none
  | _ => slF d lo hi hs
instance : Q3 slG := ⟨fun d lo hi hs r hs' h => by
  unfold slG at h
  split at h
  · split at h
    · cases h; exact .refl
    · cases h
  · exact Q3.q _ _ _ _ _ _ h⟩
theorem sl_G : SlR X (R3M (GO X tb) slG) := by
  intro pins s σ H x v vl vu lo hi sl Q I rx hsl pl pu h
  obtain ⟨d, hs, m, hr, r1, r, hs', ef, q⟩ := h
  cases d with
  | str z =>
    unfold slG at ef
    simp only at ef
    split at ef
    · rename_i hc
      cases ef
      cases r1
      refine sl_str pins s σ H _ v vl vu lo hi sl Q I rx hsl pl pu ⟨z, rfl, cap_le hc, ?_⟩
      have e : (⟨(cutD z.cps.toList lo hi).toArray⟩ : Str) = cutS z lo hi := by
        unfold cutD cutS
        rw [sixD_eq, sixD_eq]
        rfl
      rw [← e]
      exact q _ _ _ .refl hr (.str _)
    · cases ef
  | _ => exact sl_M (tb := tb) pins s σ H x v vl vu lo hi sl Q I rx hsl pl pu ⟨_, hs, m, hr, r1, r, hs', ef, q⟩
theorem m_sliceG {e : Expr} {fe : EM} {pos : Pos} {lo hi : Option Expr} {fl fh : OM} {p2 : Pos} (he : PE X e (TM (GO X tb) fe)) (hl : PO X lo (TOm (GO X tb) fl)) (hu : PO X hi (TOm (GO X tb) fh)) : PE X (.Subscript e (.Slice lo hi none p2) pos) (TM (GO X tb) (mSl slG fe fl fh)) := by
  refine (pe_slice (sl_G (tb := tb)) he hl hu).imp fun σ H Q ⟨ρ, hs, m, sl, hr, r, hs', ee, q⟩ => ?_
  unfold mSl at ee
  split at ee
  · rename_i d hs1 e1
    split at ee
    · rename_i lo hs2 e2
      split at ee
      · rename_i hi hs3 e3
        refine ⟨ρ, hs, m, sl, hr, _, _, e1, fun v H1 m1 n1 hr1 rv => ⟨ρ, hs1, m1, sl.nx hr n1, hr1, _, _, e2, fun H2 m2 n2 hr2 => ⟨ρ, hs2, m2, (sl.nx hr n1).nx hr1 n2, hr2, _, _, e3, fun H3 m3 n3 hr3 => ?_⟩⟩⟩
        exact ⟨d, hs3, m3, hr3, (rv.nx hr1 n2).nx hr2 n3, r, hs', ee, fun v' H' m' n' => q v' H' m' (((n1.trans n2).trans n3).trans n')⟩
      · cases ee
    · cases ee
  · cases ee
/-- for c in s -/
def strL (z : List Nat) : List D := z.map fun c => .str ⟨#[c]⟩
def mStrI (f : EM) : IM := fun ρ hs => match f ρ hs with
  | some (.str z, hs') => some (strL z.cps.toList, hs')
  | _ => none
instance {f : EM} [a : QE f] : QI (mStrI f) := ⟨fun ρ hs d hs' h => by
  unfold mStrI at h
  split at h
  · rename_i e; cases h; exact a.q _ _ _ _ e
  · cases h⟩
theorem mi_str {e tg : Expr} {f : EM} (h : PE X e (TM (GO X tb) f)) : PI X tg e (TIS (GO X tb) (mStrI f)) := PI.imp' (pi_str h) fun σ H R ⟨ρ, hs, m, sl, hr, ds, hs', ee, q⟩ => by
  unfold mStrI at ee
  split at ee
  · rename_i z hs1 e1
    cases ee
    refine ⟨ρ, hs, m, sl, hr, _, _, e1, fun v H' m' n' hr' rv => ?_⟩
    cases rv
    refine ⟨z, rfl, q _ H' m' n' hr' fun m2 H2 hs2 n2 hr2 i => ⟨fun d e => ?_, fun h => ?_⟩⟩
    · unfold strL at e
      rw [List.getElem?_map] at e
      cases ec : z.cps.toList[i]? with
      | none => rw [ec] at e; cases e
      | some c =>
        rw [ec] at e
        cases e
        rw [Array.getElem?_toList] at ec
        refine ⟨(Array.getElem?_eq_some_iff.mp ec).1, fun x H3 y => ?_⟩
        obtain ⟨rfl, c', e1, rfl⟩ := y
        rw [ec] at e1
        cases e1
        exact ⟨.refl, hr2, .str _⟩
    · unfold strL at h
      rw [List.length_map, Array.length_toList] at h
      exact h
  · cases ee
end

/-! ### texts: calls -/
def strI : FM := fun ds hs => match ds with
  | [.int i] => match decide (-1000000 < i), decide (i < 1000000) with
    | true, true => some (.str (toString i), hs)
    | _, _ => none
  | _ => none
instance : QF strI := ⟨fun ds hs d hs' h => by
  unfold strI at h
  split at h
  · split at h
    · cases h; exact .refl
    · cases h
  · cases h⟩
theorem cr_strI {X : Cx} {tb : TBs} : CallR X (.type "str") (RLM (GO X tb) strI) := by
  refine CallR.imp' (call_str_int (X := X)) fun vs H Q h => ?_
  obtain ⟨ds, hs, m, hr, r, d, hs', e, q⟩ := h
  unfold strI at e
  split at e
  · rename_i i
    split at e
    · rename_i c1 c2
      cases e
      obtain ⟨v, rfl, rv⟩ := reps1 r
      cases rv
      refine ⟨_, rfl, ?_, q _ _ _ .refl hr (.str _)⟩
      have h1 := of_decide_eq_true c1
      have h2 := of_decide_eq_true c2
      have := log2_small (i := i) (b := 20) (by omega) (by omega)
      omega
    · cases e
  · cases e
def intS : FM := fun ds hs => match ds with
  | [.str s] => match Nat.ble s.length 640, PySem.intText? s with
    | true, some n => some (.int n, hs)
    | _, _ => none
  | _ => none
instance : QF intS := ⟨fun ds hs d hs' h => by
  unfold intS at h
  split at h
  · split at h
    · cases h; exact .refl
    · cases h
  · cases h⟩
theorem cr_intS {X : Cx} {tb : TBs} : CallR X (.type "int") (RLM (GO X tb) intS) := by
  refine CallR.imp' (call_int_str (X := X)) fun vs H Q h => ?_
  obtain ⟨ds, hs, m, hr, r, d, hs', e, q⟩ := h
  unfold intS at e
  split at e
  · split at e
    · rename_i s n c1 c2
      cases e
      obtain ⟨v, rfl, rv⟩ := reps1 r
      cases rv
      exact ⟨_, _, rfl, c2, Nat.le_of_ble_eq_true c1, q _ _ _ .refl hr (.int _)⟩
    · cases e
  · cases e
/-- s.upper() -/
def mUpper (fo : EM) : EM := fun ρ hs => match fo ρ hs with
  | some (.str a, hs') => match Nat.ble a.length 5592405 with
    | true => some (.str (Txt.upper a), hs')
    | false => none
  | _ => none
instance {fo : EM} [a : QE fo] : QE (mUpper fo) := ⟨fun ρ hs d hs' h => by
  unfold mUpper at h
  split at h
  · rename_i e
    split at h
    · cases h; exact a.q _ _ _ _ e
    · cases h
  · cases h⟩
/-- s.startswith(t) -/
def mStarts (fo fe : EM) : EM := fun ρ hs => match fo ρ hs with
  | some (.str a, hs1) => match fe ρ hs1 with
    | some (.str b, hs2) => some (.bl (Txt.startswith a b), hs2)
    | _ => none
  | _ => none
instance {fo fe : EM} [a : QE fo] [b : QE fe] : QE (mStarts fo fe) := ⟨fun ρ hs d hs' h => by
  unfold mStarts at h
  split at h
  · rename_i e
    split at h
    · rename_i e2; cases h; exact (a.q _ _ _ _ e).trans (b.q _ _ _ _ e2)
    · cases h
  · cases h⟩
/-- s.split(t) -/
def mSplit (fo fe : EM) : EM := fun ρ hs => match fo ρ hs with
  | some (.str a, hs1) => match fe ρ hs1 with
    | some (.str b, hs2) => match cap (a.length + 2), b.length == 0 with
      | true, false => some (.ref hs2.length, hs2 ++ [.lst ((Txt.split a b).map D.str)])
      | _, _ => none
    | _ => none
  | _ => none
instance {fo fe : EM} [a : QE fo] [b : QE fe] : QE (mSplit fo fe) := ⟨fun ρ hs d hs' h => by
  unfold mSplit at h
  split at h
  · rename_i e
    split at h
    · rename_i e2
      split at h
      · cases h; exact ((a.q _ _ _ _ e).trans (b.q _ _ _ _ e2)).trans .one
      · cases h
    · cases h
  · cases h⟩
def strsOf : List D → Option (List Str)
  | [] => some []
  | .str s :: r => match strsOf r with
    | some l => some (s :: l)
    | none => none
  | _ => none
theorem strsOf_eq : ∀ {ds : List D} {l : List Str}, strsOf ds = some l → ds = l.map D.str
  | [], _, h => by cases h; rfl
  | d :: r, l, h => by
    cases d with
    | str s =>
      unfold strsOf at h
      split at h
      · rename_i l' e
        cases h
        rw [strsOf_eq e]; rfl
      · cases h
    | _ => simp [strsOf] at h
theorem reps_strs {K : PySem.W.Frag} {H : Hp} {m : List Addr} : ∀ {l : List Str} {vs : List V}, Reps K H m (l.map D.str) vs → vs = l.map V.str
  | [], _, r => by cases r; rfl
  | s :: l, _, r => by
    rw [List.map_cons] at r
    cases r with
    | cons a t => cases a; rw [reps_strs t]; rfl
theorem reps_of_strs {K : PySem.W.Frag} {H : Hp} {m : List Addr} : ∀ l : List Str, Reps K H m (l.map D.str) (l.map V.str)
  | [] => .nil
  | s :: l => .cons (.str s) (reps_of_strs l)
/-- s.join(l) -/
def mJoin (fo fe : EM) : EM := fun ρ hs => match fo ρ hs with
  | some (.str a, hs1) => match fe ρ hs1 with
    | some (.ref i, hs2) => match at? hs2 i with
      | some (.lst ds) => match strsOf ds with
        | some ys => match cap ((ys.map (·.length)).sum + ys.length * a.length) with
          | true => some (.str (Txt.join a ys), hs2)
          | false => none
        | none => none
      | _ => none
    | _ => none
  | _ => none
instance {fo fe : EM} [a : QE fo] [b : QE fe] : QE (mJoin fo fe) := ⟨fun ρ hs d hs' h => by
  unfold mJoin at h
  split at h
  · rename_i e
    split at h
    · rename_i e2
      split at h
      · split at h
        · split at h
          · cases h; exact (a.q _ _ _ _ e).trans (b.q _ _ _ _ e2)
          · cases h
        · cases h
      · cases h
    · cases h
  · cases h⟩
section
variable {X : Cx} {tb : TBs} {o e : Expr} {fo fe : EM} {apos pos : Pos}
theorem m_upper (ho : PE X o (TM (GO X tb) fo)) (hbase : attributeBase o "upper" X.env (eval o X.env) = eval o X.env := by rfl) (hline : (apos.endLine == pos.line) = true := by rfl) : PE X (.Call (.Attribute o "upper" apos) [] [] pos) (TM (GO X tb) (mUpper fo)) := by
  refine (pe_upper ho hbase hline).imp fun σ H Q ⟨ρ, hs, m, sl, hr, d, hs', ee, q⟩ => ?_
  unfold mUpper at ee
  split at ee
  · rename_i a hs1 e1
    split at ee
    · rename_i hc
      cases ee
      refine ⟨ρ, hs, m, sl, hr, _, _, e1, fun v H' m' n' hr' rv => ?_⟩
      cases rv
      exact ⟨⟨_, rfl⟩, a, rfl, rfl, Nat.le_of_ble_eq_true hc, q _ H' m' n' hr' (.str _)⟩
    · cases ee
  · cases ee
theorem m_starts (ho : PE X o (TM (GO X tb) fo)) (he : PE X e (TM (GO X tb) fe)) (hs : starEach [e] X.env = [(false, eval e X.env)] := by rfl) (hbase : attributeBase o "startswith" X.env (eval o X.env) = eval o X.env := by rfl) (hline : (apos.endLine == pos.line) = true := by rfl) :
    PE X (.Call (.Attribute o "startswith" apos) [e] [] pos) (TM (GO X tb) (mStarts fo fe)) := by
  refine (pe_m1 F.slot_str_startswith F.type_str_startswith mt_startswith ho he hs hbase hline).imp fun σ H Q ⟨ρ, hs, m, sl, hr, d, hs', ee, q⟩ => ?_
  unfold mStarts at ee
  split at ee
  · rename_i a hs1 e1
    split at ee
    · rename_i b hs2 e2
      cases ee
      refine ⟨ρ, hs, m, sl, hr, _, _, e1, fun v H1 m1 n1 hr1 rv => ?_⟩
      cases rv
      refine ⟨⟨_, rfl⟩, ρ, hs1, m1, sl.nx hr n1, hr1, _, _, e2, fun w H2 m2 n2 hr2 rw => ?_⟩
      cases rw
      exact ⟨a, b, rfl, rfl, q _ H2 m2 (n1.trans n2) hr2 (.bl _)⟩
    · cases ee
  · cases ee
theorem m_split (ho : PE X o (TM (GO X tb) fo)) (he : PE X e (TM (GO X tb) fe)) (hs : starEach [e] X.env = [(false, eval e X.env)] := by rfl) (hbase : attributeBase o "split" X.env (eval o X.env) = eval o X.env := by rfl) (hline : (apos.endLine == pos.line) = true := by rfl) :
    PE X (.Call (.Attribute o "split" apos) [e] [] pos) (TM (GO X tb) (mSplit fo fe)) := by
  refine (pe_split ho he hs hbase hline).imp fun σ H Q ⟨ρ, hs, m, sl, hr, d, hs', ee, q⟩ => ?_
  unfold mSplit at ee
  split at ee
  · rename_i a hs1 e1
    split at ee
    · rename_i b hs2 e2
      split at ee
      · rename_i hc hb
        cases ee
        refine ⟨ρ, hs, m, sl, hr, _, _, e1, fun v H1 m1 n1 hr1 rv => ?_⟩
        cases rv
        refine ⟨⟨_, rfl⟩, ρ, hs1, m1, sl.nx hr n1, hr1, _, _, e2, fun w H2 m2 n2 hr2 rw => ?_⟩
        cases rw
        refine ⟨a, b, rfl, rfl, hb, cap_le hc, fun p hp => ?_⟩
        exact q _ _ (m2 ++ [p]) ((n1.trans n2).trans (.alloc hr2 hp)) (hr2.alloc hp ⟨_, upd_same, reps_of_strs _⟩) (.new hr2)
      · cases ee
    · cases ee
  · cases ee
theorem m_join (ho : PE X o (TM (GO X tb) fo)) (he : PE X e (TM (GO X tb) fe)) (hs : starEach [e] X.env = [(false, eval e X.env)] := by rfl) (hbase : attributeBase o "join" X.env (eval o X.env) = eval o X.env := by rfl) (hline : (apos.endLine == pos.line) = true := by rfl) :
    PE X (.Call (.Attribute o "join" apos) [e] [] pos) (TM (GO X tb) (mJoin fo fe)) := by
  refine (pe_join ho he hs hbase hline).imp fun σ H Q ⟨ρ, hs, m, sl, hr, d, hs', ee, q⟩ => ?_
  unfold mJoin at ee
  split at ee
  · rename_i a hs1 e1
    split at ee
    · rename_i i hs2 e2
      split at ee
      · rename_i ds e3
        split at ee
        · rename_i ys e4
          split at ee
          · rename_i hc
            cases ee
            refine ⟨ρ, hs, m, sl, hr, _, _, e1, fun v H1 m1 n1 hr1 rv => ?_⟩
            cases rv
            refine ⟨⟨_, rfl⟩, ρ, hs1, m1, sl.nx hr n1, hr1, _, _, e2, fun w H2 m2 n2 hr2 rw => ?_⟩
            cases rw with
            | ref ha =>
              obtain ⟨xs, hx, rx⟩ := hr2.lst ha e3
              rw [strsOf_eq e4] at rx
              have ex := reps_strs rx
              subst ex
              refine ⟨a, _, ys, rfl, rfl, .inl (.of hx), Nat.le_of_ble_eq_true hc, q _ H2 m2 (n1.trans n2) hr2 (.str _)⟩
          · cases ee
        · cases ee
      · cases ee
    · cases ee
  · cases ee
end
end Mir

/-! Mira: the size of a set comprehension of ints and texts. -/
namespace Mir
open PySem PySem.Spec PyProof.Rows L2

def skK (P : Program) (w : World) (K : PySem.W.Frag) (A : Around) : SKind P w K A where
  U := (Key → Bool) × Nat
  ho := fun a u => SetK P w a u.1 u.2
  u0 := (fun _ => false, 0)
  adds := fun y u H k => ∃ i : Key, y = kV i ∧ u.2 + 1 < scanBound ∧ k (fun j => u.1 j || decide (j = i), if u.1 i = true then u.2 else u.2 + 1)
  new := fun {H h a} e => setK_new ⟨_, #[], 0, _, e, ⟨rfl, rfl, rfl⟩, rfl, (fun e he => by simp at he), (fun k => by simp), (by decide), (by rfl), rfl⟩
  add := fun X e1 e2 e3 e4 {pins σ H s D y z u k E Q} I r hD ad q => by
    subst e1 e2 e3 e4
    obtain ⟨i, rfl, room, hk⟩ := ad
    refine call_set_add (kV_is r) (key_scan r) (setK_get I hD) room fun h' sb new => ?_
    have he : ∃ u, h'.get? D = some u := by
      have ⟨o, _, _, _, ho, _⟩ := new
      exact ⟨o, ho⟩
    exact q _ _ hk (I.write (e := D) (t' := s.toks + 1) (by rw [hD]; trivial) (.inl rfl) (fun b u hb hu => (sb.2 b hb).trans hu) he (setK_new new))
  ext := fun a u => ⟨_, rfl⟩
def kmem (d : D) : List D → Bool
  | [] => false
  | x :: r => match keq x d with
    | true => true
    | false => kmem d r
/-- the different ones -/
def kuni (acc : List D) : List D → List D
  | [] => acc
  | d :: r => match kmem d acc with
    | true => kuni acc r
    | false => kuni (acc ++ [d]) r
def keysDs : List D → Bool
  | [] => true
  | d :: r => match keyOf d with
    | some _ => keysDs r
    | none => false
theorem keysDs_ex : ∀ {ds : List D}, keysDs ds = true → ∃ ks : List Key, ds = ks.map keyD
  | [], _ => ⟨[], rfl⟩
  | d :: r, h => by
    unfold keysDs at h
    split at h
    · rename_i k e
      obtain ⟨ks, e2⟩ := keysDs_ex h
      exact ⟨k :: ks, by rw [List.map_cons, ← e2, keyOf_eq e]⟩
    · cases h
theorem kmem_key (k : Key) : ∀ l : List Key, kmem (keyD k) (l.map keyD) = true ↔ k ∈ l
  | [] => by simp [kmem]
  | x :: r => by
    rw [List.map_cons, List.mem_cons]
    unfold kmem
    rw [keq_key]
    by_cases e : x = k
    · rw [decide_eq_true e]
      exact ⟨fun _ => .inl e.symm, fun _ => rfl⟩
    · rw [decide_eq_false e]
      refine (kmem_key k r).trans ⟨.inr, fun z => z.elim (fun z => absurd z.symm e) id⟩
theorem kmem_no {k : Key} {l : List Key} (h : k ∉ l) : kmem (keyD k) (l.map keyD) = false := by
  cases e : kmem (keyD k) (l.map keyD) with
  | false => rfl
  | true => exact absurd ((kmem_key k l).mp e) h
theorem kuni_snoc (d : D) : ∀ (l acc : List D), kuni acc (l ++ [d]) = match kmem d (kuni acc l) with
    | true => kuni acc l
    | false => kuni acc l ++ [d]
  | [], acc => by
    show kuni acc [d] = _
    simp only [kuni]
  | x :: l, acc => by
    simp only [List.cons_append, kuni]
    cases kmem x acc with
    | true => exact kuni_snoc d l acc
    | false => exact kuni_snoc d l _
theorem kuni_keys : ∀ (l acc : List Key), ∃ r : List Key, kuni (acc.map keyD) (l.map keyD) = r.map keyD ∧ (∀ k, k ∈ r ↔ k ∈ acc ∨ k ∈ l) ∧ r.length ≤ acc.length + l.length
  | [], acc => ⟨acc, rfl, fun k => by simp, by simp⟩
  | x :: l, acc => by
    rw [List.map_cons]
    unfold kuni
    by_cases e : x ∈ acc
    · rw [(kmem_key x acc).mpr e]
      obtain ⟨r, h1, h2, h3⟩ := kuni_keys l acc
      refine ⟨r, h1, fun k => ?_, by simp only [List.length_cons]; omega⟩
      rw [h2, List.mem_cons]
      constructor
      · rintro (z | z)
        · exact .inl z
        · exact .inr (.inr z)
      · rintro (z | z | z)
        · exact .inl z
        · exact .inl (z ▸ e)
        · exact .inr z
    · rw [kmem_no e]
      obtain ⟨r, h1, h2, h3⟩ := kuni_keys l (acc ++ [x])
      rw [List.map_append] at h1
      refine ⟨r, h1, fun k => ?_, by simp only [List.length_append, List.length_cons, List.length_nil] at h3 ⊢; omega⟩
      rw [h2, List.mem_append, List.mem_singleton, List.mem_cons, or_assoc]
def JK (u : (Key → Bool) × Nat) (acc : List D) : Prop := ∃ ks : List Key, acc = ks.map keyD ∧ (∀ k, u.1 k = true ↔ k ∈ ks) ∧ u.2 = (kuni [] acc).length
theorem keyD_inj : ∀ {a b : Key}, keyD a = keyD b → a = b := fun {a b} h => by
  have e := keq_key a b
  rw [h, keq_key b b] at e
  simpa using e.symm
theorem keyD_injL : ∀ {a b : List Key}, a.map keyD = b.map keyD → a = b
  | [], [], _ => rfl
  | [], _ :: _, h => by simp at h
  | _ :: _, [], h => by simp at h
  | x :: a, y :: b, h => by
    rw [List.map_cons, List.map_cons] at h
    injection h with h1 h2
    rw [keyD_inj h1, keyD_injL h2]
theorem rep_key {K : PySem.W.Frag} {H : Hp} {m : List Addr} {k : Key} {v : V} (r : Rep K H m (keyD k) v) : v = kV k := by
  cases k with
  | inl i => cases r; rfl
  | inr s => cases r; rfl
section
variable {X : Cx} {tb : TBs}
theorem skK_am {P : Program} {w : World} {K : PySem.W.Frag} {A : Around} {v : V} {u : (skK P w K A).U} {H : Hp} {k k' : (skK P w K A).U → Prop} (i : ∀ u', k u' → k' u') (h : (skK P w K A).adds v u H k) : (skK P w K A).adds v u H k' := by
  obtain ⟨z, a, b, c⟩ := h
  exact ⟨z, a, b, i _ c⟩
def sjK (X : Cx) (tb : TBs) (ns : List Key) (hn : ns.length + 1 < scanBound) : SJ X tb (skK X.prog X.w X.K X.A) (ns.map keyD) where
  J := fun u acc _ _ => JK u acc
  j0 := fun H m => ⟨[], rfl, fun k => by simp [skK], rfl⟩
  jn := fun _ _ h => h
  ja := fun _ _ _ h => h
  jx := fun {u acc x v H m t} e j r => by
    obtain ⟨ms, rfl, h1, h2⟩ := j
    have hx : x ∈ ns.map keyD := by rw [e]; simp
    obtain ⟨i, _, rfl⟩ := List.mem_map.mp hx
    have hl : ms.length ≤ ns.length := by
      have := congrArg List.length e
      simp at this
      omega
    obtain ⟨r0, u1, u2, u3⟩ := kuni_keys ms []
    have u1 : kuni [] (ms.map keyD) = r0.map keyD := u1
    have u3 : r0.length ≤ ms.length := by simpa using u3
    have hc : u.2 = r0.length := by rw [h2, u1, List.length_map]
    refine ⟨i, rep_key r, by omega, ms ++ [i], by simp, fun k => ?_, ?_⟩
    · simp only [Bool.or_eq_true, decide_eq_true_eq, List.mem_append, List.mem_singleton, h1]
    · rw [kuni_snoc, u1]
      have hm : i ∈ r0 ↔ u.1 i = true := by rw [u2, h1]; simp
      by_cases q : u.1 i = true
      · rw [(kmem_key i r0).mpr (hm.mpr q)]
        simp only [q, if_true]
        rw [hc, List.length_map]
      · rw [kmem_no (fun z => q (hm.mp z))]
        simp only [q, if_false, Bool.false_eq_true]
        rw [hc]
        simp
def mLenSK (s : IM) (g : GM) (c : BM) (f : EM) (vs : List Nat) : EM := fun ρ hs => match mScIn s g c f vs ρ hs with
  | some (xs, hs2) => match keysDs xs, Nat.blt (xs.length + 1) 4096 with
    | true, true => some (.int (kuni [] xs).length, hs2)
    | _, _ => none
  | none => none
instance {s : IM} {g : GM} {c : BM} {f : EM} {vs : List Nat} [a : QI s] [qc : QB c] [qf : QE f] : QE (mLenSK s g c f vs) := ⟨fun ρ hs d hs' h => by
  unfold mLenSK at h
  split at h
  · rename_i e1
    split at h
    · cases h
      exact mScIn_grows e1
    · cases h
  · cases h⟩
theorem cr_lenSetK : CallR X (.builtin "len") (fun vs H Q => ∃ (a : Addr) (S : Key → Bool) (n : Nat), vs = [V.ref a] ∧ H a = some (SetK X.prog X.w a S n) ∧ Q (.int n) H) := by
  intro pins s σ H vs us Q I r h
  obtain ⟨a, S, n, rfl, ha, q⟩ := h
  rw [Vals.ref1 r]
  obtain ⟨o, es, ep, t, ho, hex, hd, _, _, hb, hf, hn⟩ := setK_get I ha
  exact call_len_set ho hex hd hf (by unfold scanBound at hb; omega) ⟨.int n, H, I.tok _, ⟨_, by rw [hn]⟩, q⟩
section
variable {elt tg iter : Expr} {ifs : List Expr} {scope : Scope} {own : List (Str × Nat)} {pos p q : Pos} {s : IM} {ts : List Nat} {g : GM} {c : BM} {f : EM}
theorem m_lenSK [qc : QB c] [qf : QE f] {k : Nat} (room : Room k X.A) (hg : Gl X "len") (hm : X.mg "len" = none) (hc : X.calm = true) (hN : X.N.Nodup) (hi : PI X tg iter (TIW (GO X tb) s)) (ok : BlkOk X.N X.env.scope scope own)
    (hgt : ∀ (s : Shared) (H : Hp) (C : Addr) (cl : List (Str × Addr)) (fp : List Addr), PG (X.blk s H scope (compEnvC scope cl C X.env) fp) tg (TGM (GO X tb) ts g)) (ht : ∀ (s : Shared) (H : Hp) (C : Addr) (cl : List (Str × Addr)) (fp : List Addr), PTs (X.blk s H scope (compEnvC scope cl C X.env) fp) ifs (TB (GO X tb) c))
    (he : ∀ (s : Shared) (H : Hp) (C : Addr) (cl : List (Str × Addr)) (fp : List Addr), PE (X.blk s H scope (compEnvC scope cl C X.env) fp) elt (TM (GO X tb) f)) (hts : ∀ i ∈ ts, i ∈ own.map (·.2) := by decide) (hs : ∀ x, foldedSetIterable iter X.env x = pure x := by intro _; rfl)
    (na : starEach [Expr.SetComp elt [⟨tg, iter, ifs, 0⟩] scope q] X.env = (false, eval (Expr.SetComp elt [⟨tg, iter, ifs, 0⟩] scope q) X.env) :: starEach [] X.env := by rfl) :
    PE X (.Call (.Name "len" p) [.SetComp elt [⟨tg, iter, ifs, 0⟩] scope q] [] pos) (TM (GO X tb) (mLenSK s g c f (own.map (·.2)))) := by
  refine (pe_callB cr_lenSetK hg hm (by rfl) (pa_cons (pe_scG (skK X.prog X.w X.K X.A) hc hN hi ok hgt ht he hs) pa_nil na) (by decide) (by decide) na rfl).imp fun σ H Q h => ?_
  unfold tCB tCons tNil
  obtain ⟨ρ, hs1, m, sl, hr, r, hs', ee, fin⟩ := h
  unfold mLenSK at ee
  split at ee
  · rename_i xs hs2 e1
    split at ee
    · rename_i hk hb
      cases ee
      obtain ⟨ns, rfl⟩ := keysDs_ex hk
      refine tm_scG (sjK X tb ns (by have := Nat.le_of_ble_eq_true (show Nat.ble ((ns.map keyD).length + 1 + 1) 4096 = true from hb); rw [List.length_map] at this; unfold scanBound; omega)) (fun {v u H k k'} i h => skK_am i h) hts sl hr e1 fun D u H' m' n' hr' nD h0 eD j => ?_
      obtain ⟨ms, e1, j1, j2⟩ := j
      exact ⟨D, u.1, u.2, rfl, eD, by rw [j2]; exact fin _ _ m' n' hr' (.int _)⟩
    · cases ee
  · cases ee
end
end
end Mir
namespace Mir
open PySem PySem.Spec PyProof.Rows L2
section
variable {X : Cx} {tb : TBs} {e o : Expr} {fe fo : EM} {pos : Pos}
theorem m_inA (hu : X.A.units + 1 < cLine) (he : PE X e (TM (GO X tb) fe)) (ho : PE X o (TM (GO X tb) fo)) (hm : behindInMarks .In o = false := by rfl) : PE X (.Compare e [.In] [o] pos) (TM (GO X tb) (mInA fe fo)) := (pe_cmp (pc_din hu he ho) hm).imp fun _ _ _ => tm_inA
theorem m_notInA (hu : X.A.units + 1 < cLine) (he : PE X e (TM (GO X tb) fe)) (ho : PE X o (TM (GO X tb) fo)) (hm : behindInMarks .NotIn o = false := by rfl) : PE X (.Compare e [.NotIn] [o] pos) (TM (GO X tb) (mNotInA fe fo)) := (pe_cmp (pc_dnotin hu he ho) hm).imp fun _ _ _ => tm_notInA
theorem tb_of_bool {G : GX} {f : EM} {σ : L2.St} {H : Hp} {Q : Bool → Hp → Prop} (h : TB G (mTest f) σ H Q) : TM G f σ H fun v H' => ∃ b, v = .bl b ∧ Q b H' := by
  obtain ⟨ρ, hs, m, sl, hr, b, hs', ee, q⟩ := h
  unfold mTest at ee
  split at ee
  · rename_i c hs1 e1
    cases ee
    refine ⟨ρ, hs, m, sl, hr, _, _, e1, fun v H' m' n' hr' rv => ?_⟩
    cases rv
    exact ⟨_, rfl, q H' m' n' hr'⟩
  · cases ee
theorem mt_inA (hu : X.A.units + 1 < cLine) (he : PE X e (TM (GO X tb) fe)) (ho : PE X o (TM (GO X tb) fo)) (hm : behindInMarks .In o = false := by rfl) : PT X (.Compare e [.In] [o] pos) (TB (GO X tb) (mTest (mInA fe fo))) := (pt_cmp (pc_din hu he ho) hm).imp fun σ H Q h => tm_inA (tb_of_bool h)
theorem mt_notInA (hu : X.A.units + 1 < cLine) (he : PE X e (TM (GO X tb) fe)) (ho : PE X o (TM (GO X tb) fo)) (hm : behindInMarks .NotIn o = false := by rfl) : PT X (.Compare e [.NotIn] [o] pos) (TB (GO X tb) (mTest (mNotInA fe fo))) := (pt_cmp (pc_dnotin hu he ho) hm).imp fun σ H Q h => tm_notInA (tb_of_bool h)
end
end Mir

/-! Mirb: min(list, key=lambda x: ..): the first item whose key is least; what is known may grow from turn to turn. -/
namespace PySem
open Sem (wp)
section
variable {prog : Program} {w : World} {A : Around} {R : Result → Shared → Prop} {I q S : Addr} {n : Nat}
/-- what is known: Pst j w: j items are seen, w is the best with its key; Itm: the next item is there; Mid: its key, too; Fin: the items are at an end -/
structure MinRun (prog : Program) (w : World) (A : Around) (I q S : Addr) (n : Nat) (Pst : Nat → Option (Value × Value) → Shared → Prop) (Itm : Nat → Option (Value × Value) → Value → Shared → Prop) (Mid : Nat → Option (Value × Value) → Value → Value → Shared → Prop) (Fin : Value → Shared → Prop) : Prop where
  up : ∀ j x s h' tk, Pst j x s → (∀ b o, b ≠ S → s.heap.get? b = some o → h'.get? b = some o) → Pst j x { s with heap := h', toks := tk }
  upF : ∀ v s h' tk, Fin v s → (∀ b o, b ≠ S → s.heap.get? b = some o → h'.get? b = some o) → Fin v { s with heap := h', toks := tk }
  next : ∀ j x (s : Shared) (o : Obj) (Q : Option Value → Shared → Prop) (E : Value → Shared → Prop), j < n → Pst j x s → s.heap.get? S = some o → (∀ v s', Itm j x v s' → s'.heap.get? S = some o → Q (some v) s') → wpAny (model prog w) A (pyNext (.ref I)) Q E s
  done : ∀ v kb (s : Shared) (o : Obj) (Q : Option Value → Shared → Prop) (E : Value → Shared → Prop), Pst n (some (v, kb)) s → s.heap.get? S = some o → (∀ s', Fin v s' → s'.heap.get? S = some o → Q none s') → wpAny (model prog w) A (pyNext (.ref I)) Q E s
  turn : ∀ j x v (s : Shared) (o : Obj) (Q : Value → Shared → Prop) (E : Value → Shared → Prop), j < n → (∀ z, o.data ≠ .cell z) → Itm j x v s → s.heap.get? S = some o →
    (∀ kx s', Mid j x v kx s' → s'.heap.get? S = some o → Q kx s') → wpAny (model prog w) A (call (.ref q) [v]) Q E s
  cmp : ∀ j vb kb v kx (s : Shared) (Q : Value → Shared → Prop) (E : Value → Shared → Prop), j < n → Mid j (some (vb, kb)) v kx s → (∀ bb : Bool, (bb = true → Pst (j + 1) (some (v, kx)) s) → (bb = false → Pst (j + 1) (some (vb, kb)) s) → Q (.bool bb) s) → wpAny (model prog w) A (richCompare .Lt kx kb) Q E s
  first : ∀ v kx s, Mid 0 none v kx s → Pst 1 (some (v, kx)) s
variable {Fin : Value → Shared → Prop} {Pst : Nat → Option (Value × Value) → Shared → Prop} {Itm : Nat → Option (Value × Value) → Value → Shared → Prop} {Mid : Nat → Option (Value × Value) → Value → Value → Shared → Prop}
theorem minP_loop (M : MinRun prog w A.in1 I q S n Pst Itm Mid Fin) (kw : List (Str × Value)) :
    ∀ (k j : Nat) (s : Shared) (vb kb : Value) (c : Nat), n - j = k → j ≤ n → Pst j (some (vb, kb)) s → s.heap.get? S = some { cls := .type "list", dict := none, data := .seq #[vb, kb] c, slots := #[] } →
    (∀ v s', Fin v s' → R (.ok (.ret v)) s') → codeAny (model prog w) A (.builtin "min.loop" ⟨[.ref I, (.ref q), .ref S], kw⟩) R s := by
  have nm : (toString "min" ++ toString ".loop" : String) = "min.loop" := by decide
  intro k
  induction k with
  | zero =>
    intro j s vb kb c hk hj hp hS hR
    have en : j = n := by omega
    subst en
    refine codeAny_builtin F.entry_min_loop ?_; rw [Around.under_plainId F.plain_min_loop _]
    refine show wpAny _ A.in1 (seqItems? (.ref S) >>= _) _ _ s from wpAny_bind (wpAny_seqItems hS rfl ?_)
    refine show wpAny _ A.in1 (tryCatch (pyNext (.ref I)) _ >>= _) _ _ s from wpAny_bind (wpAny_tryCatch (M.done _ _ s _ _ _ hp hS fun s' hp' hS' => ?_))
    refine show wpAny _ A.in1 (updateSeq S (fun _ => #[]) >>= _) _ _ _ from wpAny_bind (wpAny_updateSeq hS' rfl (wpAny_bind (wpAny_letGo (wpAny_pure ?_))))
    exact hR vb _ (M.upF _ _ _ s'.toks hp' fun b o z e => (Heap.get?_update_other _ _ (fun y => z y.symm)).trans e)
  | succ k ih =>
    intro j s vb kb c hk hj hp hS hR
    have lt : j < n := by omega
    refine codeAny_builtin F.entry_min_loop ?_; rw [Around.under_plainId F.plain_min_loop _]
    refine show wpAny _ A.in1 (seqItems? (.ref S) >>= _) _ _ s from wpAny_bind (wpAny_seqItems hS rfl ?_)
    refine show wpAny _ A.in1 (tryCatch (pyNext (.ref I)) _ >>= _) _ _ s from wpAny_bind (wpAny_tryCatch (M.next j _ s _ _ _ lt hp hS fun v s' hi hS' => ?_))
    refine show wpAny _ A.in1 (tryCatch (holding [v] (call (.ref q) [v])) _ >>= _) _ _ _ from wpAny_bind (wpAny_tryCatch (wpAny_holding (M.turn j _ v s' _ _ _ lt (fun z y => by cases y) hi hS' fun kx s2 md hS2 => ?_)))
    refine show wpAny _ A.in1 (tryCatch (holding [v, kx] (richCompare .Lt kx kb >>= _)) _ >>= _) _ _ _ from wpAny_bind (wpAny_tryCatch (wpAny_holding (wpAny_bind (M.cmp j vb kb v kx s2 _ _ lt md fun bb p1 p2 => ?_))))
    refine wpAny_bind (wpAny_holding (wpAny_truthy_bool (wpAny_bind (wpAny_letGo (wpAny_pure ?_)))))
    cases bb with
    | true =>
      simp only [if_true]
      refine wpAny_bind (wpAny_updateSeq hS2 rfl (wpAny_bind (wpAny_letGo ?_)))
      rw [nm]
      exact wpAny_pure ⟨plainId_quiet F.plain_min_loop _, ih (j + 1) _ v kx _ (by omega) lt (M.up _ _ _ _ s2.toks (p1 rfl) fun b o z e => (Heap.get?_update_other _ _ (fun y => z y.symm)).trans e) (Heap.get?_update_self _ hS2 rfl) hR⟩
    | false =>
      simp only [Bool.false_eq_true, if_false]
      refine wpAny_bind (wpAny_letGo ?_)
      rw [nm]
      exact wpAny_pure ⟨plainId_quiet F.plain_min_loop _, ih (j + 1) _ vb kb c (by omega) lt (p2 rfl) hS2 hR⟩
theorem minP_first (M : MinRun prog w A.in1 I q S n Pst Itm Mid Fin) (kw : List (Str × Value)) (hn : 0 < n) {s : Shared} {c : Nat} (hp : Pst 0 none s) (hS : s.heap.get? S = some { cls := .type "list", dict := none, data := .seq #[] c, slots := #[] })
    (hR : ∀ v s', Fin v s' → R (.ok (.ret v)) s') : codeAny (model prog w) A (.builtin "min.loop" ⟨[.ref I, (.ref q), .ref S], kw⟩) R s := by
  have nm : (toString "min" ++ toString ".loop" : String) = "min.loop" := by decide
  refine codeAny_builtin F.entry_min_loop ?_; rw [Around.under_plainId F.plain_min_loop _]
  refine show wpAny _ A.in1 (seqItems? (.ref S) >>= _) _ _ s from wpAny_bind (wpAny_seqItems hS rfl ?_)
  refine show wpAny _ A.in1 (tryCatch (pyNext (.ref I)) _ >>= _) _ _ s from wpAny_bind (wpAny_tryCatch (M.next 0 _ s _ _ _ hn hp hS fun v s' hi hS' => ?_))
  refine show wpAny _ A.in1 (tryCatch (holding [v] (call (.ref q) [v])) _ >>= _) _ _ _ from wpAny_bind (wpAny_tryCatch (wpAny_holding (M.turn 0 _ v s' _ _ _ hn (fun z y => by cases y) hi hS' fun kx s2 md hS2 => ?_)))
  refine show wpAny _ A.in1 (updateSeq S (fun _ => #[v, kx]) >>= _) _ _ _ from wpAny_bind (wpAny_updateSeq hS2 rfl ?_)
  rw [nm]
  exact wpAny_pure ⟨plainId_quiet F.plain_min_loop _, minP_loop M kw _ 1 _ v kx _ rfl hn (M.up _ _ _ _ s2.toks (M.first _ _ _ md) fun b o z e => (Heap.get?_update_other _ _ (fun y => z y.symm)).trans e) (Heap.get?_update_self _ hS2 rfl) hR⟩
end
section
variable {prog : Program} {w : World} {A : Around} {E : Value → Shared → Prop} {s : Shared}
/-- min(x, key=f) -/
theorem minP {x : Value} {q : Addr} {Q : Value → Shared → Prop}
    (h : wpAny (model prog w) A.in1 (pyIter x) (fun it s₂ => ∃ (I : Addr) (n : Nat) (Pst : Nat → Option (Value × Value) → Shared → Prop) (Itm : Nat → Option (Value × Value) → Value → Shared → Prop) (Mid : Nat → Option (Value × Value) → Value → Value → Shared → Prop) (Fin : Value → Shared → Prop),
      it = .ref I ∧ 0 < n ∧ MinRun prog w A.in1 I q s₂.heap.objs.size n Pst Itm Mid Fin ∧ Pst 0 none { s₂ with heap := s₂.heap.push { cls := .type "list", data := .seq #[] 0 }, toks := s₂.toks } ∧ ∀ v s', Fin v s' → Q v s') E s) :
    wpAny (model prog w) A (call (.builtin "min") [x] [(Str.ofString "key", .ref q)]) Q E s := by
  have nm : (toString "min" ++ toString ".loop" : String) = "min.loop" := by decide
  refine PyProof.Rows.kmk_tree F.kind_min F.plain_min F.entry_min (PyProof.Rows.kmk_min_key _ _) ?_
  refine show wpAny _ A.in1 (Builtin.Builtins.bindParams "min" ["key", "default"] 0 ⟨[], [(Str.ofString "key", .ref q)]⟩ >>= _) _ _ s from wpAny_bind (wpAny_of_eq (show Builtin.Builtins.bindParams "min" ["key", "default"] 0 ⟨[], [(Str.ofString "key", .ref q)]⟩ = pure [some (.ref q), none] from rfl) ?_)
  refine wpAny_bind (wpAny_pure (wpAny_bind (wpAny_mono h (fun it s₂ h₂ => ?_) fun _ _ e => e)))
  obtain ⟨I, n, Pst, Itm, Mid, Fin, rfl, hn, M, h0, hQ⟩ := h₂
  refine wpAny_bind (wpAny_newObj_type ?_)
  rw [nm]
  exact wpAny_pure ⟨plainId_quiet F.plain_min_loop _, minP_first M _ hn h0 (Heap.get?_push_size _ rfl) hQ⟩
end
end PySem

/-! Mirc: min(list, key=lambda x: ..). -/
namespace Mir
open PySem PySem.Spec PyProof.Rows L2
open PySem.W (alikeAll alike keyToksAll dataLt dataLt_all_yes dataLt_all_no dataLt_int dataLt_tuple rcLt_alike)

/-! ### keys: ints, tuples of ints, (int, tuple of ints) -/
def isIK : D → Bool
  | .tup [.int _, t] => isIT t
  | _ => false
def kOk (a b : D) : Bool := match cmpAll [a, b] with
  | true => true
  | false => match isIK a with
    | true => isIK b
    | false => false
def klt : D → D → Bool
  | .tup [.int i, .tup x], .tup [.int j, .tup y] => match intEq i j with
    | true => ltT x y
    | false => decide (i < j)
  | a, b => dlt a b
theorem isIK_ex {d : D} (h : isIK d = true) : ∃ i x, d = .tup [.int i, .tup x] ∧ allL isI x = true := by
  unfold isIK at h
  split at h
  · obtain ⟨ds, rfl, h⟩ := isIT_ex h
    exact ⟨_, ds, rfl, h⟩
  · cases h
theorem shal_isI {x : List D} (n : Nat) (h : allL isI x = true) : allL (shal n) x = true := by
  induction x with
  | nil => rfl
  | cons y r ih =>
    obtain ⟨h1, h2⟩ := allL_cons h
    obtain ⟨i, rfl⟩ := isI_ex h1
    unfold allL
    have e : shal n (.int i) = true := by cases n <;> rfl
    rw [e]
    exact ih h2
theorem kOk_ok {a b : D} (h : kOk a b = true) : dataLt (pdOf a) (pdOf b) = klt a b ∧ alike (pdOf a) (pdOf b) = true ∧ pdOf a ≠ .none ∧ (pdOf a).depth ≤ 2 ∧ shal 12 a = true ∧ shal 12 b = true := by
  unfold kOk at h
  split at h
  · rename_i hc
    obtain ⟨h1, h2, h3⟩ := dlt_all hc a List.mem_cons_self b (by simp)
    have sh := shal_cmp hc
    have dep := dep_cmp hc
    obtain ⟨s1, s2⟩ := allL_cons sh
    obtain ⟨s2, _⟩ := allL_cons s2
    refine ⟨?_, h2, h3, ?_, s1, s2⟩
    · rw [h1]
      unfold klt
      split
      · rename_i i x j y
        rcases cmpAll_cases hc with z | z
        · have := z _ List.mem_cons_self
          cases this
        · have := z _ List.mem_cons_self
          cases this
      · rfl
    · simp only [pdAll, PyData.depthAll] at dep
      omega
  · split at h
    · rename_i ha
      obtain ⟨i, x, rfl, hx⟩ := isIK_ex ha
      obtain ⟨j, y, rfl, hy⟩ := isIK_ex h
      have ai : alike (pdOf (.int i)) (pdOf (.int j)) = true := rfl
      have at' : alike (pdOf (.tup x)) (pdOf (.tup y)) = true := by
        simp only [pdOf, alike]
        exact alike_isI hx hy
      have ev : PyData.eqv (pdOf (.int i)) (pdOf (.int j)) = intEq i j := by rw [intEq_beq]; simp [pdOf, PyData.eqv]
      refine ⟨?_, ?_, fun z => (by cases z), ?_, ?_, ?_⟩
      · show dataLt (.tuple (pdAll [.int i, .tup x])) (.tuple (pdAll [.int j, .tup y])) = _
        rw [dataLt_tuple]
        unfold klt
        simp only [pdAll]
        split
        · rename_i e
          rw [dataLt_all_yes ai (ev.trans e)]
          cases e2 : PyData.eqv (pdOf (.tup x)) (pdOf (.tup y)) with
          | false =>
            rw [dataLt_all_no at' e2]
            exact (dataLt_tuple _ _).trans (ltT_eq hx hy)
          | true =>
            have t1 := (PySem.W.toks_eqv _ _ at').1 e2
            simp only [pdOf, PySem.W.keyToks] at t1
            rw [dataLt_all_yes at' e2, ← ltT_eq hx hy, t1, lex_irrefl (O := itemOrd), lex_irrefl (O := itemOrd)]
        · rename_i e
          rw [dataLt_all_no ai (ev.trans e)]
          exact dataLt_int i j
      · show alikeAll (pdAll [.int i, .tup x]) (pdAll [.int j, .tup y]) = true
        simp only [pdAll, alikeAll, ai, at', Bool.true_and]
      · simp only [pdOf, pdAll, PyData.depth, PyData.depthAll, dep_isI hx]
        omega
      · show allL (shal 11) [.int i, .tup x] = true
        show (match allL (shal 10) x with | true => true | false => false) = true
        rw [shal_isI 10 hx]
      · show allL (shal 11) [.int j, .tup y] = true
        show (match allL (shal 10) y with | true => true | false => false) = true
        rw [shal_isI 10 hy]
    · cases h

/-! ### the mirror -/
def pick : Option (D × D) → D → D → Option (D × D)
  | none, d, k => some (d, k)
  | some (db, kb), d, k => match kOk k kb with
    | true => match klt k kb with
      | true => some (d, k)
      | false => some (db, kb)
    | false => none
def minKE : Option (D × D) → Hs → Option (D × Hs)
  | none, _ => none
  | some (d, _), hs => some (d, hs)
def minKG (fk : EM) (i : Nat) (ρ : En) : List D → Option (D × D) → Hs → Option (D × Hs)
  | [], b, hs => minKE b hs
  | d :: ds, b, hs => match fk (put ρ i (some d)) hs with
    | some (k, hs1) => match pick b d k with
      | some p => minKG fk i ρ ds (some p) hs1
      | none => none
    | none => none
def mMinK (fe fk : EM) (i : Nat) : EM := fun ρ hs => match fe ρ hs with
  | some (.ref j, hs1) => match Nat.ble hs.length j, at? hs1 j with
    | true, some (.lst ds) => match allL (shal 12) ds with
      | true => minKG fk i (wipeE ρ [i]) ds none hs
      | false => none
    | _, _ => none
  | _ => none
theorem minKG_cons {fk : EM} {i : Nat} {ρ : En} {b : Option (D × D)} {d : D} {ds : List D} {hs hs' : Hs} {r : D} (h : minKG fk i ρ (d :: ds) b hs = some (r, hs')) : ∃ k hs1 p, fk (put ρ i (some d)) hs = some (k, hs1) ∧ pick b d k = some p ∧ minKG fk i ρ ds (some p) hs1 = some (r, hs') := by
  unfold minKG at h
  split at h
  · rename_i e1
    split at h
    · rename_i e2
      exact ⟨_, _, _, e1, e2, h⟩
    · cases h
  · cases h
theorem minKG_grows {fk : EM} [q : QE fk] {i : Nat} {ρ : En} : ∀ {ds : List D} {b : Option (D × D)} {hs hs' : Hs} {r : D}, minKG fk i ρ ds b hs = some (r, hs') → Grows hs hs'
  | [], none, _, _, _, h => by cases h
  | [], some _, _, _, _, h => by cases h; exact .refl
  | d :: ds, b, hs, hs', r, h => by
    obtain ⟨k, hs1, p, e1, _, e3⟩ := minKG_cons h
    exact (q.q _ _ _ _ e1).trans (minKG_grows e3)
instance {fe fk : EM} {i : Nat} [b : QE fk] : QE (mMinK fe fk i) := ⟨fun ρ hs d hs' h => by
  unfold mMinK at h
  split at h
  · split at h
    · split at h
      · exact minKG_grows h
      · cases h
    · cases h
  · cases h⟩
theorem pick_some {db kb d k : D} {p : D × D} (h : pick (some (db, kb)) d k = some p) : kOk k kb = true ∧ ((klt k kb = true ∧ p = (d, k)) ∨ (klt k kb = false ∧ p = (db, kb))) := by
  unfold pick at h
  split at h
  · rename_i e
    cases e
  · rename_i e
    cases e
    split at h
    · rename_i e1
      split at h
      · rename_i e2
        cases h
        exact ⟨e1, .inl ⟨e2, rfl⟩⟩
      · rename_i e2
        cases h
        exact ⟨e1, .inr ⟨e2, rfl⟩⟩
    · cases h
/-- the best of what is seen -/
inductive BestR (K : PySem.W.Frag) (H : Hp) (m : List Addr) : Option (D × D) → Option (Value × Value) → Prop where
  | non : BestR K H m none none
  | one {d k : D} {x y : V} {v u : Value} : Rep K H m d x → RelV x v → Rep K H m k y → RelV y u → BestR K H m (some (d, k)) (some (v, u))
theorem BestR.nx {G : GX} {hs : Hs} {H H' : Hp} {m m' : List Addr} {b : Option (D × D)} {w : Option (Value × Value)} (h : BestR G.K H m b w) (hr : HR G m hs H) (n : Nx m H m' H') : BestR G.K H' m' b w := by
  cases h with
  | non => exact .non
  | one a b c d => exact .one (a.nx hr n) b (c.nx hr n) d
section
variable {X : Cx} {tb : TBs}
/-- what is known between the turns -/
def MinPst (X : Cx) (tb : TBs) (pins : List (Addr × Obj)) (σ : L2.St) (I S a : Addr) (m0 : List Addr) (H0 : Hp) (fk : EM) (i : Nat) (ρ : En) (ds : List D) (r : D) (hs2 : Hs) (j : Nat) (w : Option (Value × Value)) (s : Shared) : Prop :=
  ∃ (H : Hp) (m : List Addr) (hs : Hs) (b : Option (D × D)), L2.Inv X pins σ H s ∧ FpOk X pins H I ∧ FpOk X pins H S ∧ s.heap.IsListIter I a j ∧ Nx m0 H0 m H ∧ HR (GO X tb) m hs H ∧ minKG fk i ρ (ds.drop j) b hs = some (r, hs2) ∧ BestR X.K H m b w
def MinItm (X : Cx) (tb : TBs) (pins : List (Addr × Obj)) (σ : L2.St) (I S a : Addr) (m0 : List Addr) (H0 : Hp) (fk : EM) (i : Nat) (ρ : En) (ds : List D) (r : D) (hs2 : Hs) (j : Nat) (w : Option (Value × Value)) (v : Value) (s : Shared) : Prop :=
  ∃ (H : Hp) (m : List Addr) (hs : Hs) (b : Option (D × D)) (d : D) (x : V), L2.Inv X pins σ H s ∧ FpOk X pins H I ∧ FpOk X pins H S ∧ s.heap.IsListIter I a (j + 1) ∧ Nx m0 H0 m H ∧ HR (GO X tb) m hs H ∧ minKG fk i ρ (d :: ds.drop (j + 1)) b hs = some (r, hs2) ∧ BestR X.K H m b w ∧ Rep X.K H m d x ∧ RelV x v
def MinMid (X : Cx) (tb : TBs) (pins : List (Addr × Obj)) (σ : L2.St) (I S a : Addr) (m0 : List Addr) (H0 : Hp) (fk : EM) (i : Nat) (ρ : En) (ds : List D) (r : D) (hs2 : Hs) (j : Nat) (w : Option (Value × Value)) (v u : Value) (s : Shared) : Prop :=
  ∃ (H : Hp) (m : List Addr) (hs : Hs) (b : Option (D × D)) (d k : D) (x y : V) (p : D × D), L2.Inv X pins σ H s ∧ FpOk X pins H I ∧ FpOk X pins H S ∧ s.heap.IsListIter I a (j + 1) ∧ Nx m0 H0 m H ∧ HR (GO X tb) m hs H ∧ pick b d k = some p ∧ minKG fk i ρ (ds.drop (j + 1)) (some p) hs = some (r, hs2) ∧ BestR X.K H m b w ∧ Rep X.K H m d x ∧ RelV x v ∧ Rep X.K H m k y ∧ RelV y u
def MinFin (X : Cx) (tb : TBs) (pins : List (Addr × Obj)) (σ : L2.St) (S : Addr) (m0 : List Addr) (H0 : Hp) (r : D) (hs2 : Hs) (v : Value) (s : Shared) : Prop :=
  ∃ (H : Hp) (m : List Addr) (x : V), L2.Inv X pins σ H s ∧ FpOk X pins H S ∧ Nx m0 H0 m H ∧ HR (GO X tb) m hs2 H ∧ Rep X.K H m r x ∧ RelV x v
/-- min(e, key=lambda x: body) -/
theorem m_minK {fe fk : EM} [qf : QE fe] {k i : Nat} {x : Str} {c P : Addr} {e body : Expr} {params : Arguments} {scope : Scope} {p pos lpos kpos : Pos} (hcm : X.calm = true) (hr : Room (k + 4) X.A) (hu : X.A.units + 64 < cLine) (hN : X.N.Nodup) (hi : X.N[i]? = some x) (hg : Gl X "min") (hm : X.mg "min" = none)
    (TQ : LamX.TabB X.base X.mg c P) (hcode : X.env.code = .ref c) (hPl : (P, X.env.qual ++ "<lambda>") ∈ tb.l) (L : LamS1 X.env.scope scope x) (he : PE X e (TM (GO X tb) fe))
    (hbody : ∀ (s : Shared) (H : Hp) (L f c' : Addr) (A' : Around), Room k A' → PE (X.gx s H (LamX.lamEnv X scope L f c') [] A') body (TM (GO X tb) fk))
    (hbind : ∀ (q : Str) (cl : List (Str × Addr)) (pm cv ctv u : Value), bindArgs (PySem.W.kla_fn "<lambda>" q params body scope cl pm cv ctv) ⟨[u], []⟩ = pure [(x, u)] := by intro _ _ _ _ _ _; rfl)
    (hdef : defaultsOf params X.env = ([], []) := by rfl) (na : starEach [e] X.env = (false, eval e X.env) :: starEach [] X.env := by rfl) 
    (hx : backTo pos (starEach [e] X.env) = (false, eval e X.env) :: backTo pos (starEach [] X.env) := by rfl) (hpl : (backTo pos (starEach [e] X.env)).any (·.1) = false := by rfl)
    (hall : (backToKw pos (keywordEach [⟨some "key", .Lambda params body scope lpos, kpos⟩] X.env)).all (·.1.isSome) = true := by rfl) (hnone : (backToKw pos (keywordEach [⟨some "key", .Lambda params body scope lpos, kpos⟩] X.env)).any (·.1.isNone) = false := by rfl)
    (hks : (backToKw pos (keywordEach [⟨some "key", .Lambda params body scope lpos, kpos⟩] X.env)).filterMap (·.1) = [("key" : Str)] := by rfl) :
    PE X (.Call (.Name "min" p) [e] [⟨some "key", .Lambda params body scope lpos, kpos⟩] pos) (TM (GO X tb) (mMinK fe fk i)) := by
  refine ⟨fun pins s σ H Q I h => ?_⟩
  obtain ⟨ρ, hs, m, sl, hr0, r, hs', ee, fin⟩ := h
  unfold mMinK at ee
  split at ee
  · rename_i j hs1 e1
    split at ee
    · rename_i ds hb e2
      split at ee
      · rename_i sd
        refine wpAny_Call_Name_kw (ld_blt I hg hm (by rfl) ?_ (by decide) (by decide))
        refine PyProof.Rows.callWith_kw (thn ((pa_cons he pa_nil na).run pos pins s σ H (fun vs H1 => ∃ v m1, vs = [v] ∧ Nx m H m1 H1 ∧ HR (GO X tb) m1 hs1 H1 ∧ Rep X.K H1 m1 (.ref j) v) I ⟨ρ, hs, m, sl, hr0, _, _, e1, fun v H1 m1 n1 hr1 rv => ⟨v, m1, rfl, n1, hr1, rv⟩⟩) fun us s1 ⟨vs, H1, I1, r1, v1, m1, ev, n1, hr1, rv1⟩ => ?_) hx hpl hall hnone
        subst ev
        refine thn ((pk_cons (m_lam (pos := lpos) TQ hcode hPl hdef L) pk_nil).run pos pins s1 σ H1 (fun zs H2 => ∃ (f c' : Addr) (pm ctv : Value), zs = [V.ref f] ∧ Nx m1 H1 m1 H2 ∧ HR (GO X tb) m1 hs1 H2 ∧ H2 f = some (.frz (lamO X params body scope pm c' ctv) (.ext fun _ => True)) ∧ CodeF H2 c' (X.env.qual ++ "<lambda>")) I1
          ⟨hs1, m1, hr1, fun f c' pm ctv H2 n2 hr2 hf hc => ⟨f, c', pm, ctv, rfl, n2, hr2, hf, hc⟩⟩) fun ws s2 ⟨zs, H2, I2, r2, f, c', pm, ctv, ez, n2, hr2, hf, hc⟩ => ?_
        subst ez
        rw [hks]
        cases rv1 with
        | ref el =>
        rename_i l
        rw [Vals.ref1 r1, Vals.ref1 r2]
        obtain ⟨xs, hxs, rx⟩ := hr2.lst el e2
        obtain ⟨t, rfl⟩ := qf.q _ _ _ _ e1
        have n12 := n1.trans n2
        have hrc : HR (GO X tb) m hs H2 := hr0.cut n12 hr2
        have hlm : l ∉ m := fun z => by
          obtain ⟨j', hj, ej⟩ := List.getElem_of_mem z
          have e3 : m[j']? = some l := by rw [List.getElem?_eq_getElem hj, ej]
          have e4 := n12.ix e3
          obtain ⟨h1, q1⟩ := List.getElem?_eq_some_iff.mp el
          obtain ⟨h2, q2⟩ := List.getElem?_eq_some_iff.mp (n1.ix e3)
          have e5 := (List.getElem_inj hr1.nd).mp (q1.trans q2.symm)
          have hb' := Nat.le_of_ble_eq_true hb
          rw [← hr0.len] at hb'
          omega
        have rxc := pure_reps (Rep.pure 12) sd rx m
        have lx := rx.length
        obtain ⟨its, rv, hl, hz⟩ := I2.list (.of hxs)
        have lv := rv.length
        have esz : (s2.heap.push { cls := .type "list_iterator", data := .fields #[.ref l, .int 0 0] }).objs.size = s2.heap.objs.size + 1 := by simp [Heap.push]
        have fpI : FpOk X pins H2 s2.heap.objs.size := I2.fpOk (Nat.le_refl _) (I2.hok.fresh (Nat.le_refl _))
        have fpS : FpOk X pins H2 (s2.heap.objs.size + 1) := I2.fpOk (Nat.le_succ _) (I2.hok.fresh (Nat.le_succ _))
        have pos0 : 0 < ds.length := by
          cases ds with
          | nil => simp [minKG, minKE] at ee
          | cons d ds => simp
        have hlist : ∀ {m' : List Addr} {H' : Hp}, Nx m H2 m' H' → SqL X.K H' l xs := fun n => .of (n.keep l _ hxs hlm (fun _ z => by cases z))
        refine PySem.minP (wpAny_pyIter_list hl.isList ⟨s2.heap.objs.size, ds.length, MinPst X tb pins σ s2.heap.objs.size (s2.heap.objs.size + 1) l m H2 fk i (wipeE ρ [i]) ds r hs', MinItm X tb pins σ s2.heap.objs.size (s2.heap.objs.size + 1) l m H2 fk i (wipeE ρ [i]) ds r hs', MinMid X tb pins σ s2.heap.objs.size (s2.heap.objs.size + 1) l m H2 fk i (wipeE ρ [i]) ds r hs', MinFin X tb pins σ (s2.heap.objs.size + 1) m H2 r hs', rfl, pos0, ?_, ?_, ?_⟩)
        · show PySem.MinRun _ _ _ _ _ ((s2.heap.push _).objs.size) _ _ _ _ _
          rw [esz]
          refine ⟨?_, ?_, ?_, ?_, ?_, ?_, ?_⟩
          · rintro j w s' h' tk ⟨H', m', hsi, b, I', fI, fS, it, n', hr', er, br⟩ kk
            refine ⟨H', m', hsi, b, I'.off (ch := [s2.heap.objs.size + 1]) (fun b hb => ?_) (fun b o hb e => kk b o (fun z => hb (by simp [z])) e), fI, fS, it.at fun o e => kk _ o (Nat.ne_of_lt (Nat.lt_succ_self _)) e, n', hr', er, br⟩
            rw [List.mem_singleton.mp hb]; exact fS
          · rintro v s' h' tk ⟨H', m', x', I', fS, n', hr', ra, rb⟩ kk
            refine ⟨H', m', x', I'.off (ch := [s2.heap.objs.size + 1]) (fun b hb => ?_) (fun b o hb e => kk b o (fun z => hb (by simp [z])) e), fS, n', hr', ra, rb⟩
            rw [List.mem_singleton.mp hb]; exact fS
          · rintro j w s' o Q' E' hj ⟨H', m', hsi, b, I', fI, fS, it, n', hr', er, br⟩ hS hQ
            obtain ⟨its', rv', hl', hz'⟩ := I'.list (hlist n')
            have hjx : j < xs.length := by omega
            obtain ⟨v, hv, rvv⟩ := rv'.get (List.getElem?_eq_getElem hjx)
            obtain ⟨d0, hd0, rdd⟩ := rxc.get' (List.getElem?_eq_getElem hjx)
            have hjd : j < ds.length := hj
            have ed : d0 = ds[j] := by
              rw [List.getElem?_eq_getElem hjd] at hd0; exact (Option.some.inj hd0).symm
            rw [List.drop_eq_getElem_cons hjd, ← ed] at er
            refine wpAny_pyNext_list_item it hl'.isList (x := v) (by simpa using hv) fun h' st' sb => ?_
            refine hQ v { s' with heap := h' } ⟨H', m', hsi, b, d0, xs[j], I'.turned (t' := s'.toks) (fun b o hb e => (sb.2 b hb).trans e) fI.1 fI.2.1 fI.2.2.2.1 fI.2.2.2.2.1 fI.2.2.2.2.2, fI, fS, st', n', hr', er, br, rdd.nx hrc n', rvv⟩ ((sb.2 _ (Nat.succ_ne_self _)).trans hS)
          · rintro v kb s' o Q' E' ⟨H', m', hsi, b, I', fI, fS, it, n', hr', er, br⟩ hS hQ
            obtain ⟨its', rv', hl', hz'⟩ := I'.list (hlist n')
            have lv' := rv'.length
            rw [List.drop_of_length_le (Nat.le_refl _)] at er
            cases br with
            | one ra rb rc rd =>
              cases er
              refine wpAny_pyNext_list_end (A := X.A.in1) (I'.ok.hd hcm) it hl'.isList (by simp; omega) fun h' eb => ?_
              exact hQ { s' with heap := h' } ⟨H', m', _, I'.turned (t' := s'.toks) (fun b o hb e => eb b o hb e) fI.1 fI.2.1 fI.2.2.2.1 fI.2.2.2.2.1 fI.2.2.2.2.2, fS, n', hr', ra, rb⟩ (eb _ _ (Nat.succ_ne_self _) hS)
          · rintro j w v s' o Q' E' hj nc ⟨H', m', hsi, b, d, x', I', fI, fS, it, n', hr', er, br, rd, rvv⟩ hS hQ
            obtain ⟨oI, eI, cI, dI⟩ := id it
            obtain ⟨k0, hsj, p', ek, pk, er2⟩ := minKG_cons er
            have I3 : L2.Inv X (pins ++ [(s2.heap.objs.size + 1, o), (s2.heap.objs.size, oI)]) σ H' s' := I'.pins_of fun pp hp => by
              rcases List.mem_append.mp hp with hp | hp
              · exact I'.pin pp (List.mem_append_right _ hp)
              · rcases List.mem_cons.mp hp with rfl | hp
                · exact ⟨hS, fS.1, fS.2.1, fS.2.2.1, nc⟩
                · rw [List.mem_singleton.mp hp]
                  exact ⟨eI, fI.1, fI.2.1, fI.2.2.1, fun v z => by rw [dI] at z; cases z⟩
            have hf' := n'.keep f _ hf (hrc.no_frz hf) (fun ps z => by cases z)
            have hc' : CodeF H' c' (X.env.qual ++ "<lambda>") := by
              obtain ⟨oc, u, vs, t, g1, g2⟩ := hc
              exact ⟨oc, u, vs, t, n'.keep c' _ g1 (hrc.no_frz g1) (fun ps z => by cases z), g2⟩
            refine wpAny_mono (lam_call1 (k := k) (A' := X.A.in1) I3 L hN hi rvv ((hr.in1).mono (by omega)) I'.ok.frames hf' hc' hbind hbody
              (Q := fun y H'' => ∃ m'', Nx m' H' m'' H'' ∧ HR (GO X tb) m'' hsj H'' ∧ Rep X.K H'' m'' k0 y)
              ⟨put (wipeE ρ [i]) i (some d), hsi, m', (((sl.nx hr0 n12.cut).nx hrc n').wipe [i]).set rd i, hr', _, _, ek, fun y H'' m'' n'' hr'' ry => ⟨m'', n'', hr'', ry⟩⟩) (fun r' s'' hq => ?_) fun _ _ z => z.elim
            obtain ⟨y, H'', I4, ry, m'', n'', hr'', rk⟩ := hq
            have p1 := I4.pin (s2.heap.objs.size + 1, o) (by simp)
            have p2 := I4.pin (s2.heap.objs.size, oI) (by simp)
            exact hQ r' s'' ⟨H'', m'', hsj, b, d, k0, x', y, p', I4.unpinned, ⟨p2.2.1, fI.2⟩, ⟨p1.2.1, fS.2⟩, ⟨oI, p2.1, cI, dI⟩, n'.trans n'', hr'', pk, er2, br.nx hr' n'', rd.nx hr' n'', rvv, rk, ry⟩ p1.1
          · rintro j vb kb v kx s' Q' E' hj ⟨H', m', hsi, b, d, k0, x', y', p', I', fI, fS, it, n', hr', pk, er, br, rd, rv, rk, ru⟩ hQ
            cases br with
            | one ra rb rc rd' =>
              rename_i db kd xb yb
              obtain ⟨hk, hp⟩ := pick_some pk
              obtain ⟨o1, o2, o3, o4, o5, o6⟩ := kOk_ok hk
              obtain ⟨as, r1⟩ := Dp.reads I' _ _ _ (dp_of 12 _ _ o5 rk) ru
              obtain ⟨bs, r2⟩ := Dp.reads I' _ _ _ (dp_of 12 _ _ o6 rc) rd'
              have au : X.A.in1.units + min (pdOf k0).depth (pdOf kd).depth < cLine := by
                have : X.A.in1.units ≤ X.A.units + 1 := by first | exact Nat.le_refl _ | simp [Around.in1, Around.units]
                omega
              have rc' := rcLt_alike _ _ X.A.in1 s' kx kb as bs r1 r2 o2 o3 au
              refine rc' _ _ _ _ ?_
              rw [o1]
              refine hQ _ (fun z => ?_) fun z => ?_
              · rcases hp with ⟨e, rfl⟩ | ⟨e, rfl⟩
                · exact ⟨H', m', hsi, _, I', fI, fS, it, n', hr', er, .one rd rv rk ru⟩
                · rw [e] at z; cases z
              · rcases hp with ⟨e, rfl⟩ | ⟨e, rfl⟩
                · rw [e] at z; cases z
                · exact ⟨H', m', hsi, _, I', fI, fS, it, n', hr', er, .one ra rb rc rd'⟩
          · rintro v kx s' ⟨H', m', hsi, b, d, k0, x', y', p', I', fI, fS, it, n', hr', pk, er, br, rd, rv, rk, ru⟩
            cases br
            cases pk
            exact ⟨H', m', hsi, _, I', fI, fS, it, n', hr', er, .one rd rv rk ru⟩
        · refine ⟨H2, m, hs, none, ?_, fpI, fpS, ?_, .refl, hrc, ee, .non⟩
          · exact I2.kept fun b o e => Heap.get?_push_of_some _ (Heap.get?_push_of_some _ e)
          · exact ⟨_, Heap.get?_push_of_some _ (Heap.get?_push_size _ rfl), rfl, rfl⟩
        · rintro v s' ⟨H', m', x', I', fS, n', hr', ra, rb⟩
          exact ⟨x', H', I', rb, fin _ _ _ ((n12.cut).trans n') hr' ra⟩
      · cases ee
    · cases ee
  · cases ee
end
end Mir

/-! Mird: x in a tuple of texts that a global name holds. -/
namespace Mir
open PySem PySem.Spec PyProof.Rows L2
def xorB : Bool → Bool → Bool
  | true, b => match b with
    | true => false
    | false => true
  | false, b => b
def inG (neg : Bool) (zs : List Str) : F1 := fun d hs => match d with
  | .str s => match shal 12 (.str s), allL (shal 12) (zs.map D.str) with
    | true, true => some (.bl (xorB neg (inL (.str s) (zs.map D.str))), hs)
    | _, _ => none
  | _ => none
instance {neg : Bool} {zs : List Str} : Q1 (inG neg zs) := ⟨fun d hs r hs' h => by
  unfold inG at h
  split at h
  · split at h
    · cases h; exact .refl
    · cases h
  · cases h⟩
theorem repsT {K : PySem.W.Frag} {H : Hp} {m : List Addr} : ∀ zs : List Str, Reps K H m (zs.map D.str) (zs.map V.str)
  | [] => .nil
  | z :: zs => .cons (.str z) (repsT zs)
theorem tm_inG {G : GX} {a : Addr} {neg : Bool} {zs : List Str} {fa : EM} {σ : L2.St} {H : Hp} {Q : VK} (hT : ∀ H, SqT G.K H a (zs.map V.str)) (h : TM G (mUn (inG neg zs) fa) σ H Q) : tOp (rInT G.K neg) (TM G fa) (tC (.ref a)) σ H Q := by
  obtain ⟨ρ, hs, m, sl, hr, r, hs', e, q⟩ := h
  unfold mUn at e
  split at e
  · rename_i d hs1 e1
    refine ⟨ρ, hs, m, sl, hr, d, hs1, e1, fun x H1 m1 n1 hr1 rx => ?_⟩
    unfold inG at e
    split at e
    · rename_i s
      split at e
      · rename_i ss sl0
        cases e
        cases rx
        have key : Q (.bl (xorB neg (inL (.str s) (zs.map D.str)))) H1 := q _ _ _ n1 hr1 (.bl _)
        refine ⟨.str s, pdAll (zs.map D.str), .str s, .tup (hT H1) (dp_all (dp_of 12) _ _ sl0 (repsT (m := m1) zs)), shaped_of (n := 12) (d := .str s) ss (by decide), (list_shaped sl0).2, ?_⟩
        have e2 := any_inL (d := .str s) ss sl0
        have e2' : (pdAll (zs.map D.str)).any (fun z => PyData.eqv z (.str s)) = inL (.str s) (zs.map D.str) := e2
        rw [e2']
        cases neg with
        | false => exact key
        | true =>
          rw [if_pos rfl]
          cases eb : inL (.str s) (zs.map D.str) <;> (rw [eb] at key; exact key)
      · cases e
    · cases e
  · cases e
section
variable {X : Cx} {tb : TBs} {e : Expr} {fe : EM} {x : Str} {zs : List Str} {p pos : Pos}
theorem m_inG (hu : X.A.units + 65 < cLine) (he : PE X e (TM (GO X tb) fe)) (hg : Gl X x) (hm : ∃ a, X.mg x = some (.ref a) ∧ ∀ H, SqT X.K H a (zs.map V.str)) (hd : (x == ("__debug__" : Str)) = false := by decide) (hb : behindInMarks .In (.Name x p) = false := by first | exact nomark _ | rfl) :
    PE X (.Compare e [.In] [.Name x p] pos) (TM (GO X tb) (mUn (inG false zs) fe)) := by
  obtain ⟨a, h1, h2⟩ := hm
  exact (pe_cmpR (op_inT hu) he (pe_glob (v := .ref a) hg h1 rfl hd) hb).imp fun _ _ _ => tm_inG h2
theorem m_notInG (hu : X.A.units + 65 < cLine) (he : PE X e (TM (GO X tb) fe)) (hg : Gl X x) (hm : ∃ a, X.mg x = some (.ref a) ∧ ∀ H, SqT X.K H a (zs.map V.str)) (hd : (x == ("__debug__" : Str)) = false := by decide) (hb : behindInMarks .NotIn (.Name x p) = false := by first | exact nomark _ | rfl) :
    PE X (.Compare e [.NotIn] [.Name x p] pos) (TM (GO X tb) (mUn (inG true zs) fe)) := by
  obtain ⟨a, h1, h2⟩ := hm
  exact (pe_cmpR (op_notInT hu) he (pe_glob (v := .ref a) hg h1 rfl hd) hb).imp fun _ _ _ => tm_inG h2
theorem mt_inG (hu : X.A.units + 65 < cLine) (he : PE X e (TM (GO X tb) fe)) (hg : Gl X x) (hm : ∃ a, X.mg x = some (.ref a) ∧ ∀ H, SqT X.K H a (zs.map V.str)) (hd : (x == ("__debug__" : Str)) = false := by decide) (hb : behindInMarks .In (.Name x p) = false := by first | exact nomark _ | rfl) :
    PT X (.Compare e [.In] [.Name x p] pos) (TB (GO X tb) (mTest (mUn (inG false zs) fe))) := by
  obtain ⟨a, h1, h2⟩ := hm
  exact (pt_cmpR (op_inT hu) he (pe_glob (v := .ref a) hg h1 rfl hd) hb).imp fun _ _ _ h => tm_inG h2 (tb_test h)
theorem mt_notInG (hu : X.A.units + 65 < cLine) (he : PE X e (TM (GO X tb) fe)) (hg : Gl X x) (hm : ∃ a, X.mg x = some (.ref a) ∧ ∀ H, SqT X.K H a (zs.map V.str)) (hd : (x == ("__debug__" : Str)) = false := by decide) (hb : behindInMarks .NotIn (.Name x p) = false := by first | exact nomark _ | rfl) :
    PT X (.Compare e [.NotIn] [.Name x p] pos) (TB (GO X tb) (mTest (mUn (inG true zs) fe))) := by
  obtain ⟨a, h1, h2⟩ := hm
  exact (pt_cmpR (op_notInT hu) he (pe_glob (v := .ref a) hg h1 rfl hd) hb).imp fun _ _ _ h => tm_inG h2 (tb_test h)
end
end Mir

/-! Mire: sorted(tuple of ints). -/
namespace SrtO
open PySem PySem.Calls PySem.W PyProof.Rows Srt
section
variable {prog : Program} {w : World} {A : Around} {E : Value → Shared → Prop} {s : Shared}
theorem collectT {l : Addr} {vs : List Value} {Q : List Value → Shared → Prop} (hl : s.heap.IsTuple l vs.toArray) (hsz : vs.length ≤ sizeLine)
    (h : Q vs { s with heap := (s.heap.push (seqObj "list" #[] 0)).update s.heap.objs.size (Obj.mapSeq (· ++ vs.toArray)) }) : wpAny (model prog w) A (collect (.ref l)) Q E s := by
  obtain ⟨⟨c0, d0, dat, sl⟩, ho, hc, n, hd⟩ := id hl
  unfold collect; refine wpAny_bind (wpAny_runValue (codeAny_builtin entry_proto_collect' ?_))
  refine show wpAny _ _ (newList [] >>= _) _ _ s from wpAny_bind (wpAny_newList (wpAny_pure ⟨Code.quiet_builtin _ (by decide +kernel), codeAny_builtin entry_list_iadd' ?_⟩))
  have ho' : (s.heap.push (seqObj "list" #[] 0)).get? l = some _ := Heap.get?_push_of_some _ ho
  refine show wpAny _ _ (Builtin.List.listExtendWith (.ref s.heap.objs.size) (.ref l) (.ref s.heap.objs.size)) _ _ { s with heap := s.heap.push (seqObj "list" #[] 0) } from ?_
  unfold Builtin.List.listExtendWith; refine wpAny_bind (wpAny_typeOf (T := "tuple") ⟨_, ho', hc⟩ ?_)
  have ht : (Value.type "tuple" == Value.type "tuple") = true := by rfl
  rw [if_pos (by rw [ht]; simp)]; refine wpAny_bind (listItems_at ho' hd ?_)
  refine (wpAny_bind (listItems_at (xs := #[]) (n := 0) (Heap.get?_push_size _ rfl) rfl ?_)); rw [if_neg (by simp)]
  refine (wpAny_bind (listUpdate_at (xs := #[]) (n := 0) (Heap.get?_push_size _ rfl) rfl ?_ (Nat.zero_le _) (by show (#[] ++ vs.toArray).size ≤ sizeLine + 1; simp; omega)))
  refine wpAny_pure (show wpAny (model prog w) A (load s.heap.objs.size >>= _) Q E { s with heap := (s.heap.push (seqObj "list" #[] 0)).update s.heap.objs.size (Obj.mapSeq (· ++ vs.toArray)) } from ?_)
  refine wpAny_bind (wpAny_load (get?_update_seq (Heap.get?_push_size _ rfl) _) (show wpAny _ _ (pure ((#[] : Array Value) ++ vs.toArray).toList) Q E _ from ?_))
  rw [show ((#[] : Array Value) ++ vs.toArray).toList = vs by simp]; exact wpAny_pure h
/-- sorted(t) -/
theorem sortedT_ord {l : Addr} {vs : List Value} {ltv : Value → Value → Bool} {Q : Value → Shared → Prop} (O : Swo ltv) (hl : s.heap.IsTuple l vs.toArray) (hz : vs.length ≤ sizeLine)
    (hS : 2 ≤ vs.length → ∀ (h₁ : Heap) (a : Addr), h₁.get? a = some (seqObj "list" vs.toArray 0) → (∀ b o, s.heap.get? b = some o → b ≠ a ∧ h₁.get? b = some o) → SortableO prog w A.in1.in1 { s with heap := h₁ } a vs ltv)
    (h : ∀ out : List Value, Srtd ltv out → Stb ltv out vs → Q (.ref (s.heap.objs.size + 1)) { s with heap := sortedAll s.heap vs out.toArray }) : wpAny (model prog w) A (call (.builtin "sorted") [.ref l]) Q E s := by
  refine Calls.call_function_entry kind_sorted plain_sorted entry_sorted (args_sorted1 _) ?_; unfold Builtin.«sorted»
  refine wpAny_bind (m := checkCount "sorted" 1 1 _) (wpAny_pure (wpAny_bind (collectT hl hz (wpAny_bind (wpAny_newList ?_ hz)))))
  have hsz : ((s.heap.push (seqObj "list" #[] 0)).update s.heap.objs.size (Obj.mapSeq (· ++ vs.toArray))).objs.size = s.heap.objs.size + 1 := by (rw [Heap.size_update, size_push'])
  have hoL : (((s.heap.push (seqObj "list" #[] 0)).update s.heap.objs.size (Obj.mapSeq (· ++ vs.toArray))).push (seqObj "list" vs.toArray 0)).get? (s.heap.objs.size + 1) = some (seqObj "list" vs.toArray 0) := by rw [← hsz]; exact Heap.get?_push_size _ rfl
  have keep : ∀ b o, s.heap.get? b = some o → b ≠ s.heap.objs.size + 1 ∧ (((s.heap.push (seqObj "list" #[] 0)).update s.heap.objs.size (Obj.mapSeq (· ++ vs.toArray))).push (seqObj "list" vs.toArray 0)).get? b = some o := fun b o q => by
    have hlt : b < s.heap.objs.size := Heap.lt_size q
    exact ⟨Nat.ne_of_lt (Nat.lt_succ_of_lt hlt), Heap.get?_push_of_some _ ((Heap.get?_update_ne _ _ _ _ (Nat.ne_of_lt hlt)).trans (Heap.get?_push_of_some _ q))⟩
  refine show wpAny _ _ _ _ _ { s with heap := ((s.heap.push (seqObj "list" #[] 0)).update s.heap.objs.size (Obj.mapSeq (· ++ vs.toArray))).push (seqObj "list" vs.toArray 0) } from ?_; rw [hsz]
  exact wpAny_bind (wpAny_holding (wpAny_call_entry slot_list_sort ⟨_, hoL, rfl⟩ entry_list_sort (list_sort_ord O hoL hz (fun h2 => hS h2 _ _ hoL keep) fun out hs hb => ⟨_, rfl, wpAny_pure ⟨_, rfl, h out hs hb⟩⟩) (args_list_sort _)))
end
end SrtO
namespace Mir
open PySem PySem.Spec PyProof.Rows L2
/-- a tuple of ints -/
def rSortedTI (K : PySem.W.Frag) (vs : List V) (H : Hp) (Q : VK) : Prop := ∃ (a : Addr) (ns : List Int), vs = [V.ref a] ∧ SqT K H a (ns.map V.int) ∧ (∀ (ns' : List Int) (p : Addr), ns'.Perm ns → ns'.Pairwise (· ≤ ·) → H p = none → Q (.ref p) (upd H p (.lst (ns'.map V.int))))
theorem cr_sortedTI {X : Cx} : CallR X (.builtin "sorted") (rSortedTI X.K) := by
  intro pins s σ H vs us Q I r h
  obtain ⟨a, ns, rfl, hs, q⟩ := h
  obtain ⟨its, rv, hl, hz⟩ := I.tuple hs
  rw [Vals.ref1 r]
  have hi := rv.ints
  refine (SrtO.sortedT_ord SrtO.swo_int (show s.heap.IsTuple a its.toArray from hl) (by rw [← rv.length]; exact hz) (fun h2 h₁ a' _ _ => SrtO.ints_sortable hi h2) fun out h1 h2 => ?_)
  obtain ⟨k1, k2, k3⟩ := SrtO.ints_out hi h1 h2
  obtain ⟨ep, he'⟩ := PyProof.Rows.sortedAll_at s.heap its out.toArray
  have hlen : ((out.map SrtO.iv).map V.int).length ≤ sizeLine := by
    rw [List.length_map] at hz ⊢; rw [k2.length_eq]; exact hz
  exact ⟨.ref _, upd H (s.heap.objs.size + 1) (.lst ((out.map SrtO.iv).map V.int)), I.laid (t' := s.toks) (fun _ _ => PyProof.Rows.sortedAll_old) (Nat.le_succ _) (And.intro hlen ⟨out, ep, vals_of_ints k1, he'⟩), rfl, q _ _ k2 k3 (I.hok.fresh (Nat.le_succ _))⟩
def sortT : FM := fun ds hs => match ds with
  | [.tup a] => match intsOf a with
    | some ns => some (.ref hs.length, hs ++ [.lst ((srtM ns).map D.int)])
    | none => none
  | _ => none
instance : QF sortT := ⟨fun ds hs d hs' h => by
  unfold sortT at h
  split at h
  · split at h
    · cases h; exact .one
    · cases h
  · cases h⟩
theorem cr_sortT {X : Cx} {tb : TBs} : CallR X (.builtin "sorted") (RLM (GO X tb) sortT) := by
  refine CallR.imp' (cr_sortedTI (X := X)) fun vs H Q h => ?_
  obtain ⟨ds, hs, m, hr, r, d, hs', e, q⟩ := h
  unfold sortT at e
  split at e
  · split at e
    · rename_i ns en
      cases e
      obtain ⟨v, rfl, rv⟩ := reps1 r
      cases rv with
      | tup hx rx =>
        rw [intsOf_eq en] at rx
        have ex := rx.ints
        subst ex
        refine ⟨_, ns, rfl, sqt hx, fun ns' p pm pw hp => ?_⟩
        have e2 := asc_perm_eq (pm.trans (srtM_perm ns).symm) pw (srtM_asc ns)
        subst e2
        exact q _ _ _ (.alloc hr hp) (hr.alloc hp ⟨_, upd_same, reps_ints _⟩) (Rep.last hr)
    · cases e
  · cases e
end Mir

/-! Mirf: junctions that keep one or two lists; comprehensions that map a list of ints. -/
namespace Mir
open PySem PySem.Spec PyProof.Rows L2

/-- the slots hold things without places, or the place 0 -/
def oneD : D → Bool
  | .ref 0 => true
  | d => pur d
def oneE : En → Bool
  | [] => true
  | none :: r => oneE r
  | some d :: r => match oneD d with
    | true => oneE r
    | false => false
theorem oneE_get : ∀ {ρ : En} {i : Nat} {d : D}, oneE ρ = true → ρ[i]? = some (some d) → oneD d = true
  | [], _, _, _, h => by simp at h
  | none :: r, 0, d, _, h => by simp at h
  | some d' :: r, 0, d, hp, h => by
    simp only [List.getElem?_cons_zero, Option.some.injEq] at h
    subst h
    unfold oneE at hp
    split at hp
    · assumption
    · cases hp
  | none :: r, i + 1, d, hp, h => oneE_get (ρ := r) hp (by simpa using h)
  | some d' :: r, i + 1, d, hp, h => by
    unfold oneE at hp
    split at hp
    · exact oneE_get hp (by simpa using h)
    · cases hp
theorem oneD_rep {K : PySem.W.Frag} {H : Hp} {m : List Addr} {b : Addr} (hb : m[0]? = some b) {d : D} {v : V} (h : oneD d = true) (r : Rep K H m d v) : Rep K H [b] d v := by
  unfold oneD at h
  split at h
  · cases r with
    | ref e =>
      rw [hb] at e
      cases e
      exact .ref rfl
  · exact r.pur h _
/-- the list at 0 stays, and the slots vs -/
theorem step_one {G : GX} {f : SM} {t : TS} {W : Ends} {σ : L2.St} {H : Hp} {m : List Addr} {ρ ρ1 ρ' : En} {hs hs1 : Hs} {vs : List Nat} {ds : List D} (hr : HR G m hs H) (sl : SL G H m ρ σ) (e : keepR vs (f ρ hs) = some (.nx ρ' hs1)) (e0 : at? hs1 0 = some (.lst ds)) (s : allL (shal 12) ds = true) (ok : oneE ρ' = true)
    (q : ∀ σ' H' b, HR G [b] [.lst ds] H' → SL G H' [b] ρ' σ' → t W σ' H') : TSK G f t W σ H := by
  refine step_keep hr sl e fun σ' H' m' hr' sl' => ?_
  obtain ⟨b, hb, hr2⟩ := hr'.one e0 s
  exact q σ' H' b hr2 (sl'.weaken rfl fun i d h => ⟨d, h, fun v r => oneD_rep hb (oneE_get ok h) r⟩)
/-- two lists stay: slot 1 at 0, slot w at 1; and the slots vs without places -/
def twoE (w : Nat) (ρ : En) : En := put ρ w (some (.ref 1))
theorem step_two {G : GX} {f : SM} {t : TS} {W : Ends} {σ : L2.St} {H : Hp} {m : List Addr} {ρ ρ1 ρ' : En} {hs hs1 : Hs} {vs : List Nat} {w j : Nat} {ds es : List D} (hr : HR G m hs H) (sl : SL G H m ρ σ) (e : keepR vs (f ρ hs) = some (.nx ρ1 hs1)) (ej : at? ρ1 w = some (some (.ref j))) (e0 : at? hs1 0 = some (.lst ds)) (e1 : at? hs1 j = some (.lst es)) (hj : (0 : Nat) ≠ j) (s : allL (shal 12) ds = true) (s1 : allL (shal 12) es = true) (ok : oneE (put ρ1 w none) = true) (er : twoE w ρ1 = ρ')
    (q : ∀ σ' H' b c, HR G [b, c] [.lst ds, .lst es] H' → SL G H' [b, c] ρ' σ' → t W σ' H') : TSK G f t W σ H := by
  refine step_keep hr sl e fun σ' H' m' hr' sl' => ?_
  obtain ⟨b, c, hb, hc, hr2⟩ := hr'.two hj e0 s e1 s1
  refine q σ' H' b c hr2 (sl'.weaken (by rw [← er]; unfold twoE; simp [put_eq]) fun i d h => ?_)
  subst er
  unfold twoE at h
  rw [at?_eq] at ej
  rw [put_eq] at h ok
  by_cases z : w = i
  · subst z
    rw [List.getElem?_set_self (by
      rcases Nat.lt_or_ge w ρ1.length with l | l
      · exact l
      · rw [List.getElem?_eq_none_iff.mpr l] at ej; cases ej)] at h
    simp only [Option.some.injEq] at h
    subst h
    refine ⟨_, ej, fun v r => ?_⟩
    cases r with
    | ref e =>
      rw [hc] at e
      cases e
      exact .ref rfl
  · rw [List.getElem?_set_ne z] at h
    refine ⟨d, h, fun v r => ?_⟩
    have hd := oneE_get ok (i := i) (d := d) (by rw [List.getElem?_set_ne z]; exact h)
    unfold oneD at hd
    split at hd
    · cases r with
      | ref e =>
        rw [hb] at e
        cases e
        exact .ref rfl
    · exact r.pur hd _
theorem lcGo_map {g : GM} {f : EM} {ρ : En} {hs : Hs} {φ : Int → D} : ∀ (xs : List Int) (acc : List D), (∀ x ∈ xs, ∃ ρ', g (.int x) ρ = some ρ' ∧ f ρ' hs = some (φ x, hs)) → lcGo g mYes f ρ (xs.map D.int) hs acc = some (acc.reverse ++ xs.map φ, hs)
  | [], acc, _ => by simp [lcGo]
  | x :: r, acc, h => by
    obtain ⟨ρ', h1, h2⟩ := h x List.mem_cons_self
    rw [List.map_cons, lcGo, h1]
    simp only [mYes]
    rw [h2]
    simp only
    rw [lcGo_map r _ fun y hy => h y (List.mem_cons_of_mem _ hy)]
    simp
theorem mLc_map {s : IM} {g : GM} {f : EM} {vs : List Nat} {ρ : En} {hs : Hs} {φ : Int → D} {xs : List Int} (hi : s ρ hs = some (xs.map D.int, hs)) (hc : xs.length < 1000) (h : ∀ x ∈ xs, ∃ ρ', g (.int x) (wipeE ρ vs) = some ρ' ∧ f ρ' hs = some (φ x, hs)) :
    mLc s g mYes f vs ρ hs = some (.ref hs.length, hs ++ [.lst (xs.map φ)]) := by
  have c : cap ((xs.map D.int).length + 1) = true := by
    unfold cap
    rw [List.length_map]
    exact Nat.ble_eq_true_of_le (by omega)
  unfold mLc
  rw [hi]
  simp only
  rw [if_pos c, lcGo_map xs [] h]
  rfl
theorem at?_last (hs : Hs) (o : O) : at? (hs ++ [o]) hs.length = some o := by
  rw [at?_eq]
  simp
/-- tuple([.. for x in xs]) -/
theorem mTupLc {s : IM} {g : GM} {f : EM} {vs : List Nat} {ρ : En} {hs : Hs} {φ : Int → Int} {xs : List Int} (hi : s ρ hs = some (xs.map D.int, hs)) (hc : xs.length < 1000) (h : ∀ x ∈ xs, ∃ ρ', g (.int x) (wipeE ρ vs) = some ρ' ∧ f ρ' hs = some (.int (φ x), hs)) :
    mQ (mCall tupL (mCons (mLc s g mYes f vs) mNil)) ρ hs = some (tI (xs.map φ), hs) := by
  have e1 : mCons (mLc s g mYes f vs) mNil ρ hs = some ([.ref hs.length], hs ++ [.lst (xs.map fun x => .int (φ x))]) := mCons_of (mLc_map hi hc h) rfl
  have e2 : mCall tupL (mCons (mLc s g mYes f vs) mNil) ρ hs = some (tI (xs.map φ), hs ++ [.lst (xs.map fun x => .int (φ x))]) := by
    rw [mCall_of e1]
    show (match at? (hs ++ [O.lst (xs.map fun x => .int (φ x))]) hs.length with
      | some (.lst a) => some (D.tup a, hs ++ [O.lst (xs.map fun x => .int (φ x))])
      | _ => none) = _
    rw [at?_last]
    simp only [tI, List.map_map]
    rfl
  unfold mQ
  rw [e2]
  simp only
  rw [shal_tI (xs.map φ) 11]
theorem modD_pos {i m : Int} {hs : Hs} (h : 0 < m) : modD (.int i) (.int m) hs = some (.int (i % m), hs) := by
  match m, h with
  | .ofNat (n + 1), _ => rfl
theorem pur_tI (l : List Int) : pur (tI l) = true := shal_tI l 11
theorem getL_ex {ds : List D} {i : Int} (h0 : 0 ≤ i) (h1 : i < ds.length) : ∃ d ∈ ds, getL ds i = some d := by
  obtain ⟨n, rfl⟩ : ∃ n : Nat, i = n := ⟨i.toNat, by omega⟩
  have hn : n < ds.length := by omega
  refine ⟨ds[n], List.getElem_mem hn, ?_⟩
  unfold getL
  have e : ixD ds.length (n : Int) = some n := by
    show ixD ds.length (Int.ofNat n) = some n
    unfold ixD
    simp [hn]
  rw [e]
  simp only
  rw [at?_eq]
  exact List.getElem?_eq_getElem hn
end Mir

/-! Mirg: l.pop(i); a def whose keyword-only parameters are written in the call. -/
namespace Mir
open PySem PySem.Spec PyProof.Rows L2

/-- l.pop(j), 0 ≤ j -/
def mPop (fo fe : EM) : EM := fun ρ hs => match fo ρ hs with
  | some (.ref i, hs1) => match at? hs1 i with
    | some (.lst _) => match fe ρ hs1 with
      | some (.int (.ofNat j), hs2) => match at? hs2 i with
        | some (.lst ds) => match Nat.blt j 1000, at? ds j with
          | true, some d => some (d, put hs2 i (.lst (ds.eraseIdx j)))
          | _, _ => none
        | _ => none
      | _ => none
    | _ => none
  | _ => none
theorem Reps.eraseIx {K : PySem.W.Frag} {H : Hp} {m : List Addr} : ∀ {ds : List D} {xs : List V} (k : Nat), Reps K H m ds xs → Reps K H m (ds.eraseIdx k) (xs.eraseIdx k)
  | _, _, _, .nil => .nil
  | _, _, 0, .cons r t => t
  | _, _, k + 1, .cons r t => .cons r (Reps.eraseIx k t)
section
variable {X : Cx} {tb : TBs}
theorem m_pop {o e : Expr} {fo fe : EM} {apos cpos : Pos} (ho : PE X o (TM (GO X tb) fo)) (he : PE X e (TM (GO X tb) fe))
    (hbase : attributeBase o "pop" X.env (eval o X.env) = eval o X.env := by rfl)
    (hfew : ((backTo cpos (starEach (e :: []) X.env)).all (fun x => !x.1) && (backToKw cpos (keywordEach [] X.env)).all (fun x => x.1.isSome)
      && decide ((e :: []).length + ([] : List Keyword).length + (if ([] : List Keyword).isEmpty then 0 else 1) < 30)) = true := by rfl)
    (hline : (apos.endLine == cpos.line) = true := by rfl) (hs : starEach (e :: []) X.env = (false, eval e X.env) :: starEach [] X.env := by rfl) (hplain : (backTo cpos (starEach [] X.env)).any (·.1) = false := by rfl) :
    PE X (.Call (.Attribute o "pop" apos) [e] [] cpos) (TM (GO X tb) (mPop fo fe)) := by
  refine (pe_bm PySem.F.plainAttrs_list PySem.F.slot_list_pop PySem.F.type_list_pop mt_popAt ho (pa_cons he pa_nil hs) hbase hfew hline hs hplain).imp fun σ H Q ⟨ρ, hs, m, sl, hr, d, hs', ee, q⟩ => ?_
  unfold mPop at ee
  split at ee
  · rename_i i hs1 e1
    split at ee
    · rename_i ds0 e2
      split at ee
      · rename_i j hs2 e3
        split at ee
        · rename_i ds e4
          split at ee
          · rename_i d0 hc ed
            cases ee
            refine ⟨ρ, hs, m, sl, hr, _, _, e1, fun v H1 m1 n1 hr1 rv => ?_⟩
            cases rv with
            | ref ha =>
              rename_i a
              obtain ⟨xs0, hx0, _⟩ := hr1.lst ha e2
              refine ⟨.inl ⟨rfl, _, .of hx0⟩, ρ, hs1, m1, sl.nx hr n1, hr1, _, _, e3, fun w H2 m2 n2 hr2 rw => ?_⟩
              cases rw
              have ha2 := n2.ix ha
              obtain ⟨xs, hx, rx⟩ := hr2.lst ha2 e4
              obtain ⟨n3, hr3⟩ := upd_sq (K := X.K) hr2 ha2 e4 hx (rx.eraseIx j)
              have hj : j < 1000 := Nat.le_of_ble_eq_true hc
              rw [at?_eq] at ed
              obtain ⟨y, hy, ry⟩ := rx.get ed
              have hl : j < xs.length := (List.getElem?_eq_some_iff.mp hy).1
              refine ⟨a, xs, (j : Nat), j, y, rfl, rfl, hx, by omega, by omega, ?_, hy, q _ _ _ ((n1.trans n2).trans n3) hr3 (ry.nx hr2 n3)⟩
              unfold seqIndex?
              rw [if_neg (show ¬ ((j : Nat) : Int) < 0 by omega)]
              simp only
              rw [if_pos (by
                rw [Bool.and_eq_true, decide_eq_true_eq, decide_eq_true_eq]
                omega)]
              rfl
          · cases ee
        · cases ee
      · cases ee
    · cases ee
  · cases ee

/-! ### keywords -/
/-- the arguments, and one more behind them -/
def mSnoc (g : AM) (f : EM) : AM := fun ρ hs => match g ρ hs with
  | some (ds, hs1) => match f ρ hs1 with
    | some (d, hs2) => some (ds ++ [d], hs2)
    | none => none
  | none => none
instance {g : AM} {f : EM} [a : QA g] [b : QE f] : QA (mSnoc g f) := ⟨fun ρ hs d hs' h => by
  unfold mSnoc at h
  split at h
  · rename_i e1
    split at h
    · rename_i e2
      cases h
      exact (a.q _ _ _ _ e1).trans (b.q _ _ _ _ e2)
    · cases h
  · cases h⟩
structure OkFN (P : Program) (w : World) (K : PySem.W.Frag) (mg : Str → Option Value) (base : Heap) (tb : TBs) (k : Nat) (x : Str) (ps : List Str) (n : Nat) (ks : List Str) (F : FM) : Prop where
  ex : ∃ fd, FnOk P w K mg base CX0 k (He.fAd K (x, none)) fd ps (spM ⟨K, tb⟩ (n + ks.length) F) ∧ KBn K fd ps n ks (fun us ws => us ++ ws) (fun vs zs => vs ++ zs) ∧ PySem.W.keepIn K (.ref (He.fAd K (x, none))) = true
  mg : mg x = some (.ref (He.fAd K (x, none)))
theorem OkFN.pure {P : Program} {w : World} {K : PySem.W.Frag} {mg : Str → Option Value} {base : Heap} {tb : TBs} {k : Nat} {x : Str} {ps : List Str} {n : Nat} {ks : List Str} {F : FM} (o : OkFN P w K mg base tb k x ps n ks F) : OkFN P w K mg base tb k x ps n ks (FP F) := by
  obtain ⟨fd, h, r⟩ := o.ex
  exact ⟨⟨fd, h.imp fun _ _ _ _ z => spM_FP z, r⟩, o.mg⟩
theorem Vals.app {vs : List V} {us : List Value} {zs : List V} {ws : List Value} (a : Vals vs us) (b : Vals zs ws) : Vals (vs ++ zs) (us ++ ws) := a.append b
theorem kbinds0 {K : PySem.W.Frag} {x qual : Str} {params : Arguments} {body : List Stmt} {scope : Scope} {kws : List (Str × V)} {f : Addr} {fd : FuncData} {ps ks : List Str} {n : Nat} (F : FunD K x qual params body scope [] kws f fd)
    (h : ∀ (kV doc pm : Value) (an : Option Addr) (cdv ct : Value) (us ws : List Value), us.length = n → ws.length = ks.length → bindArgs (PySem.W.fnOf x qual params body scope .none kV doc pm an cdv ct) ⟨us, ks.zip ws⟩ = Pure.pure (ps.zip (us ++ ws))) :
    KBn K fd ps n ks (fun us ws => us ++ ws) (fun vs zs => vs ++ zs) := by
  obtain ⟨oc, od, dV, kV, doc, pm, an, cdv, ct, osl, rfl, lk, hcd, hD, hK⟩ := F.ex
  rcases hD with ⟨_, rfl⟩ | ⟨e, _⟩
  · exact ⟨fun s us ws _ l1 l2 => .of_eq (h kV doc pm an cdv ct us ws l1 l2), fun a b => a.append b⟩
  · exact absurd rfl e
theorem OkFN.of {fa : List He.Fa} {fn : List He.DefD} {tf : TFs} {P : Program} {w : World} {K : PySem.W.Frag} {mg : Str → Option Value} {base h : Heap} {st : Stmt} {x : Str} {N ps ks : List Str} {k n b j : Nat} {f : SM} {kwd : List (Str × He.Dv)} (T : Tp fa fn tf w K mg base h)
    (i i2 : Nat) (hd : fn[i]? = some (mkDK st x kwd)) (hgl : fa[i2]? = some (.glo x)) (S : FnScope N ps (defScope st)) (hp : ps.length = b) (hN : N.length = b + j) (hl : n + ks.length = b)
    (hbind : ∀ (kV doc pm : Value) (an : Option Addr) (cdv ct : Value) (us ws : List Value), us.length = n → ws.length = ks.length → bindArgs (PySem.W.fnOf x x (defArgs st) (defBody st) (defScope st) .none kV doc pm an cdv ct) ⟨us, ks.zip ws⟩ = Pure.pure (ps.zip (us ++ ws)))
    (hb : ∀ (A : Around) (outer : List Env) (s : Shared) (H : Hp) (E : XK), Room k (DX P w K mg base N st x A outer s H E).A → PSs (DX P w K mg base N st x A outer s H E) (defBody st) (TSM ⟨K, tbs tf K⟩ f)) :
    OkFN P w K mg base (tbs tf K) (k + 1) x ps n ks (mBody f j) := by
  obtain ⟨fd, F⟩ := T.c.t.d.def_ i hd
  have F : FunD K x x (defArgs st) (defBody st) (defScope st) [] (He.DefD.kws K (mkDK st x kwd)) (He.fAd K (x, none)) fd := F
  subst hl
  exact ⟨⟨fd, fun_okM (p := (x, none)) F S hp hN hb, kbinds0 F hbind, F.kp⟩, T.glo i2 hgl⟩
variable {k n : Nat} {ps : List Str} {F : FM} {g : AM} {fk : EM} {x nm : Str} {p pos kpos : Pos} {e ek : Expr} {es : List Expr}
theorem m_callKN [an : AN g n] (O : OkFN X.prog X.w X.K X.mg X.base tb k x ps n [nm] F) (hr : Room k X.A) (hg : Gl X x) (ha : PA X (e :: es) (TAm (GO X tb) g)) (hk : PE X ek (TM (GO X tb) fk))
    (hall : (backToKw pos (keywordEach [⟨some nm, ek, kpos⟩] X.env)).all (·.1.isSome) = true := by rfl) (hks : (backToKw pos (keywordEach [⟨some nm, ek, kpos⟩] X.env)).filterMap (·.1) = [nm] := by rfl)
    (hdb : (x == ("__debug__" : Str)) = false := by decide) (he : starEach (e :: es) X.env = (false, eval e X.env) :: starEach es X.env := by rfl)
    (hpl : ((backTo pos (starEach (e :: es) X.env)).any (·.1) || (backToKw pos (keywordEach [⟨some nm, ek, kpos⟩] X.env)).any (·.1.isNone)) = false := by rfl) :
    PE X (.Call (.Name x p) (e :: es) [⟨some nm, ek, kpos⟩] pos) (TM (GO X tb) (mCall F (mSnoc g fk))) := by
  obtain ⟨fd, FO, hb, hkp⟩ := O.ex
  refine (pe_callN FO hr hg O.mg hkp hb pass0 ha (pk_cons hk pk_nil) hall hks hdb he hpl).imp fun σ H Q ⟨ρ, hs, m, sl, hr, d, hs', ee, q⟩ => ?_
  unfold mCall at ee
  split at ee
  · rename_i ds hs2 e2
    unfold mSnoc at e2
    split at e2
    · rename_i ds0 hs1 e1
      split at e2
      · rename_i dk hs3 e3
        cases e2
        refine ⟨ρ, hs, m, sl, hr, _, _, e1, fun vs H1 m1 n1 hr1 rv => ?_⟩
        refine ⟨ρ, hs1, m1, sl.nx hr n1, hr1, _, _, e3, fun v H2 m2 n2 hr2 r2 => ?_⟩
        have rv2 := rv.nx hr1 n2
        have l1 := an.n _ _ _ _ e1
        refine ⟨rv.length ▸ l1, rfl, ?_, _, _, m2, hr2, rv2.append (.cons r2 .nil), _, _, ee, fun w H3 m3 n3 => q w H3 m3 ((n1.trans n2).trans n3)⟩
        rw [List.length_append, ← rv.length, l1]
        rfl
      · cases e2
    · cases e2
  · cases ee
end
end Mir

/-! Mirh: sorted(d.items()) of a dict with tuple keys and at most one entry. -/
namespace L2.DX
open PySem PySem.Spec PyProof.Rows
section
variable {X : Cx}
def rSortI1 : List V → Hp → VK → Prop := fun vs H Q => ∃ (p a : Addr) (kvs : List (List L2.Key × V)), vs = [.ref p] ∧ H p = some (itemsO p a) ∧ H a = some (.dT kvs) ∧ kvs.length ≤ 1 ∧
  ∀ (H' : Hp) (l : Addr) (ps : List (Addr × (List L2.Key × V))), (∀ b o, H b = some o → H' b = some o) → H l = none → ps.map (·.2) = kvs → H' l = some (.lst (ps.map fun z => V.ref z.1)) →
    (∀ z ∈ ps, ∃ q, H' z.1 = some (.tup [.ref q, z.2.2]) ∧ H' q = some (.tup (z.2.1.map kV))) → Q (.ref l) H'
theorem cr_sortedItems1 (hc : X.calm = true) : CallR X (.builtin "sorted") rSortI1 := by
  intro pins s σ H xs us Q I r h
  obtain ⟨p, a, ks, rfl, hp, ha, h1, q⟩ := h
  obtain rfl := Vals.ref1 r
  have view : s.heap.IsItemsView p a := (show ObjOk X.prog X.w H s.heap p (itemsO p a) from I.hok p _ hp).1
  obtain ⟨z, hd, xs', rel, o, es, ep, ho, hx, hdat, hes, his, hn⟩ := dt_of I.hok ha
  have l1 : ks.length = xs'.length := Paired.length rel
  have l2 : es.size = xs'.length := size_of_entries hes
  have hh : X.A.handled = none := I.ok.hd hc
  refine DT.sortedI (es := es) (ep := ep) hh view ⟨o, ho, hx, hdat⟩ (by rw [sizeLine_eq]; omega) fun h' tk as hk hlt hl hG => ?_
  have lak : as.length = ks.length := by omega
  have nd : as.Nodup := List.Pairwise.imp (fun h => Nat.ne_of_lt h) hG.rise
  have pr : ∀ (j : Nat) (b : Addr), as[j]? = some b → ∃ (e : List L2.Key × V) (kq : Addr) (u : Value), ks[j]? = some e ∧ H kq = some (.tup (e.1.map kV)) ∧ RelV e.2 u ∧ h'.get? b = some { cls := .type "tuple", data := .seq #[Value.ref kq, u] } := by
    intro j b hj
    obtain ⟨en, he, hg⟩ := hG.pairs j b hj
    rw [entry_at hes j] at he
    cases hxj : xs'[j]? with
    | none =>
      rw [hxj] at he
      exact nomatch (show (none : Option DictEntry) = some en from he)
    | some x =>
      rw [hxj] at he
      have een : entryOfKey (tupleKind (mixKind X.prog X.w)) x = en := Option.some.inj he
      obtain ⟨e0, he0, r1, r2, r3⟩ := pget rel hxj
      refine ⟨e0, x.2.1, x.2.2, he0, r2, r3, ?_⟩
      rw [hg, ← een]
      all_goals rfl
  have hob : (h'.push { cls := .type "list", data := .seq (as.map Value.ref).toArray }).get? h'.objs.size = some (seqObj "list" (as.map Value.ref).toArray 0) := Heap.get?_push_size _ rfl
  have kb : ∀ b o, s.heap.get? b = some o → (h'.push { cls := .type "list", data := .seq (as.map Value.ref).toArray }).get? b = some o := fun b o e => Heap.get?_push_of_some _ (hk b o e)
  have ne0 : ∀ b o, h'.get? b = some o → b ≠ h'.objs.size := fun b o e => Nat.ne_of_lt (Heap.lt_size e)
  generalize hh2 : h'.push { cls := .type "list", data := .seq (as.map Value.ref).toArray } = h2 at hob kb ⊢
  have ka : ∀ b o, h'.get? b = some o → h2.get? b = some o := fun b o e => by rw [← hh2]; exact Heap.get?_push_of_some _ e
  refine wpAny_call_entry PyProof.Rows.slot_list_sort ⟨_, hob, rfl⟩ PyProof.Rows.entry_list_sort
    (SK.plain_sort (s := { s with heap := h2, toks := tk }) (r := fun _ => 0) hob (by rw [List.length_map]; omega) (fun h2' Qk hQk => absurd h2' (by rw [List.length_map]; omega)) fun ps out o1 o2 o3 => ⟨.none, rfl, ?_⟩) (PyProof.Rows.args_list_sort _)
  show EP X pins σ Q (.ref h'.objs.size) { s with heap := sortedHeap h2 h'.objs.size (as.map Value.ref) out, toks := tk }
  obtain ⟨zs, pz, ez⟩ := perm_lift (fun z : Addr × (List L2.Key × V) => (Value.ref z.1, Value.ref z.1)) o2 (as.zip ks) (zip_self Value.ref as ks lak)
  have pz1 : zs = as.zip ks := by
    have lz : (as.zip ks).length ≤ 1 := by rw [List.length_zip]; omega
    generalize as.zip ks = w at pz lz
    match w, lz with
    | [], _ => exact List.perm_nil.mp pz
    | [b], _ => exact List.perm_singleton.mp pz
  have hout : out.toList = zs.map fun z => Value.ref z.1 := by
    rw [o1, ← ez, List.map_map]
    all_goals rfl
  have hperm : zs.map (·.2) = ks := by
    rw [pz1]
    exact List.map_snd_zip (by rw [lak]; exact Nat.le_refl _)
  have idx : ∀ z ∈ zs, ∃ j : Nat, as[j]? = some z.1 ∧ ks[j]? = some z.2 := by
    intro z' hz'
    rw [pz1] at hz'
    obtain ⟨j, hj⟩ := List.mem_iff_getElem?.mp hz'
    exact ⟨j, List.getElem?_zip_eq_some.mp hj⟩
  have kF : ∀ b o, b ≠ h'.objs.size → h2.get? b = some o → (sortedHeap h2 h'.objs.size (as.map Value.ref) out).get? b = some o := fun b o hb e => (PyProof.Rows.sortedHeap_old hb (Heap.lt_size e)).trans e
  have kS : ∀ b o, s.heap.get? b = some o → (sortedHeap h2 h'.objs.size (as.map Value.ref) out).get? b = some o := fun b o e => kF b o (ne0 _ _ (hk b o e)) (kb b o e)
  obtain ⟨eF, heF⟩ := PyProof.Rows.sortedHeap_at (vs := as.map Value.ref) (out := out) hob
  have I1 : Inv X pins σ H { s with heap := sortedHeap h2 h'.objs.size (as.map Value.ref) out, toks := tk } := I.kept (t' := tk) kS
  have hn0 : H h'.objs.size = none := I.hok.fresh (Nat.le_of_lt hlt)
  have hlen : (zs.map fun z => V.ref z.1).length ≤ sizeLine := by
    have e := congrArg List.length hperm
    rw [List.length_map] at e
    rw [List.length_map, sizeLine_eq]
    omega
  have rv : Vals (zs.map fun z => V.ref z.1) out.toList := by
    rw [hout]
    exact vals_maps (fun z : Addr × (List L2.Key × V) => V.ref z.1) (fun z => Value.ref z.1) zs fun _ _ => rfl
  have I2 : Inv X pins σ (upd H h'.objs.size (.lst (zs.map fun z => V.ref z.1))) { s with heap := sortedHeap h2 h'.objs.size (as.map Value.ref) out, toks := tk } :=
    I1.take (h' := sortedHeap h2 h'.objs.size (as.map Value.ref) out) (t' := tk) (fun b ob _ e => e) (I.fpOk (Nat.le_of_lt hlt) hn0) ⟨hlen, out.toList, eF, rv, heF⟩
  obtain ⟨H2, I3, g, qt⟩ := takeT (P := fun b vs => ∃ (j : Nat) (e : List L2.Key × V) (kq : Addr), as[j]? = some b ∧ ks[j]? = some e ∧ vs = [.ref kq, e.2] ∧ H kq = some (.tup (e.1.map kV))) I as _ I2 nd fun b hb => by
    obtain ⟨j, hj⟩ := List.mem_iff_getElem?.mp hb
    obtain ⟨e, kq, u, he, hkq, ru, hg⟩ := pr j b hj
    have hbl : s.heap.objs.size ≤ b := Nat.le_of_lt (hG.above b hb)
    refine ⟨hbl, ?_, [.ref kq, e.2], ⟨j, e, kq, hj, he, rfl, hkq⟩, fun H3 => ⟨(by rw [sizeLine_eq]; show 2 ≤ 16777216; omega), [Value.ref kq, u], .cons rfl (.cons ru .nil), ⟨_, kF _ _ (ne0 _ _ hg) (ka _ _ hg), rfl, 0, rfl⟩⟩⟩
    rw [upd_ne (ne0 _ _ hg)]
    exact I.hok.fresh hbl
  have gr : ∀ b o, H b = some o → H2 b = some o := fun b o e => g b o (by rw [upd_ne (ne_of_none e hn0)]; exact e)
  refine ⟨.ref h'.objs.size, H2, I3, rfl, q H2 h'.objs.size zs gr hn0 hperm (g _ _ upd_same) fun z' hz' => ?_⟩
  obtain ⟨i, i1, i2⟩ := idx z' hz'
  obtain ⟨vs, ⟨j, e, kq, j1, j2, ev, hkq⟩, hH⟩ := qt z'.1 (List.mem_of_getElem? i1)
  have eij : i = j := (List.getElem?_inj (List.getElem?_eq_some_iff.mp i1).1 nd).mp (i1.trans j1.symm)
  subst eij
  have ee : e = z'.2 := Option.some.inj (j2.symm.trans i2)
  rw [ev, ee] at hH
  rw [ee] at hkq
  exact ⟨kq, hH, gr _ _ hkq⟩
end
end L2.DX
namespace Mir
open PySem PySem.Spec PyProof.Rows L2
/-- everything that stood stands -/
theorem nx_grow {G : GX} {m : List Addr} {hs : Hs} {H H' : Hp} (g : ∀ b o, H b = some o → H' b = some o) (hr : HR G m hs H) : Nx m H m H' ∧ HR G m hs H' := by
  have n : Nx m H m H' := ⟨⟨[], by simp⟩, fun a h z => absurd h z, fun a o e _ _ => g a o e, fun a e => by
    cases z : H a with
    | none => exact absurd z e
    | some o => rw [g a o z]; simp⟩
  refine ⟨n, hr.len, hr.nd, fun i a o e1 e2 => ?_, hr.tab.keep fun b o e _ => g b o e⟩
  have q := hr.obj i a o e1 e2
  cases o with
  | lst ds => obtain ⟨xs, h1, r⟩ := q; exact ⟨xs, g _ _ h1, r.nx hr n⟩
  | dK ds => obtain ⟨xs, h1, k, r⟩ := q; exact ⟨xs, g _ _ h1, k, r.nx hr n⟩
  | dT ds => obtain ⟨xs, h1, k, r⟩ := q; exact ⟨xs, g _ _ h1, k, r.nx hr n⟩
  | opq c => obtain ⟨dx, h1⟩ := q; exact ⟨dx, g _ _ h1⟩
def pairD (p : D × D) : D := .tup [p.1, p.2]
/-- sorted(d.items()), at most one entry -/
def mSortIt (f : EM) : EM := fun ρ hs => match f ρ hs with
  | some (.ref i, hs1) => match at? hs1 i with
    | some (.dT kvs) => match Nat.ble kvs.length 1 with
      | true => some (.ref hs1.length, hs1 ++ [.lst (kvs.map pairD)])
      | false => none
    | _ => none
  | _ => none
instance {f : EM} [a : QE f] : QE (mSortIt f) := ⟨fun ρ hs d hs' h => by
  unfold mSortIt at h
  split at h
  · rename_i e1
    split at h
    · split at h
      · cases h
        exact (a.q _ _ _ _ e1).trans .one
      · cases h
    · cases h
  · cases h⟩
theorem keys_rep {K : PySem.W.Frag} {H : Hp} {m : List Addr} : ∀ ks : List L2.Key, Reps K H m (ks.map keyD) (ks.map kV)
  | [] => .nil
  | .inl i :: r => .cons (.int i) (keys_rep r)
  | .inr s :: r => .cons (.str s) (keys_rep r)
section
variable {X : Cx} {tb : TBs} {o : Expr} {fo : EM} {apos cpos p pos : Pos}
theorem m_sortIt (hc : X.calm = true) (hg : Gl X "sorted") (hm : X.mg "sorted" = none) (hv : bootBuiltins "sorted" = some (.builtin "sorted")) (ho : PE X o (TM (GO X tb) fo))
    (hbase : attributeBase o "items" X.env (eval o X.env) = eval o X.env := by rfl) (hline : (apos.endLine == cpos.line) = true := by rfl)
    (he : starEach (.Call (.Attribute o "items" apos) [] [] cpos :: []) X.env = (false, eval (.Call (.Attribute o "items" apos) [] [] cpos) X.env) :: starEach [] X.env := by rfl) (hpl : (backTo pos (starEach [] X.env)).any (·.1) = false := by rfl) :
    PE X (.Call (.Name "sorted" p) [.Call (.Attribute o "items" apos) [] [] cpos] [] pos) (TM (GO X tb) (mSortIt fo)) := by
  refine (pe_callB (L2.DX.cr_sortedItems1 hc) hg hm hv (pa_cons (pe_bm0 PySem.F.plainAttrs_dict PySem.F.slot_dict_items PySem.F.type_dict_items L2.DX.mt_itemsT ho hbase hline) pa_nil he) (by decide) (by decide) he hpl).imp fun σ H Q ⟨ρ, hs, m, sl, hr, d, hs', ee, q⟩ => ?_
  unfold mSortIt at ee
  split at ee
  · rename_i i hs1 e1
    split at ee
    · rename_i kvs e2
      split at ee
      · rename_i hl
        cases ee
        refine ⟨ρ, hs, m, sl, hr, _, _, e1, fun v H1 m1 n1 hr1 rv => ?_⟩
        cases rv with
        | ref ha =>
          rename_i a
          obtain ⟨ks, hx, hk, rx⟩ := hr1.dT ha e2
          have lk : kvs.length = ks.length := by
            have := congrArg List.length hk
            rw [List.length_map, List.length_map] at this
            exact this
          have hl := Nat.le_of_ble_eq_true hl
          refine ⟨?_, a, ks, rfl, rfl, hx, fun p hp => ⟨p, a, ks, rfl, upd_same, by rw [upd_ne (ne_of_none hx hp)]; exact hx, by omega, fun H' l ps g hl0 hps hL hpr => ?_⟩⟩
          · exact .inr (.inr (.inl ⟨rfl, .inr ⟨_, hx⟩⟩))
          have g2 : ∀ b o, H1 b = some o → H' b = some o := fun b o e => g b o (by rw [upd_ne (ne_of_none e hp)]; exact e)
          obtain ⟨n2, hr2⟩ := nx_grow g2 hr1
          have hl1 : H1 l = none := by
            by_cases z : l = p
            · rw [z, upd_same] at hl0; cases hl0
            · rw [upd_ne z] at hl0; exact hl0
          have hlm : l ∉ m1 := hr1.no_none hl1
          obtain ⟨ks2, hx2, hk2, rx2⟩ := hr2.dT ha e2
          have ek : ks2 = ks := by
            have := g2 _ _ hx
            rw [hx2] at this
            cases this
            rfl
          subst ek
          have rr : Reps X.K H' m1 (kvs.map pairD) (ps.map fun z => V.ref z.1) := by
            clear hL q
            match ps, ks2, kvs, hps, hk2, rx2, hl with
            | [], [], [], _, _, _, _ => exact .nil
            | [z], [k], [kv], h1, h2, h3, _ =>
              have h1 : z.2 = k := by simpa using h1
              have h2 : kv.1 = D.tup (k.1.map keyD) := by simpa using h2
              obtain ⟨q0, hz1, hz2⟩ := hpr z (by simp)
              cases h3 with
              | cons rv _ =>
                refine .cons ?_ .nil
                show Rep X.K H' m1 (pairD kv) (.ref z.1)
                unfold pairD
                rw [h2]
                refine .tup hz1 (.cons (.tup (xs := z.2.1.map kV) hz2 (by rw [h1]; exact keys_rep _)) (.cons (by rw [h1]; exact rv) .nil))
            | [], [], _ :: _, _, h2, _, _ => cases h2
            | [], _ :: _, _, h1, _, _, _ => cases h1
            | _ :: _, [], _, h1, _, _, _ => cases h1
            | _ :: _, _ :: _, [], _, h2, _, _ => cases h2
            | _ :: _ :: _, [_], _, h1, _, _, _ => cases h1
            | [_], _ :: _ :: _, _, h1, _, _, _ => cases h1
            | _, _, _ :: _ :: _, _, _, _, h => simp at h
          have hr3 := hr2.adopt hL hlm rr
          refine q _ _ _ ((n1.trans n2).told ?_) hr3 (.ref ?_)
          · cases z : H l with
            | none => rfl
            | some o =>
              have := n1.there l (by rw [z]; simp)
              exact absurd hl1 this
          · rw [← hr1.len]
            simp
      · cases ee
    · cases ee
  · cases ee
end
end Mir

/-! Miri: any(.. for x in d), d a name that holds a dict with tuple keys: the generator runs without places. -/
namespace L2
open PySem PySem.Spec PyProof.Rows
def tLockD (t : TE) : TE := fun σ H Q => ∃ d kvs, H d = some (.dT kvs) ∧ ∀ od, (∀ vs, od.data ≠ .fields vs) → t σ (upd H d (.frz od (.dT kvs))) fun v H' => H' d = some (.frz od (.dT kvs)) ∧ Q v (upd H' d (.dT kvs))
theorem pe_lockD {X : Cx} {e : Expr} {t : TE} (h : PE X e t) : PE X e (tLockD t) := by
  refine ⟨fun pins s σ H Q I hw => ?_⟩
  obtain ⟨d, kvs, hd, hw⟩ := hw
  obtain ⟨od, I1⟩ := I.lock hd trivial
  have x1 : s.heap.get? d = some od ∧ ObjOk X.prog X.w (upd H d (.frz od (.dT kvs))) s.heap d (.dT kvs) := I1.hok d _ upd_same
  have nf : ∀ vs, od.data ≠ .fields vs := by
    obtain ⟨e1, _, _, xs, _, o, es, ep, e2, _, e3, _⟩ := x1
    intro vs z
    rw [e1] at e2
    cases e2
    rw [z] at e3
    cases e3
  refine thn (h.run pins s σ _ _ I1 (hw od nf)) fun v s1 ⟨x, H1, I2, r, e2, q⟩ => ?_
  exact ⟨x, _, I2.unlock e2 (I.nofrz hd trivial), r, q⟩
end L2
namespace Mir
open PySem PySem.Spec PyProof.Rows L2
/-- the slots without places -/
def purN : En → En
  | [] => []
  | none :: r => none :: purN r
  | some d :: r => match pur d with
    | true => some d :: purN r
    | false => none :: purN r
theorem purN_get : ∀ {ρ : En} {i : Nat} {d : D}, (purN ρ)[i]? = some (some d) → ρ[i]? = some (some d) ∧ pur d = true
  | [], i, d, h => by simp [purN] at h
  | none :: r, 0, d, h => by simp [purN] at h
  | none :: r, i + 1, d, h => by
    simp only [purN, List.getElem?_cons_succ] at h ⊢
    exact purN_get h
  | some d' :: r, i, d, h => by
    unfold purN at h
    split at h
    · rename_i e
      match i with
      | 0 =>
        simp only [List.getElem?_cons_zero, Option.some.injEq] at h ⊢
        subst h
        exact ⟨rfl, e⟩
      | i + 1 =>
        simp only [List.getElem?_cons_succ] at h ⊢
        exact purN_get h
    · match i with
      | 0 => simp at h
      | i + 1 =>
        simp only [List.getElem?_cons_succ] at h ⊢
        exact purN_get h
theorem purN_len : ∀ ρ : En, (purN ρ).length = ρ.length
  | [] => rfl
  | none :: r => by simp [purN, purN_len r]
  | some d :: r => by
    unfold purN
    split <;> simp [purN_len r]
/-- the keys of a dict that a name holds -/
def srcK (ks : List D) : IM := fun _ hs => match hs with
  | [] => some (ks, [])
  | _ => none
def mAgD (stop : Bool) (j : Nat) (g : GM) (c : BM) (f : EM) (vs : List Nat) : EM := fun ρ hs => match at? ρ j with
  | some (some (.ref i)) => match at? hs i with
    | some (.dT kvs) => match mAg stop (srcK (kvs.map (·.1))) g c f vs (purN ρ) [] with
      | some (.bl b, []) => some (.bl b, hs)
      | _ => none
    | _ => none
  | _ => none
instance {stop : Bool} {j : Nat} {g : GM} {c : BM} {f : EM} {vs : List Nat} : QE (mAgD stop j g c f vs) := ⟨fun ρ hs d hs' h => by
  unfold mAgD at h
  split at h
  · split at h
    · split at h
      · cases h; exact .refl
      · cases h
    · cases h
  · cases h⟩
theorem tabs_lock {tb : TBs} {H H1 H' : Hp} {d : Addr} {od : Obj} {kvs : List (List L2.Key × V)} (nf : ∀ vs, od.data ≠ .fields vs) (hd : H' d = some (.frz od (.dT kvs))) (h : TabsOk tb H') : TabsOk tb (upd H' d (.dT kvs)) := by
  have ne : ∀ P ps, H' P = some (.tbl ps) → P ≠ d := fun P ps e z => by rw [z, hd] at e; cases e
  refine ⟨fun P hP => ?_, fun p hp => ?_, h.d, h.u⟩
  · obtain ⟨ps, h1, h2⟩ := h.g P hP
    exact ⟨ps, by rw [upd_ne (ne _ _ h1)]; exact h1, h2⟩
  · obtain ⟨ps, h1, h2, h3⟩ := h.l p hp
    refine ⟨ps, by rw [upd_ne (ne _ _ h1)]; exact h1, h2, fun pos cv hc => ?_⟩
    obtain ⟨c, e, oc, u, vs, t, e1, e2, e3⟩ := h3 pos cv hc
    refine ⟨c, e, oc, u, vs, t, ?_, e2, e3⟩
    rw [upd_ne (fun z => by rw [z, hd] at e1; cases e1; exact nf _ e2)]
    exact e1
/-- behind the lock -/
theorem nx_lock {G : GX} {m m' : List Addr} {hs hs' : Hs} {H H' : Hp} {d : Addr} {od : Obj} {kvs : List (List L2.Key × V)} (nf : ∀ vs, od.data ≠ .fields vs) (hd : H d = some (.dT kvs)) (hr : HR G m hs H)
    (n : Nx [] (upd H d (.frz od (.dT kvs))) m' H') (hr' : HR G m' hs' H') : H' d = some (.frz od (.dT kvs)) ∧ Nx m H m (upd H' d (.dT kvs)) ∧ HR G m hs (upd H' d (.dT kvs)) := by
  have e0 : H' d = some (.frz od (.dT kvs)) := n.keep d _ upd_same (by simp) (fun _ z => by cases z)
  have kp : ∀ b o, H b = some o → (∀ ps, o ≠ .tbl ps) → upd H' d (.dT kvs) b = some o := fun b o e ht => by
    by_cases z : b = d
    · subst z
      rw [upd_same, ← hd, e]
    · rw [upd_ne z]
      exact n.keep b o (by rw [upd_ne z]; exact e) (by simp) ht
  have nx : Nx m H m (upd H' d (.dT kvs)) := ⟨⟨[], by simp⟩, fun a h z => absurd h z, fun a o e _ ht => kp a o e ht, fun a e => by
    by_cases z : a = d
    · rw [z, upd_same]; simp
    · rw [upd_ne z]
      exact n.there a (by rw [upd_ne z]; exact e)⟩
  refine ⟨e0, nx, hr.len, hr.nd, fun i a o e1 e2 => ?_, tabs_lock (H := H) (H1 := H) nf e0 hr'.tab⟩
  have q := hr.obj i a o e1 e2
  cases o with
  | lst ds => obtain ⟨xs, h1, r⟩ := q; exact ⟨xs, kp _ _ h1 (fun _ z => by cases z), r.nx hr nx⟩
  | dK ds => obtain ⟨xs, h1, k, r⟩ := q; exact ⟨xs, kp _ _ h1 (fun _ z => by cases z), k, r.nx hr nx⟩
  | dT ds => obtain ⟨xs, h1, k, r⟩ := q; exact ⟨xs, kp _ _ h1 (fun _ z => by cases z), k, r.nx hr nx⟩
  | opq c => obtain ⟨dx, h1⟩ := q; exact ⟨dx, kp _ _ h1 (fun _ z => by cases z)⟩
theorem jw_keys {G : GX} {H : Hp} {d : Addr} {od : Obj} {ks : List (List L2.Key × V)} {ds : List D} (hd : H d = some (.frz od (.dT ks))) (he : ds = ks.map fun p => D.tup (p.1.map keyD)) : JW G (Itkt d od ks) ds [] [] H := fun m' H' r n hr' i => by
  have e1 : H' d = some (.frz od (.dT ks)) := n.keep d _ hd (by simp) (fun _ z => by cases z)
  subst he
  refine ⟨fun dd e => ?_, fun h => ⟨e1, by simpa using h⟩⟩
  rw [List.getElem?_map] at e
  cases z : ks[i]? with
  | none => rw [z] at e; cases e
  | some p =>
    rw [z] at e
    have e : D.tup (p.1.map keyD) = dd := Option.some.inj e
    subst e
    refine ⟨⟨e1, (List.getElem?_eq_some_iff.mp z).1⟩, fun x H2 y => ?_⟩
    obtain ⟨rfl, k, v, q, e3, rfl, e5⟩ := y
    rw [z] at e3
    cases e3
    exact ⟨.refl, hr', .tup e5 (keys_rep _)⟩
section
variable {X : Cx} {tb : TBs} {elt tg : Expr} {ifs : List Expr} {scope : Scope} {own : List (Str × Nat)} {pos p gpos npos : Pos} {x : Str} {ts : List Nat} {g : GM} {c : BM} {f : EM} {cA P : Addr} {k : Nat}
theorem tm_agD {stop : Bool} {j : Nat} [qc : QB c] [qf : QE f] {vs : List Nat} (hP : P ∈ tb.g) (hts : ∀ i ∈ ts, i ∈ vs) {σ : L2.St} {H : Hp} {Q : VK} (h : TM (GO X tb) (mAgD stop j g c f vs) σ H Q) :
    tLockD (tAnyG P stop (iKeys (fun σ H Q => ∃ v, σ[j]? = some (some v) ∧ Q v H)) (TGM (GO X tb) ts g) (TB (GO X tb) c) (TM (GO X tb) f) vs) σ H Q := by
  obtain ⟨ρ, hs, m, sl, hr, d, hs', ee, q⟩ := h
  unfold mAgD at ee
  split at ee
  · rename_i i e1
    split at ee
    · rename_i kvs e2
      split at ee
      · rename_i b e3
        cases ee
        obtain ⟨v, h1, r1⟩ := sl.get e1
        cases r1 with
        | ref ha =>
          rename_i a
          obtain ⟨ks, hx, hk, rx⟩ := hr.dT ha e2
          refine ⟨a, ks, hx, fun od nf => ?_⟩
          have n1 : Nx m H m (upd H a (.frz od (.dT ks))) := .write (List.mem_of_getElem? ha)
          have sl1 : SL (GO X tb) (upd H a (.frz od (.dT ks))) [] (purN ρ) σ := ⟨(purN_len ρ).trans sl.len, fun i d e => by
            obtain ⟨e', pp⟩ := purN_get e
            obtain ⟨v, g1, g2⟩ := sl.at_ i d e'
            exact ⟨v, g1, (g2.nx hr n1).pur pp []⟩⟩
          have hr1 : HR (GO X tb) [] [] (upd H a (.frz od (.dT ks))) := by
            refine ⟨rfl, .nil, fun i a o e => by simp at e, hr.tab.keep fun b o e z => ?_⟩
            rw [upd_ne (fun y => by rw [y, hx] at e; cases e; rcases z with ⟨_, z⟩ | ⟨_, _, z⟩ <;> cases z)]
            exact e
          have hT : TM (GO X tb) (mAg stop (srcK (kvs.map (·.1))) g c f vs) σ (upd H a (.frz od (.dT ks))) (fun v H' => H' a = some (.frz od (.dT ks)) ∧ Q v (upd H' a (.dT ks))) := by
            refine ⟨purN ρ, [], [], sl1, hr1, _, _, e3, fun v H' m' n' hr' rv => ?_⟩
            cases rv
            obtain ⟨z1, z2, z3⟩ := nx_lock nf hx hr n' hr'
            exact ⟨z1, q _ _ m z2 z3 (.bl _)⟩
          obtain ⟨ρ0, hs0, m0, sl0, hr0, ds0, hs0', es, J⟩ := tm_ag (G := GO X tb) hP hts hT
          unfold srcK at es
          split at es
          · cases es
            have hm0 : m0 = [] := List.eq_nil_of_length_eq_zero (by have := hr0.len; simpa using this)
            subst hm0
            exact ⟨.ref a, h1, a, od, rfl, .inr ⟨ks, upd_same, J _ _ [] .refl hr0 (jw_keys upd_same hk)⟩⟩
          · cases es
      · cases ee
    · cases ee
  · cases ee
theorem m_anyD [qc : QB c] [qf : QE f] (j : Nat) (hj : X.N[j]? = some x := by rfl) (hv : Vis X.env.scope x := by first | exact Or.inl rfl | exact Or.inr (Or.inl rfl) | exact Or.inr (Or.inr rfl)) (hr : Room (k + 1) X.A) (hG : Gl X "any") (hm : X.mg "any" = none) (hc : X.calm = true) (hN : X.N.Nodup) (TBq : GxR.TabB X.base X.mg cA P) (hcode : X.env.code = .ref cA) (hP : P ∈ tb.g) (gk : GxOk scope)
    (ok : BlkOk X.N X.env.scope scope own)
    (hg : ∀ (s : Shared) (H : Hp) (C : Addr) (cl : List (Str × Addr)) (fp : List Addr) (code : Value) (A' : Around), Room k A' → PG (X.gx s H (genEnv scope cl C code builtinsNs X.env) fp A') tg (TGM (GO X tb) ts g))
    (ht : ∀ (s : Shared) (H : Hp) (C : Addr) (cl : List (Str × Addr)) (fp : List Addr) (code : Value) (A' : Around), Room k A' → PTs (X.gx s H (genEnv scope cl C code builtinsNs X.env) fp A') ifs (TB (GO X tb) c))
    (hel : ∀ (s : Shared) (H : Hp) (C : Addr) (cl : List (Str × Addr)) (fp : List Addr) (code : Value) (A' : Around), Room k A' → PE (X.gx s H (genEnv scope cl C code builtinsNs X.env) fp A') elt (TM (GO X tb) f))
    (hts : ∀ i ∈ ts, i ∈ own.map (·.2) := by decide) (hs : ∀ v, genFold (.Name x npos) X.env v = pure v := by intro _; rfl)
    (he : starEach [.GeneratorExp elt [⟨tg, .Name x npos, ifs, 0⟩] scope gpos] X.env = (false, eval (.GeneratorExp elt [⟨tg, .Name x npos, ifs, 0⟩] scope gpos) X.env) :: starEach [] X.env := by rfl)
    (hd : (x == ("__debug__" : Str)) = false := by decide) (hcd : (x == ("__classdict__" : Str)) = false := by decide) :
    PE X (.Call (.Name "any" p) [.GeneratorExp elt [⟨tg, .Name x npos, ifs, 0⟩] scope gpos] [] pos) (TM (GO X tb) (mAgD true j g c f (own.map (·.2)))) :=
  (pe_lockD (pe_anyG hr hG hm hc hN TBq hcode gk.co gk.cell gk.dot ok (pi_keys (pe_var hj hv hd hcd)) hg ht hel hs he)).imp fun _ _ _ => tm_agD hP hts
end
end Mir

/-! Mirj: range(i, j, c). -/
namespace Mir
open PySem PySem.Spec PyProof.Rows L2
def mRng3 (g : AM) : IM := fun ρ hs => match g ρ hs with
  | some ([.int i, .int j, .int c], hs') => match Builtin.Range.rangeSize i j c with
    | .ofNat n => match decide (c ≠ 0), Nat.blt c.natAbs 1000000, Builtin.Range.small i j c with
      | true, true, true => some (stpL i c n, hs')
      | _, _, _ => none
    | _ => none
  | _ => none
instance {g : AM} [a : QA g] : QI (mRng3 g) := ⟨fun ρ hs d hs' h => by
  unfold mRng3 at h
  split at h
  · rename_i e1
    split at h
    · split at h
      · cases h; exact a.q _ _ _ _ e1
      · cases h
    · cases h
  · cases h⟩
theorem reps3 {K : PySem.W.Frag} {H : Hp} {m : List Addr} {d e g : D} {vs : List V} (r : Reps K H m [d, e, g] vs) : ∃ v w x, vs = [v, w, x] ∧ Rep K H m d v ∧ Rep K H m e w ∧ Rep K H m g x := by
  cases r with
  | cons a r => cases r with
    | cons b r => cases r with
      | cons c r => cases r; exact ⟨_, _, _, rfl, a, b, c⟩
section
variable {X : Cx} {tb : TBs} {tg a b c : Expr} {g : AM} {p pos : Pos}
theorem mi_range3 (hg : Gl X "range") (hm : X.mg "range" = none) (ha : PA X [a, b, c] (TAm (GO X tb) g)) (hs : starEach [a, b, c] X.env = (false, eval a X.env) :: starEach [b, c] X.env := by rfl) (hpl : (backTo pos (starEach [b, c] X.env)).any (·.1) = false := by rfl) :
    PI X tg (.Call (.Name "range" p) [a, b, c] [] pos) (TIS (GO X tb) (mRng3 g)) :=
  PI.imp' (pi_range3 hg hm ha hs hpl) fun σ H R ⟨ρ, hs, m, sl, hr, ds, hs', ee, q⟩ => by
    unfold mRng3 at ee
    split at ee
    · rename_i i j k hs1 e1
      split at ee
      · rename_i n en
        split at ee
        · rename_i h1 h2 h3
          cases ee
          have h2 : k.natAbs < 1000000 := Nat.le_of_ble_eq_true h2
          refine ⟨ρ, hs, m, sl, hr, _, _, e1, fun vs H' m' n' hr' rv => ?_⟩
          obtain ⟨v, w, x, rfl, r1, r2, r3⟩ := reps3 rv
          obtain rfl := r1.int_inv
          obtain rfl := r2.int_inv
          obtain rfl := r3.int_inv
          exact ⟨i, j, k, n, rfl, ⟨of_decide_eq_true h1, by omega, h3, en⟩, q _ H' m' n' hr' js_stp⟩
        · cases ee
      · cases ee
    · cases ee
end

/-! ### {} -/
def mNewT : EM := fun _ hs => some (.ref hs.length, hs ++ [.dT []])
def mNewK : EM := fun _ hs => some (.ref hs.length, hs ++ [.dK []])
instance : QE mNewT := ⟨fun ρ hs d hs' h => by cases h; exact .one⟩
instance : QE mNewK := ⟨fun ρ hs d hs' h => by cases h; exact .one⟩
theorem m_newT {X : Cx} {tb : TBs} {pos : Pos} : PE X (.Dict [] [] pos) (TM (GO X tb) mNewT) := pe_dnewT.imp fun σ H Q ⟨ρ, hs, m, sl, hr, d, hs', ee, q⟩ => fun p hp => by
  cases ee
  exact q _ _ _ (.alloc hr hp) (hr.alloc hp ⟨[], upd_same, rfl, .nil⟩) (.ref (by rw [← hr.len]; simp))
theorem m_newK {X : Cx} {tb : TBs} {pos : Pos} : PE X (.Dict [] [] pos) (TM (GO X tb) mNewK) := pe_dnewK.imp fun σ H Q ⟨ρ, hs, m, sl, hr, d, hs', ee, q⟩ => fun p hp => by
  cases ee
  exact q _ _ _ (.alloc hr hp) (hr.alloc hp ⟨[], upd_same, rfl, .nil⟩) (.ref (by rw [← hr.len]; simp))
theorem OkFN.than {P : Program} {w : World} {K : PySem.W.Frag} {mg : Str → Option Value} {base : Heap} {tb : TBs} {k : Nat} {x : Str} {ps : List Str} {n : Nat} {ks : List Str} {F F' : FM} (o : OkFN P w K mg base tb k x ps n ks F) (h : ∀ ds hs r, F' ds hs = some r → F ds hs = some r) : OkFN P w K mg base tb k x ps n ks F' := by
  obtain ⟨fd, q, r⟩ := o.ex
  refine ⟨⟨fd, q.imp fun vs H Q E ⟨hl, ds, hs, m, hr, rp, d, hs', e, z⟩ => ⟨hl, ds, hs, m, hr, rp, d, hs', h _ _ _ e, z⟩, r⟩, o.mg⟩
end Mir

/-! the text of the law and what its top leaves -/
namespace K_
open PySem PySem.Spec PyProof.Rows L2 Mir
abbrev R : PySem.W.OpenRow := PySem.W.OpenLaw.row PySem.Challenge.rw_tuneworks_k06_whole_halves_and_counts
def top (i : Nat) : Stmt := R.prog.main.body.getD i (.Pass ⟨0, 0, 0, 0⟩)
def nms : List PySem.Str := [("CantusError" : PySem.Str), ("BadSet" : PySem.Str), ("BadNumber" : PySem.Str), ("TooMany" : PySem.Str), ("is_number" : PySem.Str), ("MOST_ROUND" : PySem.Str), ("check_round" : PySem.Str), ("check_set" : PySem.Str), ("moved_set" : PySem.Str), ("mirrored_set" : PySem.Str), ("others_of" : PySem.Str), ("interval_counts" : PySem.Str), ("turns_of" : PySem.Str), ("all_images" : PySem.Str), ("first_image" : PySem.Str), ("own_turns" : PySem.Str), ("is_one_kind" : PySem.Str), ("all_sets" : PySem.Str), ("kinds_of" : PySem.Str), ("choices" : PySem.Str), ("twins_of" : PySem.Str), ("check_row" : PySem.Str), ("moved_row" : PySem.Str), ("backwards" : PySem.Str), ("parts_of" : PySem.Str), ("halves_that_fit" : PySem.Str), ("check_parts" : PySem.Str), ("even_set" : PySem.Str), ("spans" : PySem.Str), ("is_even" : PySem.Str), ("has_two_spans" : PySem.Str), ("generators" : PySem.Str), ("check_tile" : PySem.Str), ("fills" : PySem.Str), ("moved_mask" : PySem.Str), ("grown_rows" : PySem.Str), ("full" : PySem.Str), ("first_gap" : PySem.Str), ("paper_fill" : PySem.Str), ("can_fill" : PySem.Str), ("_law_cell" : PySem.Str), ("_law_draws" : PySem.Str)]
def fn : List He.DefD := [mkD (top 6) "is_number", mkD (top 9) "check_round", mkD (top 10) "check_set", mkD (top 11) "moved_set", mkD (top 12) "mirrored_set", mkD (top 13) "others_of", mkD (top 14) "interval_counts", mkD (top 15) "turns_of", mkD (top 16) "all_images", mkD (top 17) "first_image", mkD (top 18) "own_turns", mkD (top 19) "is_one_kind", mkD (top 20) "all_sets", mkDK (top 21) "kinds_of" [("most", .int 5000)], mkD (top 22) "choices", mkDK (top 23) "twins_of" [("most", .int 5000)], mkD (top 25) "check_row", mkD (top 26) "moved_row", mkD (top 27) "backwards", mkD (top 28) "parts_of", mkD (top 29) "halves_that_fit", mkD (top 31) "check_parts", mkD (top 32) "even_set", mkD (top 33) "spans", mkD (top 34) "is_even", mkD (top 35) "has_two_spans", mkD (top 36) "generators", mkD (top 38) "check_tile", mkD (top 39) "fills", mkD (top 40) "moved_mask", mkD (top 41) "grown_rows", mkD (top 42) "full", mkD (top 43) "first_gap", mkDK (top 44) "paper_fill" [("most", .int 5000)], mkDK (top 45) "can_fill" [("most", .int 5000)], mkD (top 47) "_law_cell", mkD (top 48) "_law_draws", mkD (top 49) "law"]
def fa : List He.Fa := [.glo "is_number", .glo "check_round", .glo "check_set", .glo "moved_set", .glo "mirrored_set", .glo "others_of", .glo "interval_counts", .glo "turns_of", .glo "all_images", .glo "first_image", .glo "own_turns", .glo "is_one_kind", .glo "all_sets", .glo "kinds_of", .glo "choices", .glo "twins_of", .glo "check_row", .glo "moved_row", .glo "backwards", .glo "parts_of", .glo "halves_that_fit", .glo "check_parts", .glo "even_set", .glo "spans", .glo "is_even", .glo "has_two_spans", .glo "generators", .glo "check_tile", .glo "fills", .glo "moved_mask", .glo "grown_rows", .glo "full", .glo "first_gap", .glo "paper_fill", .glo "can_fill", .glo "_law_cell", .glo "_law_draws", .glo "law", .free "all", .free "any", .free "int", .free "isinstance", .free "len", .free "list", .free "min", .free "range", .free "reversed", .free "sorted", .free "tuple", .int "MOST_ROUND" 24]
def tf : TFs := ⟨[("check_set", none), ("check_row", none), ("is_even", none), ("has_two_spans", none), ("generators", none), ("grown_rows", none), ("full", none)], [], []⟩
/-! ### is_number -/
abbrev st_is_number : Stmt := top 6
theorem sc_is_number : FnScope ["value"] ["value"] (defScope st_is_number) := ⟨rfl, rfl, rfl, by decide +kernel, rfl, by decide +kernel, by decide +kernel⟩
def m_is_number : SM := (mRet (mAndV (mUn (isiF isInt) (mVar 0)) (mAndV (mBin (notF isD) (mVar 0) (mC (.bl true))) (mBin (notF isD) (mVar 0) (mC (.bl false))))))
def F_is_number : FM := FP (mBody m_is_number 0)
instance : QF F_is_number := inferInstanceAs (QF (FP _))
theorem ok_is_number {P : Program} {w : World} {K : PySem.W.Frag} {mg : Str → Option Value} {base h : Heap} (T : Tp fa fn tf w K mg base h) : OkF P w K mg base (tbs tf K) 1 "is_number" ["value"] 1 F_is_number := by
  refine OkF.pure (OkF.of (k := 0) (j := 0) (f := m_is_number) T 0 0 rfl rfl sc_is_number rfl rfl (fun _ _ _ _ _ _ us hl => match us, hl with | [_], _ => rfl) fun A outer s H E hr => ?_)
  exact (ms_one (ms_ret (m_and (m_isi isi_int (by rfl) (T.free 41) (by rfl) (T.free 40) (by rfl) (m_var 0)) (m_and (m_cmp op_isNotM (m_var 0) m_bl) (m_one (m_cmp op_isNotM (m_var 0) m_bl))))))
/-! ### check_round -/
abbrev st_check_round : Stmt := top 9
theorem sc_check_round : FnScope ["many"] ["many"] (defScope st_check_round) := ⟨rfl, rfl, rfl, by decide +kernel, rfl, by decide +kernel, by decide +kernel⟩
def m_check_round : SM := (mIfS (mOrB (mNotB (mTru (mCall F_is_number (mCons (mVar 0) mNil)))) (mNotB (mTest (mChain leD leD (mC (.int 1)) (mVar 0) (mC (.int 24)))))) mNever mNext)
def F_check_round : FM := FP (mBody m_check_round 0)
instance : QF F_check_round := inferInstanceAs (QF (FP _))
theorem ok_check_round {P : Program} {w : World} {K : PySem.W.Frag} {mg : Str → Option Value} {base h : Heap} (T : Tp fa fn tf w K mg base h) : OkF P w K mg base (tbs tf K) 2 "check_round" ["many"] 1 F_check_round := by
  refine OkF.pure (OkF.of (k := 1) (j := 0) (f := m_check_round) T 1 1 rfl rfl sc_check_round rfl rfl (fun _ _ _ _ _ _ us hl => match us, hl with | [_], _ => rfl) fun A outer s H E hr => ?_)
  exact (ms_one (ms_if (PW.pt (mw_or (mt_not (mt_truth (m_callO (ok_is_number T) hr (by rfl) (ma_cons (m_var 0) ma_nil)))) (mw_or1 (mt_not (mt_chain op_leM op_leM m_int (m_var 0) (m_gint (z := 24) (by rfl) (T.int 49))))))) mss_never ms_nil))
/-! ### check_set -/
abbrev st_check_set : Stmt := top 10
theorem sc_check_set : FnScope ["many", "own", "one", "k"] ["many", "own"] (defScope st_check_set) := ⟨rfl, rfl, rfl, by decide +kernel, rfl, by decide +kernel, by decide +kernel⟩
def m_check_set : SM := (mSeq (mDrop (mCall F_check_round (mCons (mVar 0) mNil))) (mSeq (mIfS (mOrB (mNotB (mTru (mUn (isiF isTup) (mVar 1)))) (mNotB (mTru (mAg false (mSeqW (mVar 1)) (setN 2) mYes (mAndV (mCall F_is_number (mCons (mVar 2) mNil)) (mChain leD ltD (mC (.int 0)) (mVar 2) (mVar 0))) [2])))) mNever mNext) (mIfS (mTru (mAg true (mRng1 (mCons (mBin subD (mCall lenL (mCons (mVar 1) mNil)) (mC (.int 1))) mNil)) (setN 3) mYes (mBin geD (mBin ixF (mVar 1) (mVar 3)) (mBin ixF (mVar 1) (mBin addD (mVar 3) (mC (.int 1))))) [3])) mNever mNext)))
def F_check_set : FM := FP (mBody m_check_set 2)
instance : QF F_check_set := inferInstanceAs (QF (FP _))
theorem ok_check_set {P : Program} {w : World} {K : PySem.W.Frag} {mg : Str → Option Value} {base h : Heap} (T : Tp fa fn tf w K mg base h) : OkF P w K mg base (tbs tf K) 3 "check_set" ["many", "own"] 2 F_check_set := by
  refine OkF.pure (OkF.of (k := 2) (j := 2) (f := m_check_set) T 2 2 rfl rfl sc_check_set rfl rfl (fun _ _ _ _ _ _ us hl => match us, hl with | [_, _], _ => rfl) fun A outer s H E hr => ?_)
  exact (ms_cons (ms_expr (m_callO (ok_check_round T) hr (by rfl) (ma_cons (m_var 0) ma_nil)))
    (ms_cons (ms_if (PW.pt (mw_or (mt_not (mt_truth (m_isi isi_tup (by rfl) (T.free 41) (by rfl) (T.free 48) (by rfl) (m_var 1)))) (mw_or1 (mt_not (mt_truth (m_all (k := 1) (by exact hr) (by rfl) (T.free 38) rfl sc_check_set.nd (T.tab 0) rfl (tab_mem 0) ⟨by rfl, by decide +kernel, by rfl⟩ (blkOk_by (own := [(("one" : Str), 2)]) (by rfl)) (mi_seqW (m_var 1)) (fun _ _ _ _ _ _ _ hr1 => (mg_name (i := 2) sc_check_set.nd rfl (by first | exact Or.inl rfl | exact Or.inr rfl))) (fun _ _ _ _ _ _ _ hr1 => mts_nil) (fun _ _ _ _ _ _ _ hr1 => (m_and (m_callO (ok_is_number T) hr1 (by rfl) (ma_cons (m_var 2) ma_nil)) (m_one (m_chain op_leM op_ltM m_int (m_var 2) (m_var 0))))))))))) mss_never ms_nil)
    (ms_one (ms_if (mt_truth (m_any (k := 1) (by exact hr) (by rfl) (T.free 39) rfl sc_check_set.nd (T.tab 0) rfl (tab_mem 0) ⟨by rfl, by decide +kernel, by rfl⟩ (blkOk_by (own := [(("k" : Str), 3)]) (by rfl)) (mi_w (mi_range1 (by rfl) (T.free 45) (ma_cons (m_bin op_subM (m_callB cr_len (by rfl) (T.free 42) (by rfl) (ma_cons (m_var 1) ma_nil)) m_int) ma_nil))) (fun _ _ _ _ _ _ _ hr1 => (mg_name (i := 3) sc_check_set.nd rfl (by first | exact Or.inl rfl | exact Or.inr rfl))) (fun _ _ _ _ _ _ _ hr1 => mts_nil) (fun _ _ _ _ _ _ _ hr1 => (m_cmp op_geM (m_ix (m_var 1) (m_var 3)) (m_ix (m_var 1) (m_bin op_addM (m_var 3) m_int)))))) mss_never ms_nil))))
/-! ### moved_set -/
abbrev st_moved_set : Stmt := top 11
theorem sc_moved_set : FnScope ["many", "own", "steps", "one"] ["many", "own", "steps"] (defScope st_moved_set) := ⟨rfl, rfl, rfl, by decide +kernel, rfl, by decide +kernel, by decide +kernel⟩
def m_moved_set : SM := (mSeq (mDrop (mCall F_check_set (mCons (mVar 0) (mCons (mVar 1) mNil)))) (mRet (mQ (mCall tupL (mCons (mCall sortL (mCons (mLc (mSeqW (mVar 1)) (setN 3) mYes (mBin modD (mBin addD (mVar 3) (mVar 2)) (mVar 0)) [3]) mNil)) mNil)))))
def F_moved_set : FM := FP (mBody m_moved_set 1)
instance : QF F_moved_set := inferInstanceAs (QF (FP _))
theorem ok_moved_set {P : Program} {w : World} {K : PySem.W.Frag} {mg : Str → Option Value} {base h : Heap} (T : Tp fa fn tf w K mg base h) : OkF P w K mg base (tbs tf K) 4 "moved_set" ["many", "own", "steps"] 3 F_moved_set := by
  refine OkF.pure (OkF.of (k := 3) (j := 1) (f := m_moved_set) T 3 3 rfl rfl sc_moved_set rfl rfl (fun _ _ _ _ _ _ us hl => match us, hl with | [_, _, _], _ => rfl) fun A outer s H E hr => ?_)
  exact (ms_cons (ms_expr (m_callO (ok_check_set T) hr (by rfl) (ma_cons (m_var 0) (ma_cons (m_var 1) ma_nil))))
    (ms_one (ms_ret (m_Q (m_callTy cr_tup (by rfl) (T.free 48) (by rfl) (ma_cons (m_callB cr_sortL (by rfl) (T.free 47) (by rfl) (ma_cons (m_lc rfl sc_moved_set.nd (mi_seqW (m_var 1)) (blkOk_by (own := [(("one" : Str), 3)]) (by rfl)) (fun _ _ _ _ _ => (mg_name (i := 3) sc_moved_set.nd rfl (by first | exact Or.inl rfl | exact Or.inr rfl))) (fun _ _ _ _ _ => mts_nil) (fun _ _ _ _ _ => (m_bin op_modM (m_bin op_addM (m_var 3) (m_var 2)) (m_var 0)))) ma_nil)) ma_nil))))))
/-! ### mirrored_set -/
abbrev st_mirrored_set : Stmt := top 12
theorem sc_mirrored_set : FnScope ["many", "own", "total", "one"] ["many", "own", "total"] (defScope st_mirrored_set) := ⟨rfl, rfl, rfl, by decide +kernel, rfl, by decide +kernel, by decide +kernel⟩
def m_mirrored_set : SM := (mSeq (mDrop (mCall F_check_set (mCons (mVar 0) (mCons (mVar 1) mNil)))) (mRet (mQ (mCall tupL (mCons (mCall sortL (mCons (mLc (mSeqW (mVar 1)) (setN 3) mYes (mBin modD (mBin subD (mVar 2) (mVar 3)) (mVar 0)) [3]) mNil)) mNil)))))
def F_mirrored_set : FM := FP (mBody m_mirrored_set 1)
instance : QF F_mirrored_set := inferInstanceAs (QF (FP _))
theorem ok_mirrored_set {P : Program} {w : World} {K : PySem.W.Frag} {mg : Str → Option Value} {base h : Heap} (T : Tp fa fn tf w K mg base h) : OkF P w K mg base (tbs tf K) 4 "mirrored_set" ["many", "own", "total"] 3 F_mirrored_set := by
  refine OkF.pure (OkF.of (k := 3) (j := 1) (f := m_mirrored_set) T 4 4 rfl rfl sc_mirrored_set rfl rfl (fun _ _ _ _ _ _ us hl => match us, hl with | [_, _, _], _ => rfl) fun A outer s H E hr => ?_)
  exact (ms_cons (ms_expr (m_callO (ok_check_set T) hr (by rfl) (ma_cons (m_var 0) (ma_cons (m_var 1) ma_nil))))
    (ms_one (ms_ret (m_Q (m_callTy cr_tup (by rfl) (T.free 48) (by rfl) (ma_cons (m_callB cr_sortL (by rfl) (T.free 47) (by rfl) (ma_cons (m_lc rfl sc_mirrored_set.nd (mi_seqW (m_var 1)) (blkOk_by (own := [(("one" : Str), 3)]) (by rfl)) (fun _ _ _ _ _ => (mg_name (i := 3) sc_mirrored_set.nd rfl (by first | exact Or.inl rfl | exact Or.inr rfl))) (fun _ _ _ _ _ => mts_nil) (fun _ _ _ _ _ => (m_bin op_modM (m_bin op_subM (m_var 2) (m_var 3)) (m_var 0)))) ma_nil)) ma_nil))))))
/-! ### others_of -/
abbrev st_others_of : Stmt := top 13
theorem sc_others_of : FnScope ["many", "own", "one"] ["many", "own"] (defScope st_others_of) := ⟨rfl, rfl, rfl, by decide +kernel, rfl, by decide +kernel, by decide +kernel⟩
def m_others_of : SM := (mSeq (mDrop (mCall F_check_set (mCons (mVar 0) (mCons (mVar 1) mNil)))) (mRet (mQ (mCall tupL (mCons (mLc (mRng1 (mCons (mVar 0) mNil)) (setN 2) (mTest (mBin (notF inX) (mVar 2) (mVar 1))) (mVar 2) [2]) mNil)))))
def F_others_of : FM := FP (mBody m_others_of 1)
instance : QF F_others_of := inferInstanceAs (QF (FP _))
theorem ok_others_of {P : Program} {w : World} {K : PySem.W.Frag} {mg : Str → Option Value} {base h : Heap} (T : Tp fa fn tf w K mg base h) : OkF P w K mg base (tbs tf K) 4 "others_of" ["many", "own"] 2 F_others_of := by
  refine OkF.pure (OkF.of (k := 3) (j := 1) (f := m_others_of) T 5 5 rfl rfl sc_others_of rfl rfl (fun _ _ _ _ _ _ us hl => match us, hl with | [_, _], _ => rfl) fun A outer s H E hr => ?_)
  exact (ms_cons (ms_expr (m_callO (ok_check_set T) hr (by rfl) (ma_cons (m_var 0) (ma_cons (m_var 1) ma_nil))))
    (ms_one (ms_ret (m_Q (m_callTy cr_tup (by rfl) (T.free 48) (by rfl) (ma_cons (m_lc rfl sc_others_of.nd (mi_w (mi_range1 (by rfl) (T.free 45) (ma_cons (m_var 0) ma_nil))) (blkOk_by (own := [(("one" : Str), 2)]) (by rfl)) (fun _ _ _ _ _ => (mg_name (i := 2) sc_others_of.nd rfl (by first | exact Or.inl rfl | exact Or.inr rfl))) (fun _ _ _ _ _ => (mts_one (mt_cmp (op_notInX hr.u65) (m_var 2) (m_var 1)))) (fun _ _ _ _ _ => (m_var 2))) ma_nil))))))
/-! ### interval_counts -/
abbrev st_interval_counts : Stmt := top 14
theorem sc_interval_counts : FnScope ["many", "own", "counts", "i", "k", "gap"] ["many", "own"] (defScope st_interval_counts) := ⟨rfl, rfl, rfl, by decide +kernel, rfl, by decide +kernel, by decide +kernel⟩
def m_interval_counts : SM := (mSeq (mDrop (mCall F_check_set (mCons (mVar 0) (mCons (mVar 1) mNil)))) (mSeq (mSet 2 (mLc (mRng1 (mCons (mBin fdivD (mVar 0) (mC (.int 2))) mNil)) (setN 4) mYes (mC (.int 0)) [4])) (mSeq (mFor (mRng1 (mCons (mCall lenL (mCons (mVar 1) mNil)) mNil)) (setN 3) (mFor (mRng1 (mCons (mVar 3) mNil)) (setN 4) (mSeq (mSet 5 (mBin subD (mBin ixF (mVar 1) (mVar 3)) (mBin ixF (mVar 1) (mVar 4)))) (mAugL (mVar 2) (mBin subD (mCall min2 (mCons (mVar 5) (mCons (mBin subD (mVar 0) (mVar 5)) mNil))) (mC (.int 1))) (fun i j => i + j) (mC (.int 1)))))) (mRet (mCall tupL (mCons (mVar 2) mNil))))))
def F_interval_counts : FM := FP (mBody m_interval_counts 4)
instance : QF F_interval_counts := inferInstanceAs (QF (FP _))
theorem ok_interval_counts {P : Program} {w : World} {K : PySem.W.Frag} {mg : Str → Option Value} {base h : Heap} (T : Tp fa fn tf w K mg base h) : OkF P w K mg base (tbs tf K) 4 "interval_counts" ["many", "own"] 2 F_interval_counts := by
  refine OkF.pure (OkF.of (k := 3) (j := 4) (f := m_interval_counts) T 6 6 rfl rfl sc_interval_counts rfl rfl (fun _ _ _ _ _ _ us hl => match us, hl with | [_, _], _ => rfl) fun A outer s H E hr => ?_)
  exact (ms_cons (ms_expr (m_callO (ok_check_set T) hr (by rfl) (ma_cons (m_var 0) (ma_cons (m_var 1) ma_nil))))
    (ms_cons (ms_setLc (i := 2) rfl sc_interval_counts.nd rfl rfl (by first | rfl | exact sw_true rfl rfl rfl (by decide +kernel)) (mi_w (mi_range1 (by rfl) (T.free 45) (ma_cons (m_bin op_fdivM (m_var 0) m_int) ma_nil))) (blkOk_by (own := [(("k" : Str), 4)]) (by rfl)) (fun _ _ _ _ _ => (mg_name (i := 4) sc_interval_counts.nd rfl (by first | exact Or.inl rfl | exact Or.inr rfl))) (fun _ _ _ _ _ => mts_nil) (fun _ _ _ _ _ => m_int))
    (ms_cons (ms_for PassesOwn.never rfl (mi_range1 (by rfl) (T.free 45) (ma_cons (m_callB cr_len (by rfl) (T.free 42) (by rfl) (ma_cons (m_var 1) ma_nil)) ma_nil)) (mg_name (i := 3) sc_interval_counts.nd rfl (by first | exact Or.inl rfl | exact Or.inr rfl)) (ms_one (ms_for PassesOwn.never rfl (mi_range1 (by rfl) (T.free 45) (ma_cons (m_var 3) ma_nil)) (mg_name (i := 4) sc_interval_counts.nd rfl (by first | exact Or.inl rfl | exact Or.inr rfl)) (ms_cons (ms_set (i := 5) (m_bin op_subM (m_ix (m_var 1) (m_var 3)) (m_ix (m_var 1) (m_var 4))) sc_interval_counts.nd rfl (by first | exact Or.inl rfl | exact Or.inr rfl))
    (ms_one (ms_augL (m_var 2) (m_bin op_subM (m_callB (cr_min2 rfl) (by rfl) (T.free 44) (by rfl) (ma_cons (m_var 5) (ma_cons (m_bin op_subM (m_var 0) (m_var 5)) ma_nil))) m_int) m_int ip_add))))))
    (ms_one (ms_ret (m_callTy cr_tup (by rfl) (T.free 48) (by rfl) (ma_cons (m_var 2) ma_nil)))))))
/-! ### turns_of -/
abbrev st_turns_of : Stmt := top 15
theorem sc_turns_of : FnScope ["many", "own", "k", "one"] ["many", "own"] (defScope st_turns_of) := ⟨rfl, rfl, rfl, by decide +kernel, rfl, by decide +kernel, by decide +kernel⟩
def m_turns_of : SM := (mRet (mQ (mSortST (mRng1 (mCons (mVar 0) mNil)) (setN 2) mYes (mQ (mCall tupL (mCons (mCall sortL (mCons (mLc (mSeqW (mVar 1)) (setN 3) mYes (mBin modD (mBin addD (mVar 3) (mVar 2)) (mVar 0)) [3]) mNil)) mNil))) [2])))
def F_turns_of : FM := FP (mBody m_turns_of 2)
instance : QF F_turns_of := inferInstanceAs (QF (FP _))
theorem ok_turns_of {P : Program} {w : World} {K : PySem.W.Frag} {mg : Str → Option Value} {base h : Heap} (T : Tp fa fn tf w K mg base h) : OkF P w K mg base (tbs tf K) 1 "turns_of" ["many", "own"] 2 F_turns_of := by
  refine OkF.pure (OkF.of (k := 0) (j := 2) (f := m_turns_of) T 7 7 rfl rfl sc_turns_of rfl rfl (fun _ _ _ _ _ _ us hl => match us, hl with | [_, _], _ => rfl) fun A outer s H E hr => ?_)
  exact (ms_one (ms_ret (m_Q (m_sortST (by exact hr) (by rfl) (T.free 47) rfl sc_turns_of.nd (mi_w (mi_range1 (by rfl) (T.free 45) (ma_cons (m_var 0) ma_nil))) (blkOk_by (own := [(("k" : Str), 2)]) (by rfl)) (fun _ _ _ _ _ => (mg_name (i := 2) sc_turns_of.nd rfl (by first | exact Or.inl rfl | exact Or.inr rfl))) (fun _ _ _ _ _ => mts_nil) (fun _ _ _ _ _ => (m_Q (m_callTy cr_tup (by rfl) (T.free 48) (by rfl) (ma_cons (m_callB cr_sortL (by rfl) (T.free 47) (by rfl) (ma_cons (m_lc rfl sc_turns_of.nd (mi_seqW (m_var 1)) (blkOk_by (own := [(("one" : Str), 3)]) (by rfl)) (fun _ _ _ _ _ => (mg_name (i := 3) sc_turns_of.nd rfl (by first | exact Or.inl rfl | exact Or.inr rfl))) (fun _ _ _ _ _ => mts_nil) (fun _ _ _ _ _ => (m_bin op_modM (m_bin op_addM (m_var 3) (m_var 2)) (m_var 0)))) ma_nil)) ma_nil))))))))
/-! ### all_images -/
abbrev st_all_images : Stmt := top 16
theorem sc_all_images : FnScope ["many", "own", "mirror", "one"] ["many", "own"] (defScope st_all_images) := ⟨rfl, rfl, rfl, by decide +kernel, rfl, by decide +kernel, by decide +kernel⟩
def m_all_images : SM := (mSeq (mSet 2 (mQ (mCall tupL (mCons (mCall sortL (mCons (mLc (mSeqW (mVar 1)) (setN 3) mYes (mBin modD (mUn negD (mVar 3)) (mVar 0)) [3]) mNil)) mNil)))) (mRet (mQ (mSortST (mSeqW (mBin addD (mCall F_turns_of (mCons (mVar 0) (mCons (mVar 1) mNil))) (mCall F_turns_of (mCons (mVar 0) (mCons (mVar 2) mNil))))) (setN 3) mYes (mVar 3) [3]))))
def F_all_images : FM := FP (mBody m_all_images 2)
instance : QF F_all_images := inferInstanceAs (QF (FP _))
theorem ok_all_images {P : Program} {w : World} {K : PySem.W.Frag} {mg : Str → Option Value} {base h : Heap} (T : Tp fa fn tf w K mg base h) : OkF P w K mg base (tbs tf K) 2 "all_images" ["many", "own"] 2 F_all_images := by
  refine OkF.pure (OkF.of (k := 1) (j := 2) (f := m_all_images) T 8 8 rfl rfl sc_all_images rfl rfl (fun _ _ _ _ _ _ us hl => match us, hl with | [_, _], _ => rfl) fun A outer s H E hr => ?_)
  exact (ms_cons (ms_set (i := 2) (m_Q (m_callTy cr_tup (by rfl) (T.free 48) (by rfl) (ma_cons (m_callB cr_sortL (by rfl) (T.free 47) (by rfl) (ma_cons (m_lc rfl sc_all_images.nd (mi_seqW (m_var 1)) (blkOk_by (own := [(("one" : Str), 3)]) (by rfl)) (fun _ _ _ _ _ => (mg_name (i := 3) sc_all_images.nd rfl (by first | exact Or.inl rfl | exact Or.inr rfl))) (fun _ _ _ _ _ => mts_nil) (fun _ _ _ _ _ => (m_bin op_modM (m_un un_negM (m_var 3)) (m_var 0)))) ma_nil)) ma_nil))) sc_all_images.nd rfl (by first | exact Or.inl rfl | exact Or.inr rfl))
    (ms_one (ms_ret (m_Q (m_sortST (by exact hr) (by rfl) (T.free 47) rfl sc_all_images.nd (mi_seqW (m_bin op_addM (m_callO (ok_turns_of T) hr (by rfl) (ma_cons (m_var 0) (ma_cons (m_var 1) ma_nil))) (m_callO (ok_turns_of T) hr (by rfl) (ma_cons (m_var 0) (ma_cons (m_var 2) ma_nil))))) (blkOk_by (own := [(("one" : Str), 3)]) (by rfl)) (fun _ _ _ _ _ => (mg_name (i := 3) sc_all_images.nd rfl (by first | exact Or.inl rfl | exact Or.inr rfl))) (fun _ _ _ _ _ => mts_nil) (fun _ _ _ _ _ => (m_var 3)))))))
/-! ### first_image -/
abbrev st_first_image : Stmt := top 17
theorem sc_first_image : FnScope ["many", "own"] ["many", "own"] (defScope st_first_image) := ⟨rfl, rfl, rfl, by decide +kernel, rfl, by decide +kernel, by decide +kernel⟩
def m_first_image : SM := (mSeq (mDrop (mCall F_check_set (mCons (mVar 0) (mCons (mVar 1) mNil)))) (mRet (mBin ixF (mCall F_all_images (mCons (mVar 0) (mCons (mVar 1) mNil))) (mC (.int 0)))))
def F_first_image : FM := FP (mBody m_first_image 0)
instance : QF F_first_image := inferInstanceAs (QF (FP _))
theorem ok_first_image {P : Program} {w : World} {K : PySem.W.Frag} {mg : Str → Option Value} {base h : Heap} (T : Tp fa fn tf w K mg base h) : OkF P w K mg base (tbs tf K) 4 "first_image" ["many", "own"] 2 F_first_image := by
  refine OkF.pure (OkF.of (k := 3) (j := 0) (f := m_first_image) T 9 9 rfl rfl sc_first_image rfl rfl (fun _ _ _ _ _ _ us hl => match us, hl with | [_, _], _ => rfl) fun A outer s H E hr => ?_)
  exact (ms_cons (ms_expr (m_callO (ok_check_set T) hr (by rfl) (ma_cons (m_var 0) (ma_cons (m_var 1) ma_nil))))
    (ms_one (ms_ret (m_ix (m_callO (ok_all_images T) (hr.mono (by decide)) (by rfl) (ma_cons (m_var 0) (ma_cons (m_var 1) ma_nil))) m_int))))
/-! ### own_turns -/
abbrev st_own_turns : Stmt := top 18
theorem sc_own_turns : FnScope ["many", "own", "k"] ["many", "own"] (defScope st_own_turns) := ⟨rfl, rfl, rfl, by decide +kernel, rfl, by decide +kernel, by decide +kernel⟩
def m_own_turns : SM := (mSeq (mDrop (mCall F_check_set (mCons (mVar 0) (mCons (mVar 1) mNil)))) (mRet (mQ (mCall tupL (mCons (mLc (mRng1 (mCons (mVar 0) mNil)) (setN 2) (mTest (mBin eqD (mCall F_moved_set (mCons (mVar 0) (mCons (mVar 1) (mCons (mVar 2) mNil)))) (mVar 1))) (mVar 2) [2]) mNil)))))
def F_own_turns : FM := FP (mBody m_own_turns 1)
instance : QF F_own_turns := inferInstanceAs (QF (FP _))
theorem ok_own_turns {P : Program} {w : World} {K : PySem.W.Frag} {mg : Str → Option Value} {base h : Heap} (T : Tp fa fn tf w K mg base h) : OkF P w K mg base (tbs tf K) 5 "own_turns" ["many", "own"] 2 F_own_turns := by
  refine OkF.pure (OkF.of (k := 4) (j := 1) (f := m_own_turns) T 10 10 rfl rfl sc_own_turns rfl rfl (fun _ _ _ _ _ _ us hl => match us, hl with | [_, _], _ => rfl) fun A outer s H E hr => ?_)
  exact (ms_cons (ms_expr (m_callO (ok_check_set T) (hr.mono (by decide)) (by rfl) (ma_cons (m_var 0) (ma_cons (m_var 1) ma_nil))))
    (ms_one (ms_ret (m_Q (m_callTy cr_tup (by rfl) (T.free 48) (by rfl) (ma_cons (m_lc rfl sc_own_turns.nd (mi_w (mi_range1 (by rfl) (T.free 45) (ma_cons (m_var 0) ma_nil))) (blkOk_by (own := [(("k" : Str), 2)]) (by rfl)) (fun _ _ _ _ _ => (mg_name (i := 2) sc_own_turns.nd rfl (by first | exact Or.inl rfl | exact Or.inr rfl))) (fun _ _ _ _ _ => (mts_one (mt_cmp (op_eqM hr.u64) (m_callO (ok_moved_set T) hr (by rfl) (ma_cons (m_var 0) (ma_cons (m_var 1) (ma_cons (m_var 2) ma_nil)))) (m_var 1)))) (fun _ _ _ _ _ => (m_var 2))) ma_nil))))))
/-! ### is_one_kind -/
abbrev st_is_one_kind : Stmt := top 19
theorem sc_is_one_kind : FnScope ["many", "first", "second"] ["many", "first", "second"] (defScope st_is_one_kind) := ⟨rfl, rfl, rfl, by decide +kernel, rfl, by decide +kernel, by decide +kernel⟩
def m_is_one_kind : SM := (mSeq (mDrop (mCall F_check_set (mCons (mVar 0) (mCons (mVar 1) mNil)))) (mSeq (mDrop (mCall F_check_set (mCons (mVar 0) (mCons (mVar 2) mNil)))) (mRet (mBin eqD (mCall F_first_image (mCons (mVar 0) (mCons (mVar 1) mNil))) (mCall F_first_image (mCons (mVar 0) (mCons (mVar 2) mNil)))))))
def F_is_one_kind : FM := FP (mBody m_is_one_kind 0)
instance : QF F_is_one_kind := inferInstanceAs (QF (FP _))
theorem ok_is_one_kind {P : Program} {w : World} {K : PySem.W.Frag} {mg : Str → Option Value} {base h : Heap} (T : Tp fa fn tf w K mg base h) : OkF P w K mg base (tbs tf K) 5 "is_one_kind" ["many", "first", "second"] 3 F_is_one_kind := by
  refine OkF.pure (OkF.of (k := 4) (j := 0) (f := m_is_one_kind) T 11 11 rfl rfl sc_is_one_kind rfl rfl (fun _ _ _ _ _ _ us hl => match us, hl with | [_, _, _], _ => rfl) fun A outer s H E hr => ?_)
  exact (ms_cons (ms_expr (m_callO (ok_check_set T) (hr.mono (by decide)) (by rfl) (ma_cons (m_var 0) (ma_cons (m_var 1) ma_nil))))
    (ms_cons (ms_expr (m_callO (ok_check_set T) (hr.mono (by decide)) (by rfl) (ma_cons (m_var 0) (ma_cons (m_var 2) ma_nil))))
    (ms_one (ms_ret (m_cmp (op_eqM hr.u64) (m_callO (ok_first_image T) hr (by rfl) (ma_cons (m_var 0) (ma_cons (m_var 1) ma_nil))) (m_callO (ok_first_image T) hr (by rfl) (ma_cons (m_var 0) (ma_cons (m_var 2) ma_nil))))))))
/-! ### all_sets -/
abbrev st_all_sets : Stmt := top 20
theorem sc_all_sets : FnScope ["many", "size", "found", "one", "own"] ["many", "size"] (defScope st_all_sets) := ⟨rfl, rfl, rfl, by decide +kernel, rfl, by decide +kernel, by decide +kernel⟩
def m_all_sets : SM := (mSeq (mSet 2 (mLst (mCons (mTup mNil) mNil))) (mSeq (mFor (mRng1 (mCons (mVar 0) mNil)) (setN 3) (mSet 2 (mQ (mBin addD (mVar 2) (mLc (mSeqW (mVar 2)) (setN 4) (mTest (mBin ltD (mCall lenL (mCons (mVar 4) mNil)) (mVar 1))) (mBin addD (mVar 4) (mTup (mCons (mVar 3) mNil))) [4]))))) (mRet (mQ (mCall sortTL (mCons (mLc (mSeqW (mVar 2)) (setN 4) (mTest (mBin eqD (mCall lenL (mCons (mVar 4) mNil)) (mVar 1))) (mVar 4) [4]) mNil))))))
def F_all_sets : FM := FP (mBody m_all_sets 3)
instance : QF F_all_sets := inferInstanceAs (QF (FP _))
theorem ok_all_sets {P : Program} {w : World} {K : PySem.W.Frag} {mg : Str → Option Value} {base h : Heap} (T : Tp fa fn tf w K mg base h) : OkF P w K mg base (tbs tf K) 1 "all_sets" ["many", "size"] 2 F_all_sets := by
  refine OkF.pure (OkF.of (k := 0) (j := 3) (f := m_all_sets) T 12 12 rfl rfl sc_all_sets rfl rfl (fun _ _ _ _ _ _ us hl => match us, hl with | [_, _], _ => rfl) fun A outer s H E hr => ?_)
  exact (ms_cons (ms_set (i := 2) (m_lst (ma_cons (m_tup ma_nil) ma_nil)) sc_all_sets.nd rfl (by first | exact Or.inl rfl | exact Or.inr rfl))
    (ms_cons (ms_for PassesOwn.never rfl (mi_range1 (by rfl) (T.free 45) (ma_cons (m_var 0) ma_nil)) (mg_name (i := 3) sc_all_sets.nd rfl (by first | exact Or.inl rfl | exact Or.inr rfl)) (ms_one (ms_set (i := 2) (m_Q (m_bin op_addM (m_var 2) (m_lc rfl sc_all_sets.nd (mi_seqW (m_var 2)) (blkOk_by (own := [(("own" : Str), 4)]) (by rfl)) (fun _ _ _ _ _ => (mg_name (i := 4) sc_all_sets.nd rfl (by first | exact Or.inl rfl | exact Or.inr rfl))) (fun _ _ _ _ _ => (mts_one (mt_cmp op_ltM (m_callB cr_len (by rfl) (T.free 42) (by rfl) (ma_cons (m_var 4) ma_nil)) (m_var 1)))) (fun _ _ _ _ _ => (m_bin op_addM (m_var 4) (m_tup (ma_cons (m_var 3) ma_nil))))))) sc_all_sets.nd rfl (by first | exact Or.inl rfl | exact Or.inr rfl))))
    (ms_one (ms_ret (m_Q (m_callB (cr_sortTL hr.u64) (by rfl) (T.free 47) (by rfl) (ma_cons (m_lc rfl sc_all_sets.nd (mi_seqW (m_var 2)) (blkOk_by (own := [(("own" : Str), 4)]) (by rfl)) (fun _ _ _ _ _ => (mg_name (i := 4) sc_all_sets.nd rfl (by first | exact Or.inl rfl | exact Or.inr rfl))) (fun _ _ _ _ _ => (mts_one (mt_cmp (op_eqM hr.u64) (m_callB cr_len (by rfl) (T.free 42) (by rfl) (ma_cons (m_var 4) ma_nil)) (m_var 1)))) (fun _ _ _ _ _ => (m_var 4))) ma_nil)))))))
/-! ### choices -/
abbrev st_choices : Stmt := top 22
theorem sc_choices : FnScope ["many", "size", "top", "k"] ["many", "size"] (defScope st_choices) := ⟨rfl, rfl, rfl, by decide +kernel, rfl, by decide +kernel, by decide +kernel⟩
def m_choices : SM := (mSeq (mSet 2 (mC (.int 1))) (mSeq (mFor (mRng1 (mCons (mVar 1) mNil)) (setN 3) (mSet 2 (mBin fdivD (mBin mulI (mVar 2) (mBin subD (mVar 0) (mVar 3))) (mBin addD (mVar 3) (mC (.int 1)))))) (mRet (mVar 2))))
def F_choices : FM := FP (mBody m_choices 2)
instance : QF F_choices := inferInstanceAs (QF (FP _))
theorem ok_choices {P : Program} {w : World} {K : PySem.W.Frag} {mg : Str → Option Value} {base h : Heap} (T : Tp fa fn tf w K mg base h) : OkF P w K mg base (tbs tf K) 1 "choices" ["many", "size"] 2 F_choices := by
  refine OkF.pure (OkF.of (k := 0) (j := 2) (f := m_choices) T 14 14 rfl rfl sc_choices rfl rfl (fun _ _ _ _ _ _ us hl => match us, hl with | [_, _], _ => rfl) fun A outer s H E hr => ?_)
  exact (ms_cons (ms_set (i := 2) m_int sc_choices.nd rfl (by first | exact Or.inl rfl | exact Or.inr rfl))
    (ms_cons (ms_for PassesOwn.never rfl (mi_range1 (by rfl) (T.free 45) (ma_cons (m_var 1) ma_nil)) (mg_name (i := 3) sc_choices.nd rfl (by first | exact Or.inl rfl | exact Or.inr rfl)) (ms_one (ms_set (i := 2) (m_bin op_fdivM (m_bin op_mulM (m_var 2) (m_bin op_subM (m_var 0) (m_var 3))) (m_bin op_addM (m_var 3) m_int)) sc_choices.nd rfl (by first | exact Or.inl rfl | exact Or.inr rfl))))
    (ms_one (ms_ret (m_var 2)))))
/-! ### kinds_of -/
abbrev st_kinds_of : Stmt := top 21
theorem sc_kinds_of : FnScope ["many", "size", "most", "own"] ["many", "size", "most"] (defScope st_kinds_of) := ⟨rfl, rfl, rfl, by decide +kernel, rfl, by decide +kernel, by decide +kernel⟩
def m_kinds_of : SM := (mSeq (mDrop (mCall F_check_round (mCons (mVar 0) mNil))) (mSeq (mIfS (mOrB (mNotB (mTru (mCall F_is_number (mCons (mVar 1) mNil)))) (mNotB (mTest (mChain leD leD (mC (.int 0)) (mVar 1) (mVar 0))))) mNever mNext) (mSeq (mIfS (mTest (mBin gtD (mCall F_choices (mCons (mVar 0) (mCons (mVar 1) mNil))) (mVar 2))) mNever mNext) (mRet (mQ (mCall tupL (mCons (mLc (mSeqW (mCall F_all_sets (mCons (mVar 0) (mCons (mVar 1) mNil)))) (setN 3) (mTest (mBin eqD (mCall F_first_image (mCons (mVar 0) (mCons (mVar 3) mNil))) (mVar 3))) (mVar 3) [3]) mNil)))))))
def F0_kinds_of : FM := FP (mBody m_kinds_of 1)
instance : QF F0_kinds_of := inferInstanceAs (QF (FP _))
theorem ok0_kinds_of {P : Program} {w : World} {K : PySem.W.Frag} {mg : Str → Option Value} {base h : Heap} (T : Tp fa fn tf w K mg base h) : OkFN P w K mg base (tbs tf K) 5 "kinds_of" ["many", "size", "most"] 2 ["most"] F0_kinds_of := by
  refine OkFN.pure (OkFN.of (k := 4) (n := 2) (b := 3) (j := 1) (f := m_kinds_of) (kwd := [("most", .int 5000)]) T 13 13 rfl rfl sc_kinds_of rfl rfl rfl (fun _ _ _ _ _ _ us ws h1 h2 => match us, ws, h1, h2 with | [_, _], [_], _, _ => rfl) fun A outer s H E hr => ?_)
  exact (ms_cons (ms_expr (m_callO (ok_check_round T) (hr.mono (by decide)) (by rfl) (ma_cons (m_var 0) ma_nil)))
    (ms_cons (ms_if (PW.pt (mw_or (mt_not (mt_truth (m_callO (ok_is_number T) (hr.mono (by decide)) (by rfl) (ma_cons (m_var 1) ma_nil)))) (mw_or1 (mt_not (mt_chain op_leM op_leM m_int (m_var 1) (m_var 0)))))) mss_never ms_nil)
    (ms_cons (ms_if (mt_cmp op_gtM (m_callO (ok_choices T) (hr.mono (by decide)) (by rfl) (ma_cons (m_var 0) (ma_cons (m_var 1) ma_nil))) (m_var 2)) mss_never ms_nil)
    (ms_one (ms_ret (m_Q (m_callTy cr_tup (by rfl) (T.free 48) (by rfl) (ma_cons (m_lc rfl sc_kinds_of.nd (mi_seqW (m_callO (ok_all_sets T) (hr.mono (by decide)) (by rfl) (ma_cons (m_var 0) (ma_cons (m_var 1) ma_nil)))) (blkOk_by (own := [(("own" : Str), 3)]) (by rfl)) (fun _ _ _ _ _ => (mg_name (i := 3) sc_kinds_of.nd rfl (by first | exact Or.inl rfl | exact Or.inr rfl))) (fun _ _ _ _ _ => (mts_one (mt_cmp (op_eqM hr.u64) (m_callO (ok_first_image T) hr (by rfl) (ma_cons (m_var 0) (ma_cons (m_var 3) ma_nil))) (m_var 3)))) (fun _ _ _ _ _ => (m_var 3))) ma_nil))))))))
def K84 : D := .tup [tI [0, 1, 2, 3], tI [0, 1, 2, 4], tI [0, 1, 2, 5], tI [0, 1, 3, 4], tI [0, 1, 3, 5], tI [0, 1, 3, 6], tI [0, 1, 4, 5], tI [0, 2, 4, 6]]
theorem kd84 : F0_kinds_of [.int 8, .int 4, .int 5000] [] = some (K84, []) := by kernel_rfl
def kdF : FM := fun ds hs => match ds with
  | [.int a, .int b, .int c] => match intEq a 8, intEq b 4, intEq c 5000 with
    | true, true, true => some (K84, hs)
    | _, _, _ => F0_kinds_of ds hs
  | _ => F0_kinds_of ds hs
instance : QF kdF := ⟨fun ds hs d hs' h => by
  unfold kdF at h
  split at h
  · split at h
    · cases h; exact .refl
    · exact QF.q _ _ _ _ h
  · exact QF.q _ _ _ _ h⟩
theorem kdF_ok {ds : List D} {hs : Hs} {r : D × Hs} (h : kdF ds hs = some r) : F0_kinds_of ds hs = some r := by
  unfold kdF at h
  split at h
  · rename_i a b c
    split at h
    · rename_i e1 e2 e3
      cases h
      rw [intEq_iff.mp e1, intEq_iff.mp e2, intEq_iff.mp e3]
      exact fp_at kd84 (by kernel_rfl) hs
    · exact h
  · exact h

def F_kinds_of : FM := kdF
instance : QF F_kinds_of := inferInstanceAs (QF kdF)
theorem ok_kinds_of {P : Program} {w : World} {K : PySem.W.Frag} {mg : Str → Option Value} {base h : Heap} (T : Tp fa fn tf w K mg base h) : OkFN P w K mg base (tbs tf K) 5 "kinds_of" ["many", "size", "most"] 2 ["most"] F_kinds_of :=
  (ok0_kinds_of T).than fun _ _ _ e => kdF_ok e
/-! ### twins_of -/
abbrev st_twins_of : Stmt := top 23
theorem sc_twins_of : FnScope ["many", "own", "most", "counts", "found", "mine", "one"] ["many", "own", "most"] (defScope st_twins_of) := ⟨rfl, rfl, rfl, by decide +kernel, rfl, by decide +kernel, by decide +kernel⟩
def m_twins_of : SM := (mSeq (mDrop (mCall F_check_set (mCons (mVar 0) (mCons (mVar 1) mNil)))) (mSeq (mSet 3 (mCall F_interval_counts (mCons (mVar 0) (mCons (mVar 1) mNil)))) (mSeq (mSet 4 (mCall F_kinds_of (mSnoc (mCons (mVar 0) (mCons (mCall lenL (mCons (mVar 1) mNil)) mNil)) (mVar 2)))) (mSeq (mSet 5 (mCall F_first_image (mCons (mVar 0) (mCons (mVar 1) mNil)))) (mRet (mQ (mCall tupL (mCons (mLc (mSeqW (mVar 4)) (setN 6) (mAndB (mTest (mBin (notF eqD) (mVar 6) (mVar 5))) (mTest (mBin eqD (mCall F_interval_counts (mCons (mVar 0) (mCons (mVar 6) mNil))) (mVar 3)))) (mVar 6) [6]) mNil))))))))
def F_twins_of : FM := FP (mBody m_twins_of 4)
instance : QF F_twins_of := inferInstanceAs (QF (FP _))
theorem ok_twins_of {P : Program} {w : World} {K : PySem.W.Frag} {mg : Str → Option Value} {base h : Heap} (T : Tp fa fn tf w K mg base h) : OkFK P w K mg base (tbs tf K) 6 "twins_of" ["many", "own", "most"] 2 3 [.int 5000] F_twins_of := by
  refine OkFK.pure (OkFK.of (k := 5) (n := 2) (j := 4) (f := m_twins_of) (kwd := [("most", .int 5000)]) T 15 15 rfl rfl sc_twins_of rfl rfl (by simp) rfl rfl (fun _ _ => .cons (.int 5000) (.nil)) (fun _ _ _ _ _ _ us ks h1 h2 => match us, ks, h1, h2 with | [_, _], [_], _, _ => ⟨_, _, _, _, _, _, rfl, rfl, rfl⟩) fun A outer s H E hr => ?_)
  exact (ms_cons (ms_expr (m_callO (ok_check_set T) (hr.mono (by decide)) (by rfl) (ma_cons (m_var 0) (ma_cons (m_var 1) ma_nil))))
    (ms_cons (ms_set (i := 3) (m_callO (ok_interval_counts T) (hr.mono (by decide)) (by rfl) (ma_cons (m_var 0) (ma_cons (m_var 1) ma_nil))) sc_twins_of.nd rfl (by first | exact Or.inl rfl | exact Or.inr rfl))
    (ms_cons (ms_set (i := 4) (m_callKN (ok_kinds_of T) hr (by rfl) (ma_cons (m_var 0) (ma_cons (m_callB cr_len (by rfl) (T.free 42) (by rfl) (ma_cons (m_var 1) ma_nil)) ma_nil)) (m_var 2)) sc_twins_of.nd rfl (by first | exact Or.inl rfl | exact Or.inr rfl))
    (ms_cons (ms_set (i := 5) (m_callO (ok_first_image T) (hr.mono (by decide)) (by rfl) (ma_cons (m_var 0) (ma_cons (m_var 1) ma_nil))) sc_twins_of.nd rfl (by first | exact Or.inl rfl | exact Or.inr rfl))
    (ms_one (ms_ret (m_Q (m_callTy cr_tup (by rfl) (T.free 48) (by rfl) (ma_cons (m_lc rfl sc_twins_of.nd (mi_seqW (m_var 4)) (blkOk_by (own := [(("one" : Str), 6)]) (by rfl)) (fun _ _ _ _ _ => (mg_name (i := 6) sc_twins_of.nd rfl (by first | exact Or.inl rfl | exact Or.inr rfl))) (fun _ _ _ _ _ => (mts_one (PW.pt (mw_and (mt_cmp (op_neM hr.u64) (m_var 6) (m_var 5)) (mw_and1 (mt_cmp (op_eqM hr.u64) (m_callO (ok_interval_counts T) (hr.mono (by decide)) (by rfl) (ma_cons (m_var 0) (ma_cons (m_var 6) ma_nil))) (m_var 3))))))) (fun _ _ _ _ _ => (m_var 6))) ma_nil)))))))))
/-! ### check_row -/
abbrev st_check_row : Stmt := top 25
theorem sc_check_row : FnScope ["row", "one"] ["row"] (defScope st_check_row) := ⟨rfl, rfl, rfl, by decide +kernel, rfl, by decide +kernel, by decide +kernel⟩
def m_check_row : SM := (mSeq (mIfS (mOrB (mNotB (mTru (mUn (isiF isTup) (mVar 0)))) (mNotB (mTru (mAg false (mSeqW (mVar 0)) (setN 1) mYes (mCall F_is_number (mCons (mVar 1) mNil)) [1])))) mNever mNext) (mSeq (mDrop (mCall F_check_round (mCons (mCall lenL (mCons (mVar 0) mNil)) mNil))) (mIfS (mQB (mTest (mBin (notF eqD) (mCall sortT (mCons (mVar 0) mNil)) (mLstRg (mRg1 (mCall lenL (mCons (mVar 0) mNil))))))) mNever mNext)))
def F_check_row : FM := FP (mBody m_check_row 1)
instance : QF F_check_row := inferInstanceAs (QF (FP _))
theorem ok_check_row {P : Program} {w : World} {K : PySem.W.Frag} {mg : Str → Option Value} {base h : Heap} (T : Tp fa fn tf w K mg base h) : OkF P w K mg base (tbs tf K) 3 "check_row" ["row"] 1 F_check_row := by
  refine OkF.pure (OkF.of (k := 2) (j := 1) (f := m_check_row) T 16 16 rfl rfl sc_check_row rfl rfl (fun _ _ _ _ _ _ us hl => match us, hl with | [_], _ => rfl) fun A outer s H E hr => ?_)
  exact (ms_cons (ms_if (PW.pt (mw_or (mt_not (mt_truth (m_isi isi_tup (by rfl) (T.free 41) (by rfl) (T.free 48) (by rfl) (m_var 0)))) (mw_or1 (mt_not (mt_truth (m_all (k := 1) (by exact hr) (by rfl) (T.free 38) rfl sc_check_row.nd (T.tab 1) rfl (tab_mem 1) ⟨by rfl, by decide +kernel, by rfl⟩ (blkOk_by (own := [(("one" : Str), 1)]) (by rfl)) (mi_seqW (m_var 0)) (fun _ _ _ _ _ _ _ hr1 => (mg_name (i := 1) sc_check_row.nd rfl (by first | exact Or.inl rfl | exact Or.inr rfl))) (fun _ _ _ _ _ _ _ hr1 => mts_nil) (fun _ _ _ _ _ _ _ hr1 => (m_callO (ok_is_number T) hr1 (by rfl) (ma_cons (m_var 1) ma_nil))))))))) mss_never ms_nil)
    (ms_cons (ms_expr (m_callO (ok_check_round T) hr (by rfl) (ma_cons (m_callB cr_len (by rfl) (T.free 42) (by rfl) (ma_cons (m_var 0) ma_nil)) ma_nil)))
    (ms_one (ms_if (mt_Q (mt_cmp (op_neM hr.u64) (m_callB cr_sortT (by rfl) (T.free 47) (by rfl) (ma_cons (m_var 0) ma_nil)) (m_lstRg rfl (by rfl) (T.free 43) (m_rg1 (by rfl) (T.free 45) (m_callB cr_len (by rfl) (T.free 42) (by rfl) (ma_cons (m_var 0) ma_nil)))))) mss_never ms_nil))))
/-! ### moved_row -/
abbrev st_moved_row : Stmt := top 26
theorem sc_moved_row : FnScope ["row", "steps", "one"] ["row", "steps"] (defScope st_moved_row) := ⟨rfl, rfl, rfl, by decide +kernel, rfl, by decide +kernel, by decide +kernel⟩
def m_moved_row : SM := (mSeq (mDrop (mCall F_check_row (mCons (mVar 0) mNil))) (mRet (mQ (mCall tupL (mCons (mLc (mSeqW (mVar 0)) (setN 2) mYes (mBin modD (mBin addD (mVar 2) (mVar 1)) (mCall lenL (mCons (mVar 0) mNil))) [2]) mNil)))))
def F_moved_row : FM := FP (mBody m_moved_row 1)
instance : QF F_moved_row := inferInstanceAs (QF (FP _))
theorem ok_moved_row {P : Program} {w : World} {K : PySem.W.Frag} {mg : Str → Option Value} {base h : Heap} (T : Tp fa fn tf w K mg base h) : OkF P w K mg base (tbs tf K) 4 "moved_row" ["row", "steps"] 2 F_moved_row := by
  refine OkF.pure (OkF.of (k := 3) (j := 1) (f := m_moved_row) T 17 17 rfl rfl sc_moved_row rfl rfl (fun _ _ _ _ _ _ us hl => match us, hl with | [_, _], _ => rfl) fun A outer s H E hr => ?_)
  exact (ms_cons (ms_expr (m_callO (ok_check_row T) hr (by rfl) (ma_cons (m_var 0) ma_nil)))
    (ms_one (ms_ret (m_Q (m_callTy cr_tup (by rfl) (T.free 48) (by rfl) (ma_cons (m_lc rfl sc_moved_row.nd (mi_seqW (m_var 0)) (blkOk_by (own := [(("one" : Str), 2)]) (by rfl)) (fun _ _ _ _ _ => (mg_name (i := 2) sc_moved_row.nd rfl (by first | exact Or.inl rfl | exact Or.inr rfl))) (fun _ _ _ _ _ => mts_nil) (fun _ _ _ _ _ => (m_bin op_modM (m_bin op_addM (m_var 2) (m_var 1)) (m_callB cr_len (by rfl) (T.free 42) (by rfl) (ma_cons (m_var 0) ma_nil))))) ma_nil))))))
/-! ### backwards -/
abbrev st_backwards : Stmt := top 27
theorem sc_backwards : FnScope ["row"] ["row"] (defScope st_backwards) := ⟨rfl, rfl, rfl, by decide +kernel, rfl, by decide +kernel, by decide +kernel⟩
def m_backwards : SM := (mSeq (mDrop (mCall F_check_row (mCons (mVar 0) mNil))) (mRet (mTupRev (mVar 0))))
def F_backwards : FM := FP (mBody m_backwards 0)
instance : QF F_backwards := inferInstanceAs (QF (FP _))
theorem ok_backwards {P : Program} {w : World} {K : PySem.W.Frag} {mg : Str → Option Value} {base h : Heap} (T : Tp fa fn tf w K mg base h) : OkF P w K mg base (tbs tf K) 4 "backwards" ["row"] 1 F_backwards := by
  refine OkF.pure (OkF.of (k := 3) (j := 0) (f := m_backwards) T 18 18 rfl rfl sc_backwards rfl rfl (fun _ _ _ _ _ _ us hl => match us, hl with | [_], _ => rfl) fun A outer s H E hr => ?_)
  exact (ms_cons (ms_expr (m_callO (ok_check_row T) hr (by rfl) (ma_cons (m_var 0) ma_nil)))
    (ms_one (ms_ret (m_tupRev rfl (by rfl) (T.free 48) (by rfl) (T.free 46) (m_var 0)))))
/-! ### parts_of -/
abbrev st_parts_of : Stmt := top 28
theorem sc_parts_of : FnScope ["row", "size", "k"] ["row", "size"] (defScope st_parts_of) := ⟨rfl, rfl, rfl, by decide +kernel, rfl, by decide +kernel, by decide +kernel⟩
def m_parts_of : SM := (mSeq (mDrop (mCall F_check_row (mCons (mVar 0) mNil))) (mSeq (mIfS (mOrB (mNotB (mTru (mCall F_is_number (mCons (mVar 1) mNil)))) (mOrB (mTest (mBin ltD (mVar 1) (mC (.int 1)))) (mTest (mBin (notF eqD) (mBin modD (mCall lenL (mCons (mVar 0) mNil)) (mVar 1)) (mC (.int 0)))))) mNever mNext) (mRet (mQ (mCall tupL (mCons (mLc (mRng3 (mCons (mC (.int 0)) (mCons (mCall lenL (mCons (mVar 0) mNil)) (mCons (mVar 1) mNil)))) (setN 2) mYes (mQ (mCall tupL (mCons (mCall sortT (mCons (mSl slF (mVar 0) (mPart (mVar 2)) (mPart (mBin addD (mVar 2) (mVar 1)))) mNil)) mNil))) [2]) mNil))))))
def F_parts_of : FM := FP (mBody m_parts_of 1)
instance : QF F_parts_of := inferInstanceAs (QF (FP _))
theorem ok_parts_of {P : Program} {w : World} {K : PySem.W.Frag} {mg : Str → Option Value} {base h : Heap} (T : Tp fa fn tf w K mg base h) : OkF P w K mg base (tbs tf K) 4 "parts_of" ["row", "size"] 2 F_parts_of := by
  refine OkF.pure (OkF.of (k := 3) (j := 1) (f := m_parts_of) T 19 19 rfl rfl sc_parts_of rfl rfl (fun _ _ _ _ _ _ us hl => match us, hl with | [_, _], _ => rfl) fun A outer s H E hr => ?_)
  exact (ms_cons (ms_expr (m_callO (ok_check_row T) hr (by rfl) (ma_cons (m_var 0) ma_nil)))
    (ms_cons (ms_if (PW.pt (mw_or (mt_not (mt_truth (m_callO (ok_is_number T) (hr.mono (by decide)) (by rfl) (ma_cons (m_var 1) ma_nil)))) (mw_or (mt_cmp op_ltM (m_var 1) m_int) (mw_or1 (mt_cmp (op_neM hr.u64) (m_bin op_modM (m_callB cr_len (by rfl) (T.free 42) (by rfl) (ma_cons (m_var 0) ma_nil)) (m_var 1)) m_int))))) mss_never ms_nil)
    (ms_one (ms_ret (m_Q (m_callTy cr_tup (by rfl) (T.free 48) (by rfl) (ma_cons (m_lc rfl sc_parts_of.nd (mi_w (mi_range3 (by rfl) (T.free 45) (ma_cons m_int (ma_cons (m_callB cr_len (by rfl) (T.free 42) (by rfl) (ma_cons (m_var 0) ma_nil)) (ma_cons (m_var 1) ma_nil))))) (blkOk_by (own := [(("k" : Str), 2)]) (by rfl)) (fun _ _ _ _ _ => (mg_name (i := 2) sc_parts_of.nd rfl (by first | exact Or.inl rfl | exact Or.inr rfl))) (fun _ _ _ _ _ => mts_nil) (fun _ _ _ _ _ => (m_Q (m_callTy cr_tup (by rfl) (T.free 48) (by rfl) (ma_cons (m_callB cr_sortT (by rfl) (T.free 47) (by rfl) (ma_cons (m_slice (m_var 0) (mo_some (m_var 2)) (mo_some (m_bin op_addM (m_var 2) (m_var 1)))) ma_nil)) ma_nil))))) ma_nil)))))))
/-! ### halves_that_fit -/
abbrev st_halves_that_fit : Stmt := top 29
theorem sc_halves_that_fit : FnScope ["row", "many", "first", "second", "moved", "turned", "k"] ["row"] (defScope st_halves_that_fit) := ⟨rfl, rfl, rfl, by decide +kernel, rfl, by decide +kernel, by decide +kernel⟩
def m_halves_that_fit : SM := (mSeq (mDrop (mCall F_check_row (mCons (mVar 0) mNil))) (mSeq (mIfS (mTest (mBin (notF eqD) (mBin modD (mCall lenL (mCons (mVar 0) mNil)) (mC (.int 2))) (mC (.int 0)))) mNever mNext) (mSeq (mSet 1 (mCall lenL (mCons (mVar 0) mNil))) (mSeq (mAsgT (setT [2, 3]) (mCall F_parts_of (mCons (mVar 0) (mCons (mBin fdivD (mVar 1) (mC (.int 2))) mNil)))) (mSeq (mSet 4 (mQ (mCall tupL (mCons (mLc (mRng1 (mCons (mVar 1) mNil)) (setN 6) (mTest (mBin eqD (mCall F_moved_set (mCons (mVar 1) (mCons (mVar 2) (mCons (mVar 6) mNil)))) (mVar 3))) (mVar 6) [6]) mNil)))) (mSeq (mSet 5 (mQ (mCall tupL (mCons (mLc (mRng1 (mCons (mVar 1) mNil)) (setN 6) (mTest (mBin eqD (mCall F_mirrored_set (mCons (mVar 1) (mCons (mVar 2) (mCons (mVar 6) mNil)))) (mVar 3))) (mVar 6) [6]) mNil)))) (mRet (mTup (mCons (mVar 4) (mCons (mVar 5) mNil))))))))))
def F_halves_that_fit : FM := FP (mBody m_halves_that_fit 6)
instance : QF F_halves_that_fit := inferInstanceAs (QF (FP _))
theorem ok_halves_that_fit {P : Program} {w : World} {K : PySem.W.Frag} {mg : Str → Option Value} {base h : Heap} (T : Tp fa fn tf w K mg base h) : OkF P w K mg base (tbs tf K) 5 "halves_that_fit" ["row"] 1 F_halves_that_fit := by
  refine OkF.pure (OkF.of (k := 4) (j := 6) (f := m_halves_that_fit) T 20 20 rfl rfl sc_halves_that_fit rfl rfl (fun _ _ _ _ _ _ us hl => match us, hl with | [_], _ => rfl) fun A outer s H E hr => ?_)
  exact (ms_cons (ms_expr (m_callO (ok_check_row T) (hr.mono (by decide)) (by rfl) (ma_cons (m_var 0) ma_nil)))
    (ms_cons (ms_if (mt_cmp (op_neM hr.u64) (m_bin op_modM (m_callB cr_len (by rfl) (T.free 42) (by rfl) (ma_cons (m_var 0) ma_nil)) m_int) m_int) mss_never ms_nil)
    (ms_cons (ms_set (i := 1) (m_callB cr_len (by rfl) (T.free 42) (by rfl) (ma_cons (m_var 0) ma_nil)) sc_halves_that_fit.nd rfl (by first | exact Or.inl rfl | exact Or.inr rfl))
    (ms_cons (ms_asg (m_callO (ok_parts_of T) hr (by rfl) (ma_cons (m_var 0) (ma_cons (m_bin op_fdivM (m_var 1) m_int) ma_nil))) (mg_tup (is := [2, 3]) rfl (mgs_cons (i := 2) sc_halves_that_fit.nd rfl (by first | exact Or.inl rfl | exact Or.inr rfl) (mgs_cons (i := 3) sc_halves_that_fit.nd rfl (by first | exact Or.inl rfl | exact Or.inr rfl) mgs_nil))))
    (ms_cons (ms_set (i := 4) (m_Q (m_callTy cr_tup (by rfl) (T.free 48) (by rfl) (ma_cons (m_lc rfl sc_halves_that_fit.nd (mi_w (mi_range1 (by rfl) (T.free 45) (ma_cons (m_var 1) ma_nil))) (blkOk_by (own := [(("k" : Str), 6)]) (by rfl)) (fun _ _ _ _ _ => (mg_name (i := 6) sc_halves_that_fit.nd rfl (by first | exact Or.inl rfl | exact Or.inr rfl))) (fun _ _ _ _ _ => (mts_one (mt_cmp (op_eqM hr.u64) (m_callO (ok_moved_set T) hr (by rfl) (ma_cons (m_var 1) (ma_cons (m_var 2) (ma_cons (m_var 6) ma_nil)))) (m_var 3)))) (fun _ _ _ _ _ => (m_var 6))) ma_nil))) sc_halves_that_fit.nd rfl (by first | exact Or.inl rfl | exact Or.inr rfl))
    (ms_cons (ms_set (i := 5) (m_Q (m_callTy cr_tup (by rfl) (T.free 48) (by rfl) (ma_cons (m_lc rfl sc_halves_that_fit.nd (mi_w (mi_range1 (by rfl) (T.free 45) (ma_cons (m_var 1) ma_nil))) (blkOk_by (own := [(("k" : Str), 6)]) (by rfl)) (fun _ _ _ _ _ => (mg_name (i := 6) sc_halves_that_fit.nd rfl (by first | exact Or.inl rfl | exact Or.inr rfl))) (fun _ _ _ _ _ => (mts_one (mt_cmp (op_eqM hr.u64) (m_callO (ok_mirrored_set T) hr (by rfl) (ma_cons (m_var 1) (ma_cons (m_var 2) (ma_cons (m_var 6) ma_nil)))) (m_var 3)))) (fun _ _ _ _ _ => (m_var 6))) ma_nil))) sc_halves_that_fit.nd rfl (by first | exact Or.inl rfl | exact Or.inr rfl))
    (ms_one (ms_ret (m_tup (ma_cons (m_var 4) (ma_cons (m_var 5) ma_nil)))))))))))
/-! ### check_parts -/
abbrev st_check_parts : Stmt := top 31
theorem sc_check_parts : FnScope ["many", "size"] ["many", "size"] (defScope st_check_parts) := ⟨rfl, rfl, rfl, by decide +kernel, rfl, by decide +kernel, by decide +kernel⟩
def m_check_parts : SM := (mSeq (mDrop (mCall F_check_round (mCons (mVar 0) mNil))) (mIfS (mOrB (mNotB (mTru (mCall F_is_number (mCons (mVar 1) mNil)))) (mNotB (mTest (mChain leD leD (mC (.int 1)) (mVar 1) (mVar 0))))) mNever mNext))
def F_check_parts : FM := FP (mBody m_check_parts 0)
instance : QF F_check_parts := inferInstanceAs (QF (FP _))
theorem ok_check_parts {P : Program} {w : World} {K : PySem.W.Frag} {mg : Str → Option Value} {base h : Heap} (T : Tp fa fn tf w K mg base h) : OkF P w K mg base (tbs tf K) 3 "check_parts" ["many", "size"] 2 F_check_parts := by
  refine OkF.pure (OkF.of (k := 2) (j := 0) (f := m_check_parts) T 21 21 rfl rfl sc_check_parts rfl rfl (fun _ _ _ _ _ _ us hl => match us, hl with | [_, _], _ => rfl) fun A outer s H E hr => ?_)
  exact (ms_cons (ms_expr (m_callO (ok_check_round T) hr (by rfl) (ma_cons (m_var 0) ma_nil)))
    (ms_one (ms_if (PW.pt (mw_or (mt_not (mt_truth (m_callO (ok_is_number T) (hr.mono (by decide)) (by rfl) (ma_cons (m_var 1) ma_nil)))) (mw_or1 (mt_not (mt_chain op_leM op_leM m_int (m_var 1) (m_var 0)))))) mss_never ms_nil)))
/-! ### even_set -/
abbrev st_even_set : Stmt := top 32
theorem sc_even_set : FnScope ["many", "size", "start", "k"] ["many", "size", "start"] (defScope st_even_set) := ⟨rfl, rfl, rfl, by decide +kernel, rfl, by decide +kernel, by decide +kernel⟩
def m_even_set : SM := (mSeq (mDrop (mCall F_check_parts (mCons (mVar 0) (mCons (mVar 1) mNil)))) (mSeq (mIfS (mOrB (mNotB (mTru (mCall F_is_number (mCons (mVar 2) mNil)))) (mNotB (mTest (mChain leD ltD (mC (.int 0)) (mVar 2) (mVar 1))))) mNever mNext) (mRet (mQ (mCall tupL (mCons (mCall sortL (mCons (mLc (mRng1 (mCons (mVar 1) mNil)) (setN 3) mYes (mBin modD (mBin fdivD (mBin addD (mBin mulI (mVar 3) (mVar 0)) (mVar 2)) (mVar 1)) (mVar 0)) [3]) mNil)) mNil))))))
def F_even_set : FM := FP (mBody m_even_set 1)
instance : QF F_even_set := inferInstanceAs (QF (FP _))
theorem ok_even_set {P : Program} {w : World} {K : PySem.W.Frag} {mg : Str → Option Value} {base h : Heap} (T : Tp fa fn tf w K mg base h) : OkF P w K mg base (tbs tf K) 4 "even_set" ["many", "size", "start"] 3 F_even_set := by
  refine OkF.pure (OkF.of (k := 3) (j := 1) (f := m_even_set) T 22 22 rfl rfl sc_even_set rfl rfl (fun _ _ _ _ _ _ us hl => match us, hl with | [_, _, _], _ => rfl) fun A outer s H E hr => ?_)
  exact (ms_cons (ms_expr (m_callO (ok_check_parts T) hr (by rfl) (ma_cons (m_var 0) (ma_cons (m_var 1) ma_nil))))
    (ms_cons (ms_if (PW.pt (mw_or (mt_not (mt_truth (m_callO (ok_is_number T) (hr.mono (by decide)) (by rfl) (ma_cons (m_var 2) ma_nil)))) (mw_or1 (mt_not (mt_chain op_leM op_ltM m_int (m_var 2) (m_var 1)))))) mss_never ms_nil)
    (ms_one (ms_ret (m_Q (m_callTy cr_tup (by rfl) (T.free 48) (by rfl) (ma_cons (m_callB cr_sortL (by rfl) (T.free 47) (by rfl) (ma_cons (m_lc rfl sc_even_set.nd (mi_w (mi_range1 (by rfl) (T.free 45) (ma_cons (m_var 1) ma_nil))) (blkOk_by (own := [(("k" : Str), 3)]) (by rfl)) (fun _ _ _ _ _ => (mg_name (i := 3) sc_even_set.nd rfl (by first | exact Or.inl rfl | exact Or.inr rfl))) (fun _ _ _ _ _ => mts_nil) (fun _ _ _ _ _ => (m_bin op_modM (m_bin op_fdivM (m_bin op_addM (m_bin op_mulM (m_var 3) (m_var 0)) (m_var 2)) (m_var 1)) (m_var 0)))) ma_nil)) ma_nil)))))))
/-! ### spans -/
abbrev st_spans : Stmt := top 33
theorem sc_spans : FnScope ["many", "own", "result", "gap", "found", "k"] ["many", "own"] (defScope st_spans) := ⟨rfl, rfl, rfl, by decide +kernel, rfl, by decide +kernel, by decide +kernel⟩
def m_spans : SM := (mSeq (mDrop (mCall F_check_set (mCons (mVar 0) (mCons (mVar 1) mNil)))) (mSeq (mSet 2 (mLst mNil)) (mSeq (mFor (mRng2 (mCons (mC (.int 1)) (mCons (mCall lenL (mCons (mVar 1) mNil)) mNil))) (setN 3) (mSeq (mSet 4 (mDc (mRng1 (mCons (mCall lenL (mCons (mVar 1) mNil)) mNil)) (setN 5) mYes (mBin modD (mBin subD (mBin ixF (mVar 1) (mBin modD (mBin addD (mVar 5) (mVar 3)) (mCall lenL (mCons (mVar 1) mNil)))) (mBin ixF (mVar 1) (mVar 5))) (mVar 0)) (mC (.bl true)) [5])) (mDrop (mApp (mVar 2) (mQ (mCall tupL (mCons (mCall sortL (mCons (mCall lstX (mCons (mVar 4) mNil)) mNil)) mNil))))))) (mRet (mCall tupL (mCons (mVar 2) mNil))))))
def F_spans : FM := FP (mBody m_spans 4)
instance : QF F_spans := inferInstanceAs (QF (FP _))
theorem ok_spans {P : Program} {w : World} {K : PySem.W.Frag} {mg : Str → Option Value} {base h : Heap} (T : Tp fa fn tf w K mg base h) : OkF P w K mg base (tbs tf K) 4 "spans" ["many", "own"] 2 F_spans := by
  refine OkF.pure (OkF.of (k := 3) (j := 4) (f := m_spans) T 23 23 rfl rfl sc_spans rfl rfl (fun _ _ _ _ _ _ us hl => match us, hl with | [_, _], _ => rfl) fun A outer s H E hr => ?_)
  exact (ms_cons (ms_expr (m_callO (ok_check_set T) hr (by rfl) (ma_cons (m_var 0) (ma_cons (m_var 1) ma_nil))))
    (ms_cons (ms_set (i := 2) (m_lst ma_nil) sc_spans.nd rfl (by first | exact Or.inl rfl | exact Or.inr rfl))
    (ms_cons (ms_for PassesOwn.never rfl (mi_range2 (by rfl) (T.free 45) (ma_cons m_int (ma_cons (m_callB cr_len (by rfl) (T.free 42) (by rfl) (ma_cons (m_var 1) ma_nil)) ma_nil))) (mg_name (i := 3) sc_spans.nd rfl (by first | exact Or.inl rfl | exact Or.inr rfl)) (ms_cons (ms_setDc (i := 4) rfl sc_spans.nd rfl rfl (by first | rfl | exact sw_trueD rfl rfl rfl (by decide +kernel)) (mi_w (mi_range1 (by rfl) (T.free 45) (ma_cons (m_callB cr_len (by rfl) (T.free 42) (by rfl) (ma_cons (m_var 1) ma_nil)) ma_nil))) (blkOk_by (own := [(("k" : Str), 5)]) (by rfl)) (fun _ _ _ _ _ => (mg_name (i := 5) sc_spans.nd rfl (by first | exact Or.inl rfl | exact Or.inr rfl))) (fun _ _ _ _ _ => mts_nil) (fun _ _ _ _ _ => (m_bin op_modM (m_bin op_subM (m_ix (m_var 1) (m_bin op_modM (m_bin op_addM (m_var 5) (m_var 3)) (m_callB cr_len (by rfl) (T.free 42) (by rfl) (ma_cons (m_var 1) ma_nil)))) (m_ix (m_var 1) (m_var 5))) (m_var 0))) (fun _ _ _ _ _ => m_bl))
    (ms_one (ms_expr (m_append (m_var 2) (m_Q (m_callTy cr_tup (by rfl) (T.free 48) (by rfl) (ma_cons (m_callB cr_sortL (by rfl) (T.free 47) (by rfl) (ma_cons (m_callTy (cr_lstX rfl) (by rfl) (T.free 43) (by rfl) (ma_cons (m_var 4) ma_nil)) ma_nil)) ma_nil))))))))
    (ms_one (ms_ret (m_callTy cr_tup (by rfl) (T.free 48) (by rfl) (ma_cons (m_var 2) ma_nil)))))))
/-! ### is_even -/
abbrev st_is_even : Stmt := top 34
theorem sc_is_even : FnScope ["many", "own", "row"] ["many", "own"] (defScope st_is_even) := ⟨rfl, rfl, rfl, by decide +kernel, rfl, by decide +kernel, by decide +kernel⟩
def m_is_even : SM := (mRet (mAg false (mSeqW (mCall F_spans (mCons (mVar 0) (mCons (mVar 1) mNil)))) (setN 2) mYes (mBin leD (mBin subD (mBin ixF (mVar 2) (mUn negD (mC (.int 1)))) (mBin ixF (mVar 2) (mC (.int 0)))) (mC (.int 1))) [2]))
def F_is_even : FM := FP (mBody m_is_even 1)
instance : QF F_is_even := inferInstanceAs (QF (FP _))
theorem ok_is_even {P : Program} {w : World} {K : PySem.W.Frag} {mg : Str → Option Value} {base h : Heap} (T : Tp fa fn tf w K mg base h) : OkF P w K mg base (tbs tf K) 5 "is_even" ["many", "own"] 2 F_is_even := by
  refine OkF.pure (OkF.of (k := 4) (j := 1) (f := m_is_even) T 24 24 rfl rfl sc_is_even rfl rfl (fun _ _ _ _ _ _ us hl => match us, hl with | [_, _], _ => rfl) fun A outer s H E hr => ?_)
  exact (ms_one (ms_ret (m_all (k := 3) (by exact hr) (by rfl) (T.free 38) rfl sc_is_even.nd (T.tab 2) rfl (tab_mem 2) ⟨by rfl, by decide +kernel, by rfl⟩ (blkOk_by (own := [(("row" : Str), 2)]) (by rfl)) (mi_seqW (m_callO (ok_spans T) hr (by rfl) (ma_cons (m_var 0) (ma_cons (m_var 1) ma_nil)))) (fun _ _ _ _ _ _ _ hr1 => (mg_name (i := 2) sc_is_even.nd rfl (by first | exact Or.inl rfl | exact Or.inr rfl))) (fun _ _ _ _ _ _ _ hr1 => mts_nil) (fun _ _ _ _ _ _ _ hr1 => (m_cmp op_leM (m_bin op_subM (m_ix (m_var 2) (m_un un_negM m_int)) (m_ix (m_var 2) m_int)) m_int)))))
/-! ### has_two_spans -/
abbrev st_has_two_spans : Stmt := top 35
theorem sc_has_two_spans : FnScope ["many", "own", "row"] ["many", "own"] (defScope st_has_two_spans) := ⟨rfl, rfl, rfl, by decide +kernel, rfl, by decide +kernel, by decide +kernel⟩
def m_has_two_spans : SM := (mRet (mAndV (mBin gtD (mCall lenL (mCons (mVar 1) mNil)) (mC (.int 1))) (mAg false (mSeqW (mCall F_spans (mCons (mVar 0) (mCons (mVar 1) mNil)))) (setN 2) mYes (mBin eqD (mCall lenL (mCons (mVar 2) mNil)) (mC (.int 2))) [2])))
def F_has_two_spans : FM := FP (mBody m_has_two_spans 1)
instance : QF F_has_two_spans := inferInstanceAs (QF (FP _))
theorem ok_has_two_spans {P : Program} {w : World} {K : PySem.W.Frag} {mg : Str → Option Value} {base h : Heap} (T : Tp fa fn tf w K mg base h) : OkF P w K mg base (tbs tf K) 5 "has_two_spans" ["many", "own"] 2 F_has_two_spans := by
  refine OkF.pure (OkF.of (k := 4) (j := 1) (f := m_has_two_spans) T 25 25 rfl rfl sc_has_two_spans rfl rfl (fun _ _ _ _ _ _ us hl => match us, hl with | [_, _], _ => rfl) fun A outer s H E hr => ?_)
  exact (ms_one (ms_ret (m_and (m_cmp op_gtM (m_callB cr_len (by rfl) (T.free 42) (by rfl) (ma_cons (m_var 1) ma_nil)) m_int) (m_one (m_all (k := 3) (by exact hr) (by rfl) (T.free 38) rfl sc_has_two_spans.nd (T.tab 3) rfl (tab_mem 3) ⟨by rfl, by decide +kernel, by rfl⟩ (blkOk_by (own := [(("row" : Str), 2)]) (by rfl)) (mi_seqW (m_callO (ok_spans T) hr (by rfl) (ma_cons (m_var 0) (ma_cons (m_var 1) ma_nil)))) (fun _ _ _ _ _ _ _ hr1 => (mg_name (i := 2) sc_has_two_spans.nd rfl (by first | exact Or.inl rfl | exact Or.inr rfl))) (fun _ _ _ _ _ _ _ hr1 => mts_nil) (fun _ _ _ _ _ _ _ hr1 => (m_cmp (op_eqM hr1.u64) (m_callB cr_len (by rfl) (T.free 42) (by rfl) (ma_cons (m_var 2) ma_nil)) m_int)))))))
/-! ### generators -/
abbrev st_generators : Stmt := top 36
theorem sc_generators : FnScope ["many", "own", "found", "step", "start", "places", "k", "one"] ["many", "own"] (defScope st_generators) := ⟨rfl, rfl, rfl, by decide +kernel, rfl, by decide +kernel, by decide +kernel⟩
def m_generators : SM := (mSeq (mDrop (mCall F_check_set (mCons (mVar 0) (mCons (mVar 1) mNil)))) (mSeq (mSet 2 (mLst mNil)) (mSeq (mFor (mRng1 (mCons (mVar 0) mNil)) (setN 3) (mFor (mSeqS (mVar 1)) (setN 4) (mSeq (mSet 5 (mDc (mRng1 (mCons (mCall lenL (mCons (mVar 1) mNil)) mNil)) (setN 6) mYes (mBin modD (mBin addD (mVar 4) (mBin mulI (mVar 6) (mVar 3))) (mVar 0)) (mC (.bl true)) [6])) (mIfS (mAndB (mTest (mBin eqD (mCall lenX (mCons (mVar 5) mNil)) (mCall lenL (mCons (mVar 1) mNil)))) (mAndB (mTru (mAg false (mSeqW (mVar 1)) (setN 7) mYes (mBin inX (mVar 7) (mVar 5)) [7])) (mTest (mBin (notF inX) (mVar 3) (mVar 2))))) (mDrop (mApp (mVar 2) (mVar 3))) mNext)))) (mRet (mCall tupL (mCons (mVar 2) mNil))))))
def F_generators : FM := FP (mBody m_generators 6)
instance : QF F_generators := inferInstanceAs (QF (FP _))
theorem ok_generators {P : Program} {w : World} {K : PySem.W.Frag} {mg : Str → Option Value} {base h : Heap} (T : Tp fa fn tf w K mg base h) : OkF P w K mg base (tbs tf K) 4 "generators" ["many", "own"] 2 F_generators := by
  refine OkF.pure (OkF.of (k := 3) (j := 6) (f := m_generators) T 26 26 rfl rfl sc_generators rfl rfl (fun _ _ _ _ _ _ us hl => match us, hl with | [_, _], _ => rfl) fun A outer s H E hr => ?_)
  exact (ms_cons (ms_expr (m_callO (ok_check_set T) hr (by rfl) (ma_cons (m_var 0) (ma_cons (m_var 1) ma_nil))))
    (ms_cons (ms_set (i := 2) (m_lst ma_nil) sc_generators.nd rfl (by first | exact Or.inl rfl | exact Or.inr rfl))
    (ms_cons (ms_for PassesOwn.never rfl (mi_range1 (by rfl) (T.free 45) (ma_cons (m_var 0) ma_nil)) (mg_name (i := 3) sc_generators.nd rfl (by first | exact Or.inl rfl | exact Or.inr rfl)) (ms_one (ms_for PassesOwn.never rfl (mi_seqS (m_var 1)) (mg_name (i := 4) sc_generators.nd rfl (by first | exact Or.inl rfl | exact Or.inr rfl)) (ms_cons (ms_set (i := 5) (m_dc rfl sc_generators.nd (mi_w (mi_range1 (by rfl) (T.free 45) (ma_cons (m_callB cr_len (by rfl) (T.free 42) (by rfl) (ma_cons (m_var 1) ma_nil)) ma_nil))) (blkOk_by (own := [(("k" : Str), 6)]) (by rfl)) (fun _ _ _ _ _ => (mg_name (i := 6) sc_generators.nd rfl (by first | exact Or.inl rfl | exact Or.inr rfl))) (fun _ _ _ _ _ => mts_nil) (fun _ _ _ _ _ => (m_bin op_modM (m_bin op_addM (m_var 4) (m_bin op_mulM (m_var 6) (m_var 3))) (m_var 0))) (fun _ _ _ _ _ => m_bl)) sc_generators.nd rfl (by first | exact Or.inl rfl | exact Or.inr rfl))
    (ms_one (ms_if (PW.pt (mw_and (mt_cmp (op_eqM hr.u64) (m_callB cr_lenX (by rfl) (T.free 42) (by rfl) (ma_cons (m_var 5) ma_nil)) (m_callB cr_len (by rfl) (T.free 42) (by rfl) (ma_cons (m_var 1) ma_nil))) (mw_and (mt_truth (m_all (k := 2) (by exact hr) (by rfl) (T.free 38) rfl sc_generators.nd (T.tab 4) rfl (tab_mem 4) ⟨by rfl, by decide +kernel, by rfl⟩ (blkOk_by (own := [(("one" : Str), 7)]) (by rfl)) (mi_seqW (m_var 1)) (fun _ _ _ _ _ _ _ hr1 => (mg_name (i := 7) sc_generators.nd rfl (by first | exact Or.inl rfl | exact Or.inr rfl))) (fun _ _ _ _ _ _ _ hr1 => mts_nil) (fun _ _ _ _ _ _ _ hr1 => (m_cmp (op_inX hr1.u65) (m_var 7) (m_var 5))))) (mw_and1 (mt_cmp (op_notInX hr.u65) (m_var 3) (m_var 2)))))) (ms_one (ms_expr (m_append (m_var 2) (m_var 3)))) ms_nil))))))
    (ms_one (ms_ret (m_callTy cr_tup (by rfl) (T.free 48) (by rfl) (ma_cons (m_var 2) ma_nil)))))))
/-! ### check_tile -/
abbrev st_check_tile : Stmt := top 38
theorem sc_check_tile : FnScope ["many", "own"] ["many", "own"] (defScope st_check_tile) := ⟨rfl, rfl, rfl, by decide +kernel, rfl, by decide +kernel, by decide +kernel⟩
def m_check_tile : SM := (mSeq (mDrop (mCall F_check_set (mCons (mVar 0) (mCons (mVar 1) mNil)))) (mIfS (mTest (mBin eqD (mCall lenL (mCons (mVar 1) mNil)) (mC (.int 0)))) mNever mNext))
def F_check_tile : FM := FP (mBody m_check_tile 0)
instance : QF F_check_tile := inferInstanceAs (QF (FP _))
theorem ok_check_tile {P : Program} {w : World} {K : PySem.W.Frag} {mg : Str → Option Value} {base h : Heap} (T : Tp fa fn tf w K mg base h) : OkF P w K mg base (tbs tf K) 4 "check_tile" ["many", "own"] 2 F_check_tile := by
  refine OkF.pure (OkF.of (k := 3) (j := 0) (f := m_check_tile) T 27 27 rfl rfl sc_check_tile rfl rfl (fun _ _ _ _ _ _ us hl => match us, hl with | [_, _], _ => rfl) fun A outer s H E hr => ?_)
  exact (ms_cons (ms_expr (m_callO (ok_check_set T) hr (by rfl) (ma_cons (m_var 0) (ma_cons (m_var 1) ma_nil))))
    (ms_one (ms_if (mt_cmp (op_eqM hr.u64) (m_callB cr_len (by rfl) (T.free 42) (by rfl) (ma_cons (m_var 1) ma_nil)) m_int) mss_never ms_nil)))
/-! ### fills -/
abbrev st_fills : Stmt := top 39
theorem sc_fills : FnScope ["many", "own", "places", "found", "one", "two"] ["many", "own", "places"] (defScope st_fills) := ⟨rfl, rfl, rfl, by decide +kernel, rfl, by decide +kernel, by decide +kernel⟩
def m_fills : SM := (mSeq (mDrop (mCall F_check_tile (mCons (mVar 0) (mCons (mVar 1) mNil)))) (mSeq (mDrop (mCall F_check_set (mCons (mVar 0) (mCons (mVar 2) mNil)))) (mSeq (mSet 3 (mLc2 (mSeqW (mVar 1)) (setN 4) mYes (mSeqW (mVar 2)) (setN 5) mYes (mBin modD (mBin addD (mVar 4) (mVar 5)) (mVar 0)) [4, 5] [5])) (mRet (mQ (mBin eqD (mCall sortL (mCons (mVar 3) mNil)) (mLstRg (mRg1 (mVar 0)))))))))
def F_fills : FM := FP (mBody m_fills 3)
instance : QF F_fills := inferInstanceAs (QF (FP _))
theorem ok_fills {P : Program} {w : World} {K : PySem.W.Frag} {mg : Str → Option Value} {base h : Heap} (T : Tp fa fn tf w K mg base h) : OkF P w K mg base (tbs tf K) 5 "fills" ["many", "own", "places"] 3 F_fills := by
  refine OkF.pure (OkF.of (k := 4) (j := 3) (f := m_fills) T 28 28 rfl rfl sc_fills rfl rfl (fun _ _ _ _ _ _ us hl => match us, hl with | [_, _, _], _ => rfl) fun A outer s H E hr => ?_)
  exact (ms_cons (ms_expr (m_callO (ok_check_tile T) hr (by rfl) (ma_cons (m_var 0) (ma_cons (m_var 1) ma_nil))))
    (ms_cons (ms_expr (m_callO (ok_check_set T) (hr.mono (by decide)) (by rfl) (ma_cons (m_var 0) (ma_cons (m_var 2) ma_nil))))
    (ms_cons (ms_setLc2 (i := 3) (vs1 := [5]) rfl sc_fills.nd rfl rfl (by first | rfl | exact sw_true rfl rfl rfl (by decide +kernel)) (mi_seqW (m_var 1)) (blkOk_by (own := [(("one" : Str), 4), (("two" : Str), 5)]) (by rfl)) (fun _ _ _ _ _ => (mg_name (i := 4) sc_fills.nd rfl (by first | exact Or.inl rfl | exact Or.inr rfl))) (fun _ _ _ _ _ => mts_nil) (fun _ _ _ _ _ => (mi_seqX (m_var 2))) (fun _ _ _ _ _ => (mg_name (i := 5) sc_fills.nd rfl (by first | exact Or.inl rfl | exact Or.inr rfl))) (fun _ _ _ _ _ => mts_nil) (fun _ _ _ _ _ => (m_bin op_modM (m_bin op_addM (m_var 4) (m_var 5)) (m_var 0))))
    (ms_one (ms_ret (m_Q (m_cmp (op_eqM hr.u64) (m_callB cr_sortL (by rfl) (T.free 47) (by rfl) (ma_cons (m_var 3) ma_nil)) (m_lstRg rfl (by rfl) (T.free 43) (m_rg1 (by rfl) (T.free 45) (m_var 0))))))))))
/-! ### moved_mask -/
abbrev st_moved_mask : Stmt := top 40
theorem sc_moved_mask : FnScope ["many", "own", "steps", "one"] ["many", "own", "steps"] (defScope st_moved_mask) := ⟨rfl, rfl, rfl, by decide +kernel, rfl, by decide +kernel, by decide +kernel⟩
def m_moved_mask : SM := (mRet (mQ (mCall tupL (mCons (mCall sortL (mCons (mLc (mSeqW (mVar 1)) (setN 3) mYes (mBin modD (mBin addD (mVar 3) (mVar 2)) (mVar 0)) [3]) mNil)) mNil))))
def F_moved_mask : FM := FP (mBody m_moved_mask 1)
instance : QF F_moved_mask := inferInstanceAs (QF (FP _))
theorem ok_moved_mask {P : Program} {w : World} {K : PySem.W.Frag} {mg : Str → Option Value} {base h : Heap} (T : Tp fa fn tf w K mg base h) : OkF P w K mg base (tbs tf K) 1 "moved_mask" ["many", "own", "steps"] 3 F_moved_mask := by
  refine OkF.pure (OkF.of (k := 0) (j := 1) (f := m_moved_mask) T 29 29 rfl rfl sc_moved_mask rfl rfl (fun _ _ _ _ _ _ us hl => match us, hl with | [_, _, _], _ => rfl) fun A outer s H E hr => ?_)
  exact (ms_one (ms_ret (m_Q (m_callTy cr_tup (by rfl) (T.free 48) (by rfl) (ma_cons (m_callB cr_sortL (by rfl) (T.free 47) (by rfl) (ma_cons (m_lc rfl sc_moved_mask.nd (mi_seqW (m_var 1)) (blkOk_by (own := [(("one" : Str), 3)]) (by rfl)) (fun _ _ _ _ _ => (mg_name (i := 3) sc_moved_mask.nd rfl (by first | exact Or.inl rfl | exact Or.inr rfl))) (fun _ _ _ _ _ => mts_nil) (fun _ _ _ _ _ => (m_bin op_modM (m_bin op_addM (m_var 3) (m_var 2)) (m_var 0)))) ma_nil)) ma_nil)))))
/-! ### full -/
abbrev st_full : Stmt := top 42
theorem sc_full : FnScope ["many", "layer", "filled"] ["many", "layer"] (defScope st_full) := ⟨rfl, rfl, rfl, by decide +kernel, rfl, by decide +kernel, by decide +kernel⟩
def m_full : SM := (mRet (mAgD true 1 (setN 2) mYes (mBin eqD (mCall lenL (mCons (mVar 2) mNil)) (mVar 0)) [2]))
def F_full : FM := mBody m_full 1
theorem ok_full {P : Program} {w : World} {K : PySem.W.Frag} {mg : Str → Option Value} {base h : Heap} (T : Tp fa fn tf w K mg base h) : OkF P w K mg base (tbs tf K) 2 "full" ["many", "layer"] 2 F_full := by
  refine OkF.same (OkF.of (k := 1) (j := 1) (f := m_full) T 31 31 rfl rfl sc_full rfl rfl (fun _ _ _ _ _ _ us hl => match us, hl with | [_, _], _ => rfl) fun A outer s H E hr => ?_)
  exact (ms_one (ms_ret (m_anyD (k := 0) 1 (hr := by exact hr) (hG := by rfl) (hm := (T.free 39)) (hc := rfl) (hN := sc_full.nd) (TBq := T.tab 6) (hcode := rfl) (hP := tab_mem 6) (gk := ⟨by rfl, by decide +kernel, by rfl⟩) (ok := blkOk_by (own := [(("filled" : Str), 2)]) (by rfl)) (hg := fun _ _ _ _ _ _ _ hr1 => (mg_name (i := 2) sc_full.nd rfl (by first | exact Or.inl rfl | exact Or.inr rfl))) (ht := fun _ _ _ _ _ _ _ hr1 => mts_nil) (hel := fun _ _ _ _ _ _ _ hr1 => (m_cmp (op_eqM hr1.u64) (m_callB cr_len (by rfl) (T.free 42) (by rfl) (ma_cons (m_var 2) ma_nil)) (m_var 0))))))
/-! ### first_gap -/
abbrev st_first_gap : Stmt := top 43
theorem sc_first_gap : FnScope ["many", "filled", "k"] ["many", "filled"] (defScope st_first_gap) := ⟨rfl, rfl, rfl, by decide +kernel, rfl, by decide +kernel, by decide +kernel⟩
def m_first_gap : SM := (mRet (mQ (mBin ixF (mLc (mRng1 (mCons (mVar 0) mNil)) (setN 2) (mTest (mBin (notF inX) (mVar 2) (mVar 1))) (mVar 2) [2]) (mC (.int 0)))))
def F_first_gap : FM := FP (mBody m_first_gap 1)
instance : QF F_first_gap := inferInstanceAs (QF (FP _))
theorem ok_first_gap {P : Program} {w : World} {K : PySem.W.Frag} {mg : Str → Option Value} {base h : Heap} (T : Tp fa fn tf w K mg base h) : OkF P w K mg base (tbs tf K) 1 "first_gap" ["many", "filled"] 2 F_first_gap := by
  refine OkF.pure (OkF.of (k := 0) (j := 1) (f := m_first_gap) T 32 32 rfl rfl sc_first_gap rfl rfl (fun _ _ _ _ _ _ us hl => match us, hl with | [_, _], _ => rfl) fun A outer s H E hr => ?_)
  exact (ms_one (ms_ret (m_Q (m_ix (m_lc rfl sc_first_gap.nd (mi_w (mi_range1 (by rfl) (T.free 45) (ma_cons (m_var 0) ma_nil))) (blkOk_by (own := [(("k" : Str), 2)]) (by rfl)) (fun _ _ _ _ _ => (mg_name (i := 2) sc_first_gap.nd rfl (by first | exact Or.inl rfl | exact Or.inr rfl))) (fun _ _ _ _ _ => (mts_one (mt_cmp (op_notInX hr.u65) (m_var 2) (m_var 1)))) (fun _ _ _ _ _ => (m_var 2))) m_int))))
/-! ### grown_rows -/
abbrev st_grown_rows : Stmt := top 41
theorem sc_grown_rows : FnScope ["many", "own", "most", "layer", "layers", "later", "filled", "places", "gap", "one", "steps", "more", "grown", "place"] ["many", "own", "most"] (defScope st_grown_rows) := ⟨rfl, rfl, rfl, by decide +kernel, rfl, by decide +kernel, by decide +kernel⟩
def m_grown_rows : SM := (mSeq (mSet 3 (mDispT (mPcons (mTup mNil) (mTup mNil) mPnil))) (mSeq (mSet 4 (mLst (mCons (mVar 3) mNil))) (mSeq (mWhile 40 (mAndB (mTest (mBin gtD (mCall lenL (mCons (mVar 3) mNil)) (mC (.int 0)))) (mNotB (mTru (mCall F_full (mCons (mVar 0) (mCons (mVar 3) mNil)))))) (mSeq (mSet 5 mNewT) (mSeq (mFor (mSeqS (mSortIt (mVar 3))) (setT [6, 7]) (mSeq (mSet 8 (mCall F_first_gap (mCons (mVar 0) (mCons (mVar 6) mNil)))) (mFor (mSeqS (mVar 1)) (setN 9) (mSeq (mSet 10 (mBin modD (mBin subD (mVar 8) (mVar 9)) (mVar 0))) (mSeq (mSet 11 (mCall F_moved_mask (mCons (mVar 0) (mCons (mVar 1) (mCons (mVar 10) mNil))))) (mIfS (mNotB (mTru (mAg true (mSeqW (mVar 11)) (setN 13) mYes (mBin inX (mVar 13) (mVar 6)) [13]))) (mSeq (mSet 12 (mQ (mCall tupL (mCons (mCall sortT (mCons (mBin addD (mVar 6) (mVar 11)) mNil)) mNil)))) (mIfS (mTest (mNotInA (mVar 12) (mVar 5))) (mDput (mVar 5) (mVar 12) (mBin addD (mVar 7) (mTup (mCons (mVar 10) mNil)))) mNext)) mNext)))))) (mSeq (mIfS (mTest (mBin gtD (mCall lenL (mCons (mVar 5) mNil)) (mVar 2))) mNever mNext) (mSeq (mDrop (mApp (mVar 4) (mVar 5))) (mSet 3 (mVar 5))))))) (mRet (mVar 4)))))
def F_grown_rows : FM := FP (mBody m_grown_rows 11)
instance : QF F_grown_rows := inferInstanceAs (QF (FP _))
theorem ok_grown_rows {P : Program} {w : World} {K : PySem.W.Frag} {mg : Str → Option Value} {base h : Heap} (T : Tp fa fn tf w K mg base h) : OkF P w K mg base (tbs tf K) 3 "grown_rows" ["many", "own", "most"] 3 F_grown_rows := by
  refine OkF.pure (OkF.of (k := 2) (j := 11) (f := m_grown_rows) T 30 30 rfl rfl sc_grown_rows rfl rfl (fun _ _ _ _ _ _ us hl => match us, hl with | [_, _, _], _ => rfl) fun A outer s H E hr => ?_)
  exact (ms_cons (ms_set (i := 3) (m_dispT (by exact hr.u1) (mp_cons (m_tup ma_nil) (m_tup ma_nil) mp_nil)) sc_grown_rows.nd rfl (by first | exact Or.inl rfl | exact Or.inr rfl))
    (ms_cons (ms_set (i := 4) (m_lst (ma_cons (m_var 3) ma_nil)) sc_grown_rows.nd rfl (by first | exact Or.inl rfl | exact Or.inr rfl))
    (ms_cons (ms_while 40 PassesOwn.never (PW.pt (mw_and (mt_cmp op_gtM (m_callB cr_len (by rfl) (T.free 42) (by rfl) (ma_cons (m_var 3) ma_nil)) m_int) (mw_and1 (mt_not (mt_truth (m_callO (ok_full T) hr (by rfl) (ma_cons (m_var 0) (ma_cons (m_var 3) ma_nil)))))))) (ms_cons (ms_set (i := 5) m_newT sc_grown_rows.nd rfl (by first | exact Or.inl rfl | exact Or.inr rfl))
    (ms_cons (ms_for PassesOwn.never rfl (mi_seqS (m_sortIt rfl (by rfl) (T.free 47) (by rfl) (m_var 3))) (mg_tup (is := [6, 7]) rfl (mgs_cons (i := 6) sc_grown_rows.nd rfl (by first | exact Or.inl rfl | exact Or.inr rfl) (mgs_cons (i := 7) sc_grown_rows.nd rfl (by first | exact Or.inl rfl | exact Or.inr rfl) mgs_nil))) (ms_cons (ms_set (i := 8) (m_callO (ok_first_gap T) (hr.mono (by decide)) (by rfl) (ma_cons (m_var 0) (ma_cons (m_var 6) ma_nil))) sc_grown_rows.nd rfl (by first | exact Or.inl rfl | exact Or.inr rfl))
    (ms_one (ms_for PassesOwn.never rfl (mi_seqS (m_var 1)) (mg_name (i := 9) sc_grown_rows.nd rfl (by first | exact Or.inl rfl | exact Or.inr rfl)) (ms_cons (ms_set (i := 10) (m_bin op_modM (m_bin op_subM (m_var 8) (m_var 9)) (m_var 0)) sc_grown_rows.nd rfl (by first | exact Or.inl rfl | exact Or.inr rfl))
    (ms_cons (ms_set (i := 11) (m_callO (ok_moved_mask T) (hr.mono (by decide)) (by rfl) (ma_cons (m_var 0) (ma_cons (m_var 1) (ma_cons (m_var 10) ma_nil)))) sc_grown_rows.nd rfl (by first | exact Or.inl rfl | exact Or.inr rfl))
    (ms_one (ms_if (mt_not (mt_truth (m_any (k := 1) (by exact hr) (by rfl) (T.free 39) rfl sc_grown_rows.nd (T.tab 5) rfl (tab_mem 5) ⟨by rfl, by decide +kernel, by rfl⟩ (blkOk_by (own := [(("place" : Str), 13)]) (by rfl)) (mi_seqW (m_var 11)) (fun _ _ _ _ _ _ _ hr1 => (mg_name (i := 13) sc_grown_rows.nd rfl (by first | exact Or.inl rfl | exact Or.inr rfl))) (fun _ _ _ _ _ _ _ hr1 => mts_nil) (fun _ _ _ _ _ _ _ hr1 => (m_cmp (op_inX hr1.u65) (m_var 13) (m_var 6)))))) (ms_cons (ms_set (i := 12) (m_Q (m_callTy cr_tup (by rfl) (T.free 48) (by rfl) (ma_cons (m_callB cr_sortT (by rfl) (T.free 47) (by rfl) (ma_cons (m_bin op_addM (m_var 6) (m_var 11)) ma_nil)) ma_nil))) sc_grown_rows.nd rfl (by first | exact Or.inl rfl | exact Or.inr rfl))
    (ms_one (ms_if (mt_notInA (by exact hr.u1) (m_var 12) (m_var 5)) (ms_one (ms_dput (by exact hr.u1) (m_var 5) (m_var 12) (m_bin op_addM (m_var 7) (m_tup (ma_cons (m_var 10) ma_nil))))) ms_nil))) ms_nil))))))))
    (ms_cons (ms_if (mt_cmp op_gtM (m_callB cr_len (by rfl) (T.free 42) (by rfl) (ma_cons (m_var 5) ma_nil)) (m_var 2)) mss_never ms_nil)
    (ms_cons (ms_expr (m_append (m_var 4) (m_var 5)))
    (ms_one (ms_set (i := 3) (m_var 5) sc_grown_rows.nd rfl (by first | exact Or.inl rfl | exact Or.inr rfl))))))))
    (ms_one (ms_ret (m_var 4))))))
/-! ### paper_fill -/
abbrev st_paper_fill : Stmt := top 44
theorem sc_paper_fill : FnScope ["many", "own", "most", "layers", "filled", "places", "rows", "layer"] ["many", "own", "most"] (defScope st_paper_fill) := ⟨rfl, rfl, rfl, by decide +kernel, rfl, by decide +kernel, by decide +kernel⟩
def m_paper_fill : SM := (mSeq (mDrop (mCall F_check_tile (mCons (mVar 0) (mCons (mVar 1) mNil)))) (mSeq (mSet 3 (mCall F_grown_rows (mCons (mVar 0) (mCons (mVar 1) (mCons (mVar 2) mNil))))) (mSeq (mFor (mSeqS (mSortIt (mBin ixF (mVar 3) (mUn negD (mC (.int 1)))))) (setT [4, 5]) (mIfS (mTest (mBin eqD (mCall lenL (mCons (mVar 4) mNil)) (mVar 0))) (mRet (mQ (mTup (mCons (mC (.str "places")) (mCons (mQ (mCall tupL (mCons (mCall sortT (mCons (mVar 5) mNil)) mNil))) mNil))))) mNext)) (mSeq mNever (mSeq mNever mNever)))))
def F_paper_fill : FM := FP (mBody m_paper_fill 5)
instance : QF F_paper_fill := inferInstanceAs (QF (FP _))
theorem ok_paper_fill {P : Program} {w : World} {K : PySem.W.Frag} {mg : Str → Option Value} {base h : Heap} (T : Tp fa fn tf w K mg base h) : OkFN P w K mg base (tbs tf K) 5 "paper_fill" ["many", "own", "most"] 2 ["most"] F_paper_fill := by
  refine OkFN.pure (OkFN.of (k := 4) (n := 2) (b := 3) (j := 5) (f := m_paper_fill) (kwd := [("most", .int 5000)]) T 33 33 rfl rfl sc_paper_fill rfl rfl rfl (fun _ _ _ _ _ _ us ws h1 h2 => match us, ws, h1, h2 with | [_, _], [_], _, _ => rfl) fun A outer s H E hr => ?_)
  exact (ms_cons (ms_expr (m_callO (ok_check_tile T) hr (by rfl) (ma_cons (m_var 0) (ma_cons (m_var 1) ma_nil))))
    (ms_cons (ms_set (i := 3) (m_callO (ok_grown_rows T) (hr.mono (by decide)) (by rfl) (ma_cons (m_var 0) (ma_cons (m_var 1) (ma_cons (m_var 2) ma_nil)))) sc_paper_fill.nd rfl (by first | exact Or.inl rfl | exact Or.inr rfl))
    (ms_cons (ms_for PassesOwn.never rfl (mi_seqS (m_sortIt rfl (by rfl) (T.free 47) (by rfl) (m_ix (m_var 3) (m_un un_negM m_int)))) (mg_tup (is := [4, 5]) rfl (mgs_cons (i := 4) sc_paper_fill.nd rfl (by first | exact Or.inl rfl | exact Or.inr rfl) (mgs_cons (i := 5) sc_paper_fill.nd rfl (by first | exact Or.inl rfl | exact Or.inr rfl) mgs_nil))) (ms_one (ms_if (mt_cmp (op_eqM hr.u64) (m_callB cr_len (by rfl) (T.free 42) (by rfl) (ma_cons (m_var 4) ma_nil)) (m_var 0)) (ms_one (ms_ret (m_Q (m_tup (ma_cons m_str (ma_cons (m_Q (m_callTy cr_tup (by rfl) (T.free 48) (by rfl) (ma_cons (m_callB cr_sortT (by rfl) (T.free 47) (by rfl) (ma_cons (m_var 5) ma_nil)) ma_nil))) ma_nil)))))) ms_nil)))
    (ms_cons ms_never
    (ms_cons ms_never
    (ms_one ms_never))))))
/-! ### can_fill -/
abbrev st_can_fill : Stmt := top 45
theorem sc_can_fill : FnScope ["many", "own", "most"] ["many", "own", "most"] (defScope st_can_fill) := ⟨rfl, rfl, rfl, by decide +kernel, rfl, by decide +kernel, by decide +kernel⟩
def m_can_fill : SM := (mRet (mBin eqD (mBin ixF (mCall F_paper_fill (mSnoc (mCons (mVar 0) (mCons (mVar 1) mNil)) (mVar 2))) (mC (.int 0))) (mC (.str "places"))))
def F_can_fill : FM := FP (mBody m_can_fill 0)
instance : QF F_can_fill := inferInstanceAs (QF (FP _))
theorem ok_can_fill {P : Program} {w : World} {K : PySem.W.Frag} {mg : Str → Option Value} {base h : Heap} (T : Tp fa fn tf w K mg base h) : OkFK P w K mg base (tbs tf K) 6 "can_fill" ["many", "own", "most"] 2 3 [.int 5000] F_can_fill := by
  refine OkFK.pure (OkFK.of (k := 5) (n := 2) (j := 0) (f := m_can_fill) (kwd := [("most", .int 5000)]) T 34 34 rfl rfl sc_can_fill rfl rfl (by simp) rfl rfl (fun _ _ => .cons (.int 5000) (.nil)) (fun _ _ _ _ _ _ us ks h1 h2 => match us, ks, h1, h2 with | [_, _], [_], _, _ => ⟨_, _, _, _, _, _, rfl, rfl, rfl⟩) fun A outer s H E hr => ?_)
  exact (ms_one (ms_ret (m_cmp (op_eqM hr.u64) (m_ix (m_callKN (ok_paper_fill T) hr (by rfl) (ma_cons (m_var 0) (ma_cons (m_var 1) ma_nil)) (m_var 2)) m_int) m_str)))
/-! ### _law_cell -/
abbrev st__law_cell : Stmt := top 47
theorem sc__law_cell : FnScope ["script", "k"] ["script", "k"] (defScope st__law_cell) := ⟨rfl, rfl, rfl, by decide +kernel, rfl, by decide +kernel, by decide +kernel⟩
def m__law_cell : SM := (mSeq (mIfS (mTest (mBin ltD (mVar 1) (mCall lenL (mCons (mVar 0) mNil)))) (mRet (mBin ixF (mVar 0) (mVar 1))) mNext) (mRet (mC (.int 0))))
def F__law_cell : FM := mBody m__law_cell 0
theorem ok__law_cell {P : Program} {w : World} {K : PySem.W.Frag} {mg : Str → Option Value} {base h : Heap} (T : Tp fa fn tf w K mg base h) : OkF P w K mg base (tbs tf K) 1 "_law_cell" ["script", "k"] 2 F__law_cell := by
  refine OkF.same (OkF.of (k := 0) (j := 0) (f := m__law_cell) T 35 35 rfl rfl sc__law_cell rfl rfl (fun _ _ _ _ _ _ us hl => match us, hl with | [_, _], _ => rfl) fun A outer s H E hr => ?_)
  exact (ms_cons (ms_if (mt_cmp op_ltM (m_var 1) (m_callB cr_len (by rfl) (T.free 42) (by rfl) (ma_cons (m_var 0) ma_nil))) (ms_one (ms_ret (m_ix (m_var 0) (m_var 1)))) ms_nil)
    (ms_one (ms_ret m_int)))
/-! ### _law_draws -/
abbrev st__law_draws : Stmt := top 48
theorem sc__law_draws : FnScope ["cell", "count", "result", "rest", "k", "mixed"] ["cell", "count"] (defScope st__law_draws) := ⟨rfl, rfl, rfl, by decide +kernel, rfl, by decide +kernel, by decide +kernel⟩
def m__law_draws : SM := (mSeq (mSet 2 (mLst mNil)) (mSeq (mSet 3 (mCall int1 (mCons (mVar 0) mNil))) (mSeq (mFor (mRng1 (mCons (mVar 1) mNil)) (setN 4) (mSeq (mSet 5 (mBin modD (mCall int1 (mCons (mBin addD (mBin addD (mBin mulI (mVar 0) (mC (.int 48271))) (mBin mulI (mVar 4) (mC (.int 69621)))) (mC (.int 1))) mNil)) (mC (.int 2147483647)))) (mIfS (mTest (mBin geD (mVar 0) (mBin powD (mC (.int 10)) (mC (.int 18))))) (mSeq (mDrop (mApp (mVar 2) (mBin modD (mVar 3) (mC (.int 1009))))) (mSet 3 (mBin fdivD (mVar 3) (mC (.int 1009))))) (mDrop (mApp (mVar 2) (mBin fdivD (mBin modD (mCall int1 (mCons (mBin addD (mBin mulI (mVar 5) (mVar 5)) (mBin mulI (mVar 5) (mC (.int 40692)))) mNil)) (mC (.int 2147483399))) (mC (.int 7)))))))) (mRet (mVar 2)))))
def F__law_draws : FM := FP (mBody m__law_draws 4)
instance : QF F__law_draws := inferInstanceAs (QF (FP _))
theorem ok__law_draws {P : Program} {w : World} {K : PySem.W.Frag} {mg : Str → Option Value} {base h : Heap} (T : Tp fa fn tf w K mg base h) : OkF P w K mg base (tbs tf K) 1 "_law_draws" ["cell", "count"] 2 F__law_draws := by
  refine OkF.pure (OkF.of (k := 0) (j := 4) (f := m__law_draws) T 36 36 rfl rfl sc__law_draws rfl rfl (fun _ _ _ _ _ _ us hl => match us, hl with | [_, _], _ => rfl) fun A outer s H E hr => ?_)
  exact (ms_cons (ms_set (i := 2) (m_lst ma_nil) sc__law_draws.nd rfl (by first | exact Or.inl rfl | exact Or.inr rfl))
    (ms_cons (ms_set (i := 3) (m_callTy cr_int (by rfl) (T.free 40) (by rfl) (ma_cons (m_var 0) ma_nil)) sc__law_draws.nd rfl (by first | exact Or.inl rfl | exact Or.inr rfl))
    (ms_cons (ms_for PassesOwn.never rfl (mi_range1 (by rfl) (T.free 45) (ma_cons (m_var 1) ma_nil)) (mg_name (i := 4) sc__law_draws.nd rfl (by first | exact Or.inl rfl | exact Or.inr rfl)) (ms_cons (ms_set (i := 5) (m_bin op_modM (m_callTy cr_int (by rfl) (T.free 40) (by rfl) (ma_cons (m_bin op_addM (m_bin op_addM (m_bin op_mulM (m_var 0) m_int) (m_bin op_mulM (m_var 4) m_int)) m_int) ma_nil)) m_int) sc__law_draws.nd rfl (by first | exact Or.inl rfl | exact Or.inr rfl))
    (ms_one (ms_if (mt_cmp op_geM (m_var 0) (m_bin op_powM m_int m_int)) (ms_cons (ms_expr (m_append (m_var 2) (m_bin op_modM (m_var 3) m_int)))
    (ms_one (ms_set (i := 3) (m_bin op_fdivM (m_var 3) m_int) sc__law_draws.nd rfl (by first | exact Or.inl rfl | exact Or.inr rfl)))) (ms_one (ms_expr (m_append (m_var 2) (m_bin op_fdivM (m_bin op_modM (m_callTy cr_int (by rfl) (T.free 40) (by rfl) (ma_cons (m_bin op_addM (m_bin op_mulM (m_var 5) (m_var 5)) (m_bin op_mulM (m_var 5) m_int)) ma_nil)) m_int) m_int))))))))
    (ms_one (ms_ret (m_var 2))))))
/-! ### law -/
abbrev st_law : Stmt := top 49
theorem sc_law : FnScope ["script", "n", "many", "left", "row", "k", "first", "second", "alike", "moved", "turned", "back", "again", "whole", "sizes", "size", "own", "step"] ["script"] (defScope st_law) := ⟨rfl, rfl, rfl, by decide +kernel, rfl, by decide +kernel, by decide +kernel⟩
def len_law : Nat := 18
/- places: script 0, n 1, many 2, left 3, row 4, k 5, first 6, second 7, alike 8, moved 9, turned 10, back 11, again 12, whole 13, sizes 14, size 15, own 16, step 17 -/
def m0_law : SM := (mSet 1 (mCall F__law_draws (mCons (mCall F__law_cell (mCons (mVar 0) (mCons (mC (.int 0)) mNil))) (mCons (mC (.int 20)) mNil))))
def m1_law : SM := (mSet 2 (mBin ixF (mTup (mCons (mC (.int 2)) (mCons (mC (.int 4)) (mCons (mC (.int 6)) (mCons (mC (.int 8)) mNil))))) (mBin modD (mBin ixF (mVar 1) (mC (.int 0))) (mC (.int 4)))))
def m2_law : SM := mSeq (mSet 3 (mQ (mLstRg (mRg1 (mVar 2)))))
  (mSeq (mSet 4 (mLst mNil))
  ((mFor (mRng1 (mCons (mVar 2) mNil)) (setN 5) (mDrop (mApp (mVar 4) (mPop (mVar 3) (mBin modD (mBin ixF (mVar 1) (mBin addD (mC (.int 1)) (mVar 5))) (mCall lenL (mCons (mVar 3) mNil)))))))))
def m3_law : SM := (mSet 4 (mCall tupL (mCons (mVar 4) mNil)))
def m4_law : SM := (mAsgT (setT [6, 7]) (mCall F_parts_of (mCons (mVar 4) (mCons (mBin fdivD (mVar 2) (mC (.int 2))) mNil))))
def m5_law : SM := mSeq (mIfS (mOrB (mTest (mBin (notF eqD) (mCall F_others_of (mCons (mVar 2) (mCons (mVar 6) mNil))) (mVar 7))) (mTest (mBin (notF eqD) (mCall F_interval_counts (mCons (mVar 2) (mCons (mVar 6) mNil))) (mCall F_interval_counts (mCons (mVar 2) (mCons (mVar 7) mNil)))))) (mRet (mC (.bl false))) mNext)
  (mSeq (mSet 8 (mCall F_is_one_kind (mCons (mVar 2) (mCons (mVar 6) (mCons (mVar 7) mNil)))))
  ((mIfS (mAndB (mNotB (mTru (mVar 8))) (mTest (mBin (notF inX) (mCall F_first_image (mCons (mVar 2) (mCons (mVar 7) mNil))) (mCall (fun ds => F_twins_of (ds ++ [.int 5000])) (mCons (mVar 2) (mCons (mVar 6) mNil)))))) (mRet (mC (.bl false))) mNext)))
def m6_law : SM := (mAsgT (setT [9, 10]) (mCall F_halves_that_fit (mCons (mVar 4) mNil)))
def t7_law : BM := (mTest (mBin (notF eqD) (mBin gtD (mBin addD (mCall lenL (mCons (mVar 9) mNil)) (mCall lenL (mCons (mVar 10) mNil))) (mC (.int 0))) (mVar 8)))
def m7_law : SM := (mIfS t7_law (mRet (mC (.bl false))) mNext)
def m8_law : SM := (mAsgT (setT [11, 12]) (mCall F_halves_that_fit (mCons (mCall F_backwards (mCons (mVar 4) mNil)) mNil)))
def t9_law : BM := (mQB (mOrB (mTest (mBin (notF eqD) (mVar 12) (mVar 10))) (mTest (mBin (notF eqD) (mVar 11) (mQ (mCall tupL (mCons (mCall sortL (mCons (mLc (mSeqW (mVar 9)) (setN 5) mYes (mBin modD (mBin subD (mVar 2) (mVar 5)) (mVar 2)) [5]) mNil)) mNil)))))))
def m9_law : SM := (mIfS t9_law (mRet (mC (.bl false))) mNext)
def t10_law : BM := (mTest (mBin (notF eqD) (mBin ixF (mCall F_halves_that_fit (mCons (mCall F_moved_row (mCons (mVar 4) (mCons (mBin ixF (mVar 1) (mC (.int 10))) mNil))) mNil)) (mC (.int 0))) (mVar 9)))
def m10_law : SM := (mIfS t10_law (mRet (mC (.bl false))) mNext)
def m11_law : SM := (mSet 13 (mBin addD (mBin modD (mBin ixF (mVar 1) (mC (.int 11))) (mC (.int 16))) (mC (.int 1))))
def m12_law : SM := mSeq (mSet 14 (mLc (mRng2 (mCons (mC (.int 1)) (mCons (mBin addD (mVar 13) (mC (.int 1))) mNil))) (setN 5) (mTest (mBin eqD (mBin modD (mVar 13) (mVar 5)) (mC (.int 0)))) (mVar 5) [5]))
  ((mSet 15 (mBin ixF (mVar 14) (mBin modD (mBin ixF (mVar 1) (mC (.int 12))) (mCall lenL (mCons (mVar 14) mNil))))))
def m13_law : SM := mSeq (mSet 16 (mCall F_even_set (mCons (mVar 13) (mCons (mVar 15) (mCons (mC (.int 0)) mNil)))))
  (mSeq (mSet 17 (mBin fdivD (mVar 13) (mVar 15)))
  (mSeq (mIfS (mQB (mOrB (mTest (mBin (notF eqD) (mCall F_own_turns (mCons (mVar 13) (mCons (mVar 16) mNil))) (mQ (mCall tupL (mCons (mLc (mRng1 (mCons (mVar 15) mNil)) (setN 5) mYes (mBin mulI (mVar 5) (mVar 17)) [5]) mNil))))) (mOrB (mNotB (mTru (mCall F_fills (mCons (mVar 13) (mCons (mVar 16) (mCons (mTupRg (mRg1 (mVar 17))) mNil)))))) (mNotB (mTru (mCall (fun ds => F_can_fill (ds ++ [.int 5000])) (mCons (mVar 13) (mCons (mVar 16) mNil)))))))) (mRet (mC (.bl false))) mNext)
  (mSeq (mIfS (mAndB (mTest (mBin gtD (mVar 15) (mC (.int 1)))) (mTest (mBin (notF inX) (mBin modD (mVar 17) (mVar 13)) (mCall F_generators (mCons (mVar 13) (mCons (mVar 16) mNil)))))) (mRet (mC (.bl false))) mNext)
  ((mRet (mAndV (mCall F_is_even (mCons (mVar 13) (mCons (mVar 16) mNil))) (mNotV (mCall F_has_two_spans (mCons (mVar 13) (mCons (mVar 16) mNil))))))))))
theorem pss_law {P : Program} {w : World} {K : PySem.W.Frag} {mg : Str → Option Value} {base h : Heap} (T : Tp fa fn tf w K mg base h) (A : Around) (outer : List Env) (s : Shared) (H : Hp) (E : XK) (hr : Room 6 (DX P w K mg base ["script", "n", "many", "left", "row", "k", "first", "second", "alike", "moved", "turned", "back", "again", "whole", "sizes", "size", "own", "step"] st_law "law" A outer s H E).A) :
    PSs (DX P w K mg base ["script", "n", "many", "left", "row", "k", "first", "second", "alike", "moved", "turned", "back", "again", "whole", "sizes", "size", "own", "step"] st_law "law" A outer s H E) (defBody st_law) (TSK ⟨K, tbs tf K⟩ m0_law (TSK ⟨K, tbs tf K⟩ m1_law (TSK ⟨K, tbs tf K⟩ m2_law (TSK ⟨K, tbs tf K⟩ m3_law (TSK ⟨K, tbs tf K⟩ m4_law (TSK ⟨K, tbs tf K⟩ m5_law (TSK ⟨K, tbs tf K⟩ m6_law (TSK ⟨K, tbs tf K⟩ m7_law (TSK ⟨K, tbs tf K⟩ m8_law (TSK ⟨K, tbs tf K⟩ m9_law (TSK ⟨K, tbs tf K⟩ m10_law (TSK ⟨K, tbs tf K⟩ m11_law (TSK ⟨K, tbs tf K⟩ m12_law (TSM ⟨K, tbs tf K⟩ m13_law)))))))))))))) :=
  (mk_one (ms_set (i := 1) (m_callO (ok__law_draws T) (hr.mono (by decide)) (by rfl) (ma_cons (m_callO (ok__law_cell T) (hr.mono (by decide)) (by rfl) (ma_cons (m_var 0) (ma_cons m_int ma_nil))) (ma_cons m_int ma_nil))) sc_law.nd rfl (by first | exact Or.inl rfl | exact Or.inr rfl))
    (mk_one (ms_set (i := 2) (m_ix (m_tup (ma_cons m_int (ma_cons m_int (ma_cons m_int (ma_cons m_int ma_nil))))) (m_bin op_modM (m_ix (m_var 1) m_int) m_int)) sc_law.nd rfl (by first | exact Or.inl rfl | exact Or.inr rfl))
    (mk_cons (ms_set (i := 3) (m_Q (m_lstRg rfl (by rfl) (T.free 43) (m_rg1 (by rfl) (T.free 45) (m_var 2)))) sc_law.nd rfl (by first | exact Or.inl rfl | exact Or.inr rfl))
    (mk_cons (ms_set (i := 4) (m_lst ma_nil) sc_law.nd rfl (by first | exact Or.inl rfl | exact Or.inr rfl))
    (mk_one (ms_for PassesOwn.never rfl (mi_range1 (by rfl) (T.free 45) (ma_cons (m_var 2) ma_nil)) (mg_name (i := 5) sc_law.nd rfl (by first | exact Or.inl rfl | exact Or.inr rfl)) (ms_one (ms_expr (m_append (m_var 4) (m_pop (m_var 3) (m_bin op_modM (m_ix (m_var 1) (m_bin op_addM m_int (m_var 5))) (m_callB cr_len (by rfl) (T.free 42) (by rfl) (ma_cons (m_var 3) ma_nil))))))))
    (mk_one (ms_set (i := 4) (m_callTy cr_tup (by rfl) (T.free 48) (by rfl) (ma_cons (m_var 4) ma_nil)) sc_law.nd rfl (by first | exact Or.inl rfl | exact Or.inr rfl))
    (mk_one (ms_asg (m_callO (ok_parts_of T) (hr.mono (by decide)) (by rfl) (ma_cons (m_var 4) (ma_cons (m_bin op_fdivM (m_var 2) m_int) ma_nil))) (mg_tup (is := [6, 7]) rfl (mgs_cons (i := 6) sc_law.nd rfl (by first | exact Or.inl rfl | exact Or.inr rfl) (mgs_cons (i := 7) sc_law.nd rfl (by first | exact Or.inl rfl | exact Or.inr rfl) mgs_nil))))
    (mk_cons (ms_if (PW.pt (mw_or (mt_cmp (op_neM hr.u64) (m_callO (ok_others_of T) (hr.mono (by decide)) (by rfl) (ma_cons (m_var 2) (ma_cons (m_var 6) ma_nil))) (m_var 7)) (mw_or1 (mt_cmp (op_neM hr.u64) (m_callO (ok_interval_counts T) (hr.mono (by decide)) (by rfl) (ma_cons (m_var 2) (ma_cons (m_var 6) ma_nil))) (m_callO (ok_interval_counts T) (hr.mono (by decide)) (by rfl) (ma_cons (m_var 2) (ma_cons (m_var 7) ma_nil))))))) (ms_one (ms_ret m_bl)) ms_nil)
    (mk_cons (ms_set (i := 8) (m_callO (ok_is_one_kind T) (hr.mono (by decide)) (by rfl) (ma_cons (m_var 2) (ma_cons (m_var 6) (ma_cons (m_var 7) ma_nil)))) sc_law.nd rfl (by first | exact Or.inl rfl | exact Or.inr rfl))
    (mk_one (ms_if (PW.pt (mw_and (mt_not (mt_truth (m_var 8))) (mw_and1 (mt_cmp (op_notInX hr.u65) (m_callO (ok_first_image T) (hr.mono (by decide)) (by rfl) (ma_cons (m_var 2) (ma_cons (m_var 7) ma_nil))) (m_callOK (ok_twins_of T) hr (by rfl) (ma_cons (m_var 2) (ma_cons (m_var 6) ma_nil))))))) (ms_one (ms_ret m_bl)) ms_nil)
    (mk_one (ms_asg (m_callO (ok_halves_that_fit T) (hr.mono (by decide)) (by rfl) (ma_cons (m_var 4) ma_nil)) (mg_tup (is := [9, 10]) rfl (mgs_cons (i := 9) sc_law.nd rfl (by first | exact Or.inl rfl | exact Or.inr rfl) (mgs_cons (i := 10) sc_law.nd rfl (by first | exact Or.inl rfl | exact Or.inr rfl) mgs_nil))))
    (mk_one (ms_if (mt_cmp (op_neM hr.u64) (m_cmp op_gtM (m_bin op_addM (m_callB cr_len (by rfl) (T.free 42) (by rfl) (ma_cons (m_var 9) ma_nil)) (m_callB cr_len (by rfl) (T.free 42) (by rfl) (ma_cons (m_var 10) ma_nil))) m_int) (m_var 8)) (ms_one (ms_ret m_bl)) ms_nil)
    (mk_one (ms_asg (m_callO (ok_halves_that_fit T) (hr.mono (by decide)) (by rfl) (ma_cons (m_callO (ok_backwards T) (hr.mono (by decide)) (by rfl) (ma_cons (m_var 4) ma_nil)) ma_nil)) (mg_tup (is := [11, 12]) rfl (mgs_cons (i := 11) sc_law.nd rfl (by first | exact Or.inl rfl | exact Or.inr rfl) (mgs_cons (i := 12) sc_law.nd rfl (by first | exact Or.inl rfl | exact Or.inr rfl) mgs_nil))))
    (mk_one (ms_if (mt_Q (PW.pt (mw_or (mt_cmp (op_neM hr.u64) (m_var 12) (m_var 10)) (mw_or1 (mt_cmp (op_neM hr.u64) (m_var 11) (m_Q (m_callTy cr_tup (by rfl) (T.free 48) (by rfl) (ma_cons (m_callB cr_sortL (by rfl) (T.free 47) (by rfl) (ma_cons (m_lc rfl sc_law.nd (mi_seqW (m_var 9)) (blkOk_by (own := [(("k" : Str), 5)]) (by rfl)) (fun _ _ _ _ _ => (mg_name (i := 5) sc_law.nd rfl (by first | exact Or.inl rfl | exact Or.inr rfl))) (fun _ _ _ _ _ => mts_nil) (fun _ _ _ _ _ => (m_bin op_modM (m_bin op_subM (m_var 2) (m_var 5)) (m_var 2)))) ma_nil)) ma_nil)))))))) (ms_one (ms_ret m_bl)) ms_nil)
    (mk_one (ms_if (mt_cmp (op_neM hr.u64) (m_ix (m_callO (ok_halves_that_fit T) (hr.mono (by decide)) (by rfl) (ma_cons (m_callO (ok_moved_row T) (hr.mono (by decide)) (by rfl) (ma_cons (m_var 4) (ma_cons (m_ix (m_var 1) m_int) ma_nil))) ma_nil)) m_int) (m_var 9)) (ms_one (ms_ret m_bl)) ms_nil)
    (mk_one (ms_set (i := 13) (m_bin op_addM (m_bin op_modM (m_ix (m_var 1) m_int) m_int) m_int) sc_law.nd rfl (by first | exact Or.inl rfl | exact Or.inr rfl))
    (mk_cons (ms_setLc (i := 14) rfl sc_law.nd rfl rfl (by first | rfl | exact sw_true rfl rfl rfl (by decide +kernel)) (mi_w (mi_range2 (by rfl) (T.free 45) (ma_cons m_int (ma_cons (m_bin op_addM (m_var 13) m_int) ma_nil)))) (blkOk_by (own := [(("k" : Str), 5)]) (by rfl)) (fun _ _ _ _ _ => (mg_name (i := 5) sc_law.nd rfl (by first | exact Or.inl rfl | exact Or.inr rfl))) (fun _ _ _ _ _ => (mts_one (mt_cmp (op_eqM hr.u64) (m_bin op_modM (m_var 13) (m_var 5)) m_int))) (fun _ _ _ _ _ => (m_var 5)))
    (mk_one (ms_set (i := 15) (m_ix (m_var 14) (m_bin op_modM (m_ix (m_var 1) m_int) (m_callB cr_len (by rfl) (T.free 42) (by rfl) (ma_cons (m_var 14) ma_nil)))) sc_law.nd rfl (by first | exact Or.inl rfl | exact Or.inr rfl))
    (ms_cons (ms_set (i := 16) (m_callO (ok_even_set T) (hr.mono (by decide)) (by rfl) (ma_cons (m_var 13) (ma_cons (m_var 15) (ma_cons m_int ma_nil)))) sc_law.nd rfl (by first | exact Or.inl rfl | exact Or.inr rfl))
    (ms_cons (ms_set (i := 17) (m_bin op_fdivM (m_var 13) (m_var 15)) sc_law.nd rfl (by first | exact Or.inl rfl | exact Or.inr rfl))
    (ms_cons (ms_if (mt_Q (PW.pt (mw_or (mt_cmp (op_neM hr.u64) (m_callO (ok_own_turns T) (hr.mono (by decide)) (by rfl) (ma_cons (m_var 13) (ma_cons (m_var 16) ma_nil))) (m_Q (m_callTy cr_tup (by rfl) (T.free 48) (by rfl) (ma_cons (m_lc rfl sc_law.nd (mi_w (mi_range1 (by rfl) (T.free 45) (ma_cons (m_var 15) ma_nil))) (blkOk_by (own := [(("k" : Str), 5)]) (by rfl)) (fun _ _ _ _ _ => (mg_name (i := 5) sc_law.nd rfl (by first | exact Or.inl rfl | exact Or.inr rfl))) (fun _ _ _ _ _ => mts_nil) (fun _ _ _ _ _ => (m_bin op_mulM (m_var 5) (m_var 17)))) ma_nil)))) (mw_or (mt_not (mt_truth (m_callO (ok_fills T) (hr.mono (by decide)) (by rfl) (ma_cons (m_var 13) (ma_cons (m_var 16) (ma_cons (m_tupRg rfl (by rfl) (T.free 48) (m_rg1 (by rfl) (T.free 45) (m_var 17))) ma_nil)))))) (mw_or1 (mt_not (mt_truth (m_callOK (ok_can_fill T) hr (by rfl) (ma_cons (m_var 13) (ma_cons (m_var 16) ma_nil)))))))))) (ms_one (ms_ret m_bl)) ms_nil)
    (ms_cons (ms_if (PW.pt (mw_and (mt_cmp op_gtM (m_var 15) m_int) (mw_and1 (mt_cmp (op_notInX hr.u65) (m_bin op_modM (m_var 17) (m_var 13)) (m_callO (ok_generators T) (hr.mono (by decide)) (by rfl) (ma_cons (m_var 13) (ma_cons (m_var 16) ma_nil))))))) (ms_one (ms_ret m_bl)) ms_nil)
    (ms_one (ms_ret (m_and (m_callO (ok_is_even T) (hr.mono (by decide)) (by rfl) (ma_cons (m_var 13) (ma_cons (m_var 16) ma_nil))) (m_one (m_not (m_callO (ok_has_two_spans T) (hr.mono (by decide)) (by rfl) (ma_cons (m_var 13) (ma_cons (m_var 16) ma_nil))))))))))))))))))))))))))))))
def rho5 (m : Int) (R S T : D) : En := [none, some (.ref 0), some (.int m), none, some R, none, some S, some T, none, none, none, none, none, none, none, none, none, none]
def rho6 (m : Int) (R S T : D) (a : Bool) : En := [none, some (.ref 0), some (.int m), none, some R, none, some S, some T, some (.bl a), none, none, none, none, none, none, none, none, none]
def hrest : SM := (mSeq (mSet 4 (mQ (mCall tupL (mCons (mLc (mRng1 (mCons (mVar 1) mNil)) (setN 6) (mTest (mBin eqD (mCall F_moved_set (mCons (mVar 1) (mCons (mVar 2) (mCons (mVar 6) mNil)))) (mVar 3))) (mVar 6) [6]) mNil)))) (mSeq (mSet 5 (mQ (mCall tupL (mCons (mLc (mRng1 (mCons (mVar 1) mNil)) (setN 6) (mTest (mBin eqD (mCall F_mirrored_set (mCons (mVar 1) (mCons (mVar 2) (mCons (mVar 6) mNil)))) (mVar 3))) (mVar 6) [6]) mNil)))) (mRet (mTup (mCons (mVar 4) (mCons (mVar 5) mNil))))))
def mvN (m : Int) (S T : List Int) : List Int := filR (fun k => eqLI (srtM (S.map fun x => (x + k) % m)) T) 0 m.toNat
def trN (m : Int) (S T : List Int) : List Int := filR (fun k => eqLI (srtM (S.map fun x => (k - x) % m)) T) 0 m.toNat
def allT (f : Int → Bool) (n : Nat) : Bool := allR f 0 n
def chk06 (m : Int) (S T : List Int) (a : Bool) : Bool := eqLI (trN m T S) (trN m S T) && (eqLI (mvN m T S) (srtM ((mvN m S T).map fun k => (m - k) % m)) && (allR (fun t => eqLI (mvN m (srtM (S.map fun x => (x + t) % m)) (srtM (T.map fun x => (x + t) % m))) (mvN m S T)) 0 m.toNat && (decide ((0 : Int) < ((mvN m S T).length : Int) + (trN m S T).length) == a)))
theorem chk_ex {m : Int} {S T : List Int} {a : Bool} (h : chk06 m S T a = true) : trN m T S = trN m S T ∧ mvN m T S = srtM ((mvN m S T).map fun k => (m - k) % m) ∧ allR (fun t => eqLI (mvN m (srtM (S.map fun x => (x + t) % m)) (srtM (T.map fun x => (x + t) % m))) (mvN m S T)) 0 m.toNat = true ∧ decide ((0 : Int) < ((mvN m S T).length : Int) + (trN m S T).length) = a := by
  unfold chk06 at h
  simp only [Bool.and_eq_true, beq_iff_eq] at h
  exact ⟨eqLI_eq h.1, eqLI_eq h.2.1, h.2.2.1, h.2.2.2⟩
structure Good (m : Int) (S T : List Int) (a : Bool) : Prop where
  g5 : ∀ (L : List D) (R : D), keepR [1, 2, 4, 6, 7, 8] (m5_law (rho5 m R (tI S) (tI T)) [.lst L]) = some (.nx (rho6 m R (tI S) (tI T) a) [.lst L])
  hf : ∀ R : D, hrest [some R, some (.int m), some (tI S), some (tI T), none, none, none] [] = some (.ret (.tup [tI (mvN m S T), tI (trN m S T)]) [])
  ck : chk06 m S T a = true
theorem go2_0 : Good 2 [0] [1] true := ⟨by intro L R; kernel_rfl, by intro R; kernel_rfl, by decide +kernel⟩
theorem go2_1 : Good 2 [1] [0] true := ⟨by intro L R; kernel_rfl, by intro R; kernel_rfl, by decide +kernel⟩
theorem go4_0 : Good 4 [0, 1] [2, 3] true := ⟨by intro L R; kernel_rfl, by intro R; kernel_rfl, by decide +kernel⟩
theorem go4_1 : Good 4 [0, 2] [1, 3] true := ⟨by intro L R; kernel_rfl, by intro R; kernel_rfl, by decide +kernel⟩
theorem go4_2 : Good 4 [0, 3] [1, 2] true := ⟨by intro L R; kernel_rfl, by intro R; kernel_rfl, by decide +kernel⟩
theorem go4_3 : Good 4 [1, 2] [0, 3] true := ⟨by intro L R; kernel_rfl, by intro R; kernel_rfl, by decide +kernel⟩
theorem go4_4 : Good 4 [1, 3] [0, 2] true := ⟨by intro L R; kernel_rfl, by intro R; kernel_rfl, by decide +kernel⟩
theorem go4_5 : Good 4 [2, 3] [0, 1] true := ⟨by intro L R; kernel_rfl, by intro R; kernel_rfl, by decide +kernel⟩
theorem go6_0 : Good 6 [0, 1, 2] [3, 4, 5] true := ⟨by intro L R; kernel_rfl, by intro R; kernel_rfl, by decide +kernel⟩
theorem go6_1 : Good 6 [0, 1, 3] [2, 4, 5] true := ⟨by intro L R; kernel_rfl, by intro R; kernel_rfl, by decide +kernel⟩
theorem go6_2 : Good 6 [0, 1, 4] [2, 3, 5] true := ⟨by intro L R; kernel_rfl, by intro R; kernel_rfl, by decide +kernel⟩
theorem go6_3 : Good 6 [0, 1, 5] [2, 3, 4] true := ⟨by intro L R; kernel_rfl, by intro R; kernel_rfl, by decide +kernel⟩
theorem go6_4 : Good 6 [0, 2, 3] [1, 4, 5] true := ⟨by intro L R; kernel_rfl, by intro R; kernel_rfl, by decide +kernel⟩
theorem go6_5 : Good 6 [0, 2, 4] [1, 3, 5] true := ⟨by intro L R; kernel_rfl, by intro R; kernel_rfl, by decide +kernel⟩
theorem go6_6 : Good 6 [0, 2, 5] [1, 3, 4] true := ⟨by intro L R; kernel_rfl, by intro R; kernel_rfl, by decide +kernel⟩
theorem go6_7 : Good 6 [0, 3, 4] [1, 2, 5] true := ⟨by intro L R; kernel_rfl, by intro R; kernel_rfl, by decide +kernel⟩
theorem go6_8 : Good 6 [0, 3, 5] [1, 2, 4] true := ⟨by intro L R; kernel_rfl, by intro R; kernel_rfl, by decide +kernel⟩
theorem go6_9 : Good 6 [0, 4, 5] [1, 2, 3] true := ⟨by intro L R; kernel_rfl, by intro R; kernel_rfl, by decide +kernel⟩
theorem go6_10 : Good 6 [1, 2, 3] [0, 4, 5] true := ⟨by intro L R; kernel_rfl, by intro R; kernel_rfl, by decide +kernel⟩
theorem go6_11 : Good 6 [1, 2, 4] [0, 3, 5] true := ⟨by intro L R; kernel_rfl, by intro R; kernel_rfl, by decide +kernel⟩
theorem go6_12 : Good 6 [1, 2, 5] [0, 3, 4] true := ⟨by intro L R; kernel_rfl, by intro R; kernel_rfl, by decide +kernel⟩
theorem go6_13 : Good 6 [1, 3, 4] [0, 2, 5] true := ⟨by intro L R; kernel_rfl, by intro R; kernel_rfl, by decide +kernel⟩
theorem go6_14 : Good 6 [1, 3, 5] [0, 2, 4] true := ⟨by intro L R; kernel_rfl, by intro R; kernel_rfl, by decide +kernel⟩
theorem go6_15 : Good 6 [1, 4, 5] [0, 2, 3] true := ⟨by intro L R; kernel_rfl, by intro R; kernel_rfl, by decide +kernel⟩
theorem go6_16 : Good 6 [2, 3, 4] [0, 1, 5] true := ⟨by intro L R; kernel_rfl, by intro R; kernel_rfl, by decide +kernel⟩
theorem go6_17 : Good 6 [2, 3, 5] [0, 1, 4] true := ⟨by intro L R; kernel_rfl, by intro R; kernel_rfl, by decide +kernel⟩
theorem go6_18 : Good 6 [2, 4, 5] [0, 1, 3] true := ⟨by intro L R; kernel_rfl, by intro R; kernel_rfl, by decide +kernel⟩
theorem go6_19 : Good 6 [3, 4, 5] [0, 1, 2] true := ⟨by intro L R; kernel_rfl, by intro R; kernel_rfl, by decide +kernel⟩
theorem go8_0 : Good 8 [0, 1, 2, 3] [4, 5, 6, 7] true := ⟨by intro L R; kernel_rfl, by intro R; kernel_rfl, by decide +kernel⟩
theorem go8_1 : Good 8 [0, 1, 2, 4] [3, 5, 6, 7] true := ⟨by intro L R; kernel_rfl, by intro R; kernel_rfl, by decide +kernel⟩
theorem go8_2 : Good 8 [0, 1, 2, 5] [3, 4, 6, 7] false := ⟨by intro L R; kernel_rfl, by intro R; kernel_rfl, by decide +kernel⟩
theorem go8_3 : Good 8 [0, 1, 2, 6] [3, 4, 5, 7] true := ⟨by intro L R; kernel_rfl, by intro R; kernel_rfl, by decide +kernel⟩
theorem go8_4 : Good 8 [0, 1, 2, 7] [3, 4, 5, 6] true := ⟨by intro L R; kernel_rfl, by intro R; kernel_rfl, by decide +kernel⟩
theorem go8_5 : Good 8 [0, 1, 3, 4] [2, 5, 6, 7] false := ⟨by intro L R; kernel_rfl, by intro R; kernel_rfl, by decide +kernel⟩
theorem go8_6 : Good 8 [0, 1, 3, 5] [2, 4, 6, 7] true := ⟨by intro L R; kernel_rfl, by intro R; kernel_rfl, by decide +kernel⟩
theorem go8_7 : Good 8 [0, 1, 3, 6] [2, 4, 5, 7] true := ⟨by intro L R; kernel_rfl, by intro R; kernel_rfl, by decide +kernel⟩
theorem go8_8 : Good 8 [0, 1, 3, 7] [2, 4, 5, 6] true := ⟨by intro L R; kernel_rfl, by intro R; kernel_rfl, by decide +kernel⟩
theorem go8_9 : Good 8 [0, 1, 4, 5] [2, 3, 6, 7] true := ⟨by intro L R; kernel_rfl, by intro R; kernel_rfl, by decide +kernel⟩
theorem go8_10 : Good 8 [0, 1, 4, 6] [2, 3, 5, 7] true := ⟨by intro L R; kernel_rfl, by intro R; kernel_rfl, by decide +kernel⟩
theorem go8_11 : Good 8 [0, 1, 4, 7] [2, 3, 5, 6] false := ⟨by intro L R; kernel_rfl, by intro R; kernel_rfl, by decide +kernel⟩
theorem go8_12 : Good 8 [0, 1, 5, 6] [2, 3, 4, 7] false := ⟨by intro L R; kernel_rfl, by intro R; kernel_rfl, by decide +kernel⟩
theorem go8_13 : Good 8 [0, 1, 5, 7] [2, 3, 4, 6] true := ⟨by intro L R; kernel_rfl, by intro R; kernel_rfl, by decide +kernel⟩
theorem go8_14 : Good 8 [0, 1, 6, 7] [2, 3, 4, 5] true := ⟨by intro L R; kernel_rfl, by intro R; kernel_rfl, by decide +kernel⟩
theorem go8_15 : Good 8 [0, 2, 3, 4] [1, 5, 6, 7] true := ⟨by intro L R; kernel_rfl, by intro R; kernel_rfl, by decide +kernel⟩
theorem go8_16 : Good 8 [0, 2, 3, 5] [1, 4, 6, 7] true := ⟨by intro L R; kernel_rfl, by intro R; kernel_rfl, by decide +kernel⟩
theorem go8_17 : Good 8 [0, 2, 3, 6] [1, 4, 5, 7] true := ⟨by intro L R; kernel_rfl, by intro R; kernel_rfl, by decide +kernel⟩
theorem go8_18 : Good 8 [0, 2, 3, 7] [1, 4, 5, 6] false := ⟨by intro L R; kernel_rfl, by intro R; kernel_rfl, by decide +kernel⟩
theorem go8_19 : Good 8 [0, 2, 4, 5] [1, 3, 6, 7] true := ⟨by intro L R; kernel_rfl, by intro R; kernel_rfl, by decide +kernel⟩
theorem go8_20 : Good 8 [0, 2, 4, 6] [1, 3, 5, 7] true := ⟨by intro L R; kernel_rfl, by intro R; kernel_rfl, by decide +kernel⟩
theorem go8_21 : Good 8 [0, 2, 4, 7] [1, 3, 5, 6] true := ⟨by intro L R; kernel_rfl, by intro R; kernel_rfl, by decide +kernel⟩
theorem go8_22 : Good 8 [0, 2, 5, 6] [1, 3, 4, 7] true := ⟨by intro L R; kernel_rfl, by intro R; kernel_rfl, by decide +kernel⟩
theorem go8_23 : Good 8 [0, 2, 5, 7] [1, 3, 4, 6] true := ⟨by intro L R; kernel_rfl, by intro R; kernel_rfl, by decide +kernel⟩
theorem go8_24 : Good 8 [0, 2, 6, 7] [1, 3, 4, 5] true := ⟨by intro L R; kernel_rfl, by intro R; kernel_rfl, by decide +kernel⟩
theorem go8_25 : Good 8 [0, 3, 4, 5] [1, 2, 6, 7] false := ⟨by intro L R; kernel_rfl, by intro R; kernel_rfl, by decide +kernel⟩
theorem go8_26 : Good 8 [0, 3, 4, 6] [1, 2, 5, 7] true := ⟨by intro L R; kernel_rfl, by intro R; kernel_rfl, by decide +kernel⟩
theorem go8_27 : Good 8 [0, 3, 4, 7] [1, 2, 5, 6] true := ⟨by intro L R; kernel_rfl, by intro R; kernel_rfl, by decide +kernel⟩
theorem go8_28 : Good 8 [0, 3, 5, 6] [1, 2, 4, 7] true := ⟨by intro L R; kernel_rfl, by intro R; kernel_rfl, by decide +kernel⟩
theorem go8_29 : Good 8 [0, 3, 5, 7] [1, 2, 4, 6] true := ⟨by intro L R; kernel_rfl, by intro R; kernel_rfl, by decide +kernel⟩
theorem go8_30 : Good 8 [0, 3, 6, 7] [1, 2, 4, 5] false := ⟨by intro L R; kernel_rfl, by intro R; kernel_rfl, by decide +kernel⟩
theorem go8_31 : Good 8 [0, 4, 5, 6] [1, 2, 3, 7] true := ⟨by intro L R; kernel_rfl, by intro R; kernel_rfl, by decide +kernel⟩
theorem go8_32 : Good 8 [0, 4, 5, 7] [1, 2, 3, 6] false := ⟨by intro L R; kernel_rfl, by intro R; kernel_rfl, by decide +kernel⟩
theorem go8_33 : Good 8 [0, 4, 6, 7] [1, 2, 3, 5] true := ⟨by intro L R; kernel_rfl, by intro R; kernel_rfl, by decide +kernel⟩
theorem go8_34 : Good 8 [0, 5, 6, 7] [1, 2, 3, 4] true := ⟨by intro L R; kernel_rfl, by intro R; kernel_rfl, by decide +kernel⟩
theorem go8_35 : Good 8 [1, 2, 3, 4] [0, 5, 6, 7] true := ⟨by intro L R; kernel_rfl, by intro R; kernel_rfl, by decide +kernel⟩
theorem go8_36 : Good 8 [1, 2, 3, 5] [0, 4, 6, 7] true := ⟨by intro L R; kernel_rfl, by intro R; kernel_rfl, by decide +kernel⟩
theorem go8_37 : Good 8 [1, 2, 3, 6] [0, 4, 5, 7] false := ⟨by intro L R; kernel_rfl, by intro R; kernel_rfl, by decide +kernel⟩
theorem go8_38 : Good 8 [1, 2, 3, 7] [0, 4, 5, 6] true := ⟨by intro L R; kernel_rfl, by intro R; kernel_rfl, by decide +kernel⟩
theorem go8_39 : Good 8 [1, 2, 4, 5] [0, 3, 6, 7] false := ⟨by intro L R; kernel_rfl, by intro R; kernel_rfl, by decide +kernel⟩
theorem go8_40 : Good 8 [1, 2, 4, 6] [0, 3, 5, 7] true := ⟨by intro L R; kernel_rfl, by intro R; kernel_rfl, by decide +kernel⟩
theorem go8_41 : Good 8 [1, 2, 4, 7] [0, 3, 5, 6] true := ⟨by intro L R; kernel_rfl, by intro R; kernel_rfl, by decide +kernel⟩
theorem go8_42 : Good 8 [1, 2, 5, 6] [0, 3, 4, 7] true := ⟨by intro L R; kernel_rfl, by intro R; kernel_rfl, by decide +kernel⟩
theorem go8_43 : Good 8 [1, 2, 5, 7] [0, 3, 4, 6] true := ⟨by intro L R; kernel_rfl, by intro R; kernel_rfl, by decide +kernel⟩
theorem go8_44 : Good 8 [1, 2, 6, 7] [0, 3, 4, 5] false := ⟨by intro L R; kernel_rfl, by intro R; kernel_rfl, by decide +kernel⟩
theorem go8_45 : Good 8 [1, 3, 4, 5] [0, 2, 6, 7] true := ⟨by intro L R; kernel_rfl, by intro R; kernel_rfl, by decide +kernel⟩
theorem go8_46 : Good 8 [1, 3, 4, 6] [0, 2, 5, 7] true := ⟨by intro L R; kernel_rfl, by intro R; kernel_rfl, by decide +kernel⟩
theorem go8_47 : Good 8 [1, 3, 4, 7] [0, 2, 5, 6] true := ⟨by intro L R; kernel_rfl, by intro R; kernel_rfl, by decide +kernel⟩
theorem go8_48 : Good 8 [1, 3, 5, 6] [0, 2, 4, 7] true := ⟨by intro L R; kernel_rfl, by intro R; kernel_rfl, by decide +kernel⟩
theorem go8_49 : Good 8 [1, 3, 5, 7] [0, 2, 4, 6] true := ⟨by intro L R; kernel_rfl, by intro R; kernel_rfl, by decide +kernel⟩
theorem go8_50 : Good 8 [1, 3, 6, 7] [0, 2, 4, 5] true := ⟨by intro L R; kernel_rfl, by intro R; kernel_rfl, by decide +kernel⟩
theorem go8_51 : Good 8 [1, 4, 5, 6] [0, 2, 3, 7] false := ⟨by intro L R; kernel_rfl, by intro R; kernel_rfl, by decide +kernel⟩
theorem go8_52 : Good 8 [1, 4, 5, 7] [0, 2, 3, 6] true := ⟨by intro L R; kernel_rfl, by intro R; kernel_rfl, by decide +kernel⟩
theorem go8_53 : Good 8 [1, 4, 6, 7] [0, 2, 3, 5] true := ⟨by intro L R; kernel_rfl, by intro R; kernel_rfl, by decide +kernel⟩
theorem go8_54 : Good 8 [1, 5, 6, 7] [0, 2, 3, 4] true := ⟨by intro L R; kernel_rfl, by intro R; kernel_rfl, by decide +kernel⟩
theorem go8_55 : Good 8 [2, 3, 4, 5] [0, 1, 6, 7] true := ⟨by intro L R; kernel_rfl, by intro R; kernel_rfl, by decide +kernel⟩
theorem go8_56 : Good 8 [2, 3, 4, 6] [0, 1, 5, 7] true := ⟨by intro L R; kernel_rfl, by intro R; kernel_rfl, by decide +kernel⟩
theorem go8_57 : Good 8 [2, 3, 4, 7] [0, 1, 5, 6] false := ⟨by intro L R; kernel_rfl, by intro R; kernel_rfl, by decide +kernel⟩
theorem go8_58 : Good 8 [2, 3, 5, 6] [0, 1, 4, 7] false := ⟨by intro L R; kernel_rfl, by intro R; kernel_rfl, by decide +kernel⟩
theorem go8_59 : Good 8 [2, 3, 5, 7] [0, 1, 4, 6] true := ⟨by intro L R; kernel_rfl, by intro R; kernel_rfl, by decide +kernel⟩
theorem go8_60 : Good 8 [2, 3, 6, 7] [0, 1, 4, 5] true := ⟨by intro L R; kernel_rfl, by intro R; kernel_rfl, by decide +kernel⟩
theorem go8_61 : Good 8 [2, 4, 5, 6] [0, 1, 3, 7] true := ⟨by intro L R; kernel_rfl, by intro R; kernel_rfl, by decide +kernel⟩
theorem go8_62 : Good 8 [2, 4, 5, 7] [0, 1, 3, 6] true := ⟨by intro L R; kernel_rfl, by intro R; kernel_rfl, by decide +kernel⟩
theorem go8_63 : Good 8 [2, 4, 6, 7] [0, 1, 3, 5] true := ⟨by intro L R; kernel_rfl, by intro R; kernel_rfl, by decide +kernel⟩
theorem go8_64 : Good 8 [2, 5, 6, 7] [0, 1, 3, 4] false := ⟨by intro L R; kernel_rfl, by intro R; kernel_rfl, by decide +kernel⟩
theorem go8_65 : Good 8 [3, 4, 5, 6] [0, 1, 2, 7] true := ⟨by intro L R; kernel_rfl, by intro R; kernel_rfl, by decide +kernel⟩
theorem go8_66 : Good 8 [3, 4, 5, 7] [0, 1, 2, 6] true := ⟨by intro L R; kernel_rfl, by intro R; kernel_rfl, by decide +kernel⟩
theorem go8_67 : Good 8 [3, 4, 6, 7] [0, 1, 2, 5] false := ⟨by intro L R; kernel_rfl, by intro R; kernel_rfl, by decide +kernel⟩
theorem go8_68 : Good 8 [3, 5, 6, 7] [0, 1, 2, 4] true := ⟨by intro L R; kernel_rfl, by intro R; kernel_rfl, by decide +kernel⟩
theorem go8_69 : Good 8 [4, 5, 6, 7] [0, 1, 2, 3] true := ⟨by intro L R; kernel_rfl, by intro R; kernel_rfl, by decide +kernel⟩

/-! ### the drawn row -/
def gA (a : List Int) (i : Int) : Int := a.getD i.toNat 0
theorem getL_iL {a : List Int} {i : Int} (h0 : 0 ≤ i) (h1 : i < a.length) : getL (iL a) i = some (.int (gA a i)) := by
  obtain ⟨n, rfl⟩ : ∃ n : Nat, i = n := ⟨i.toNat, by omega⟩
  have hn : n < a.length := by omega
  have hn' : n < (iL a).length := by unfold iL; rw [List.length_map]; exact hn
  unfold getL
  have e : ixD (iL a).length (n : Int) = some n := by
    show ixD (iL a).length (Int.ofNat n) = some n
    unfold ixD
    simp [hn']
  rw [e]
  simp only
  rw [at?_eq]
  unfold iL gA
  rw [List.getElem?_map, List.getElem?_eq_getElem hn]
  simp [hn]
theorem mSeq_nx {f g : SM} {ρ ρ' : En} {hs hs' : Hs} (h : f ρ hs = some (.nx ρ' hs')) : mSeq f g ρ hs = g ρ' hs' := by
  unfold mSeq
  rw [h]
theorem mSet_of {i : Nat} {f : EM} {ρ : En} {hs hs' : Hs} {d : D} (h : f ρ hs = some (d, hs')) : mSet i f ρ hs = some (.nx (put ρ i (some d)) hs') := by
  unfold mSet
  rw [h]
theorem forGo_nx {g : GM} {b : SM} {d : D} {ds : List D} {ρ ρ' ρ2 : En} {hs hs2 : Hs} (e1 : g d ρ = some ρ') (e2 : b ρ' hs = some (.nx ρ2 hs2)) : forGo g b (d :: ds) ρ hs = forGo g b ds ρ2 hs2 := by
  rw [forGo, e1]
  simp only
  rw [e2]
def bp : SM := (mDrop (mApp (mVar 4) (mPop (mVar 3) (mBin modD (mBin ixF (mVar 1) (mBin addD (mC (.int 1)) (mVar 5))) (mCall lenL (mCons (mVar 3) mNil))))))
def rho2 (m : Int) (k : Option D) : En := [none, some (.ref 0), some (.int m), some (.ref 1), some (.ref 2), k, none, none, none, none, none, none, none, none, none, none, none, none]
theorem perm_erase : ∀ {l : List Int} {j : Nat} (h : j < l.length), (l[j] :: l.eraseIdx j).Perm l
  | x :: r, 0, h => by simp
  | x :: r, j + 1, h => by
    simp only [List.getElem_cons_succ, List.eraseIdx_cons_succ]
    exact (List.Perm.swap _ _ _).trans (List.Perm.cons x (perm_erase (by simpa using h)))
theorem erase_map : ∀ (l : List Int) (j : Nat), (l.map D.int).eraseIdx j = (l.eraseIdx j).map D.int
  | [], _ => rfl
  | _ :: _, 0 => rfl
  | x :: r, j + 1 => by
    show D.int x :: (r.map D.int).eraseIdx j = D.int x :: (r.eraseIdx j).map D.int
    rw [erase_map r j]
theorem bp_ok {m : Int} {a lf rw_ : List Int} {k : Int} (ha : a.length = 20) (h0 : 0 ≤ k) (h1 : k < 19) (hl : lf ≠ []) (hl2 : lf.length < 100) (hr2 : rw_.length < 100) :
    ∃ (j : Nat) (h : j < lf.length), bp (rho2 m (some (.int k))) [.lst (iL a), .lst (iL lf), .lst (iL rw_)] = some (.nx (rho2 m (some (.int k))) [.lst (iL a), .lst (iL (lf.eraseIdx j)), .lst (iL (rw_ ++ [lf[j]]))]) := by
  have hp : 0 < lf.length := List.length_pos_iff.mpr hl
  generalize hH : [O.lst (iL a), .lst (iL lf), .lst (iL rw_)] = hs
  have e1 : mBin ixF (mVar 1) (mBin addD (mC (.int 1)) (mVar 5)) (rho2 m (some (.int k))) hs = some (.int (gA a (1 + k)), hs) := by
    subst hH
    show (match getL (iL a) (1 + k) with
      | some x => some (x, [O.lst (iL a), .lst (iL lf), .lst (iL rw_)])
      | none => none) = _
    rw [getL_iL (by omega) (by omega)]
  have e2 : mCall lenL (mCons (mVar 3) mNil) (rho2 m (some (.int k))) hs = some (.int lf.length, hs) := by
    subst hH
    show some (D.int ((lf.map D.int).length : Nat), _) = _
    rw [List.length_map]
  obtain ⟨j, hj⟩ : ∃ j : Nat, gA a (1 + k) % (lf.length : Int) = Int.ofNat j := ⟨(gA a (1 + k) % (lf.length : Int)).toNat, (Int.toNat_of_nonneg (Int.emod_nonneg _ (by omega))).symm⟩
  have hjl : j < lf.length := by
    have := Int.emod_lt_of_pos (gA a (1 + k)) (show (0 : Int) < lf.length by omega)
    rw [hj] at this
    exact Int.ofNat_lt.mp this
  have e3 : mBin modD (mBin ixF (mVar 1) (mBin addD (mC (.int 1)) (mVar 5))) (mCall lenL (mCons (mVar 3) mNil)) (rho2 m (some (.int k))) hs = some (.int (.ofNat j), hs) := by
    rw [mBin_of e1 e2, modD_pos (by omega), hj]
  refine ⟨j, hjl, ?_⟩
  have e4 : mPop (mVar 3) (mBin modD (mBin ixF (mVar 1) (mBin addD (mC (.int 1)) (mVar 5))) (mCall lenL (mCons (mVar 3) mNil))) (rho2 m (some (.int k))) hs = some (.int lf[j], [.lst (iL a), .lst (iL (lf.eraseIdx j)), .lst (iL rw_)]) := by
    unfold mPop
    rw [show mVar 3 (rho2 m (some (.int k))) hs = some (.ref 1, hs) from rfl]
    simp only
    rw [show at? hs 1 = some (.lst (iL lf)) from by subst hH; rfl]
    simp only
    rw [e3]
    simp only
    rw [show at? hs 1 = some (.lst (iL lf)) from by subst hH; rfl]
    simp only
    rw [show Nat.blt j 1000 = true from Nat.ble_eq_true_of_le (by omega)]
    rw [show at? (iL lf) j = some (.int lf[j]) from by
      rw [at?_eq]
      unfold iL
      rw [List.getElem?_map, List.getElem?_eq_getElem hjl]
      rfl]
    simp only
    rw [show (iL lf).eraseIdx j = iL (lf.eraseIdx j) from erase_map lf j]
    subst hH
    rfl
  unfold bp mDrop mApp
  rw [show mVar 4 (rho2 m (some (.int k))) hs = some (.ref 2, hs) from rfl]
  simp only
  rw [show at? hs 2 = some (.lst (iL rw_)) from by subst hH; rfl]
  simp only
  rw [e4]
  simp only
  rw [show at? [O.lst (iL a), .lst (iL (lf.eraseIdx j)), .lst (iL rw_)] 2 = some (.lst (iL rw_)) from rfl]
  simp only
  rw [show cap ((iL rw_).length + 1) = true from by unfold iL; rw [List.length_map]; exact Nat.ble_eq_true_of_le (by omega)]
  simp only
  rw [show iL rw_ ++ [.int lf[j]] = iL (rw_ ++ [lf[j]]) from by unfold iL; rw [List.map_append]; rfl]
  rfl
theorem loop_p {m : Int} {a : List Int} (ha : a.length = 20) : ∀ (n : Nat) (k : Int) (lf rw_ : List Int) (u : Option D), 0 ≤ k → k + n ≤ 10 → lf.length = n → rw_.length + n ≤ 10 →
    ∃ (v : Option D) (r : List Int), r.Perm (rw_ ++ lf) ∧ forGo (setN 5) bp (rngL k n) (rho2 m u) [.lst (iL a), .lst (iL lf), .lst (iL rw_)] = some (.nx (rho2 m v) [.lst (iL a), .lst (iL []), .lst (iL r)])
  | 0, k, lf, rw_, u, h0, h1, h2, h3 => by
    have : lf = [] := List.length_eq_zero_iff.mp h2
    subst this
    exact ⟨u, rw_, by simp, rfl⟩
  | n + 1, k, lf, rw_, u, h0, h1, h2, h3 => by
    obtain ⟨j, hj, e⟩ := bp_ok (m := m) (a := a) (lf := lf) (rw_ := rw_) (k := k) ha h0 (by omega) (fun z => by rw [z] at h2; simp at h2) (by omega) (by omega)
    obtain ⟨v, r, p, e2⟩ := loop_p (m := m) ha n (k + 1) (lf.eraseIdx j) (rw_ ++ [lf[j]]) (some (.int k)) (by omega) (by omega) (by rw [List.length_eraseIdx]; split <;> omega) (by simp; omega)
    refine ⟨v, r, p.trans ?_, ?_⟩
    · rw [List.append_assoc]
      exact List.Perm.append_left _ (perm_erase hj)
    · show forGo (setN 5) bp (.int k :: rngL (k + 1) n) (rho2 m u) _ = _
      rw [forGo_nx (show setN 5 (.int k) (rho2 m u) = some (rho2 m (some (.int k))) from rfl) e, e2]
def ixs (n : Nat) : List Int := (List.range n).map fun (k : Nat) => (k : Int)
def rho1 (m : Int) : En := [none, some (.ref 0), some (.int m), none, none, none, none, none, none, none, none, none, none, none, none, none, none, none]
def rho3 (m : Int) (R : D) : En := [none, some (.ref 0), some (.int m), none, some R, none, none, none, none, none, none, none, none, none, none, none, none, none]
theorem q2 {n : Nat} {a : List Int} (ha : a.length = 20) (hn : n = 2 ∨ n = 4 ∨ n = 6 ∨ n = 8) : ∃ (v : Option D) (r : List Int), r.Perm (ixs n) ∧ m2_law (rho1 n) [.lst (iL a)] = some (.nx (rho2 n v) [.lst (iL a), .lst (iL []), .lst (iL r)]) := by
  obtain ⟨v, r, p, e⟩ := loop_p (m := n) ha n 0 (ixs n) [] none (by omega) (by omega) (by unfold ixs; simp) (by simp; omega)
  refine ⟨v, r, by simpa using p, ?_⟩
  have s1 : mSeq (mSet 3 (mQ (mLstRg (mRg1 (mVar 2))))) (mSeq (mSet 4 (mLst mNil)) (mFor (mRng1 (mCons (mVar 2) mNil)) (setN 5) bp)) (rho1 n) [.lst (iL a)] = forGo (setN 5) bp (rngL 0 n) (rho2 n none) [.lst (iL a), .lst (iL (ixs n)), .lst (iL [])] := by
    rcases hn with rfl | rfl | rfl | rfl <;> rfl
  show mSeq (mSet 3 (mQ (mLstRg (mRg1 (mVar 2))))) (mSeq (mSet 4 (mLst mNil)) (mFor (mRng1 (mCons (mVar 2) mNil)) (setN 5) bp)) (rho1 n) [.lst (iL a)] = _
  rw [s1, e]
theorem q3 {n : Nat} {a r : List Int} {v : Option D} : keepR [1, 2, 4] (m3_law (rho2 n v) [.lst (iL a), .lst (iL []), .lst (iL r)]) = some (.nx (rho3 n (tI r)) [.lst (iL a), .lst (iL []), .lst (iL r)]) := rfl

/-! ### halves -/
def inI (x : Int) (ys : List Int) : Bool := ys.any fun y => decide (y = x)
theorem inI_iff {x : Int} {ys : List Int} : inI x ys = true ↔ x ∈ ys := by
  unfold inI
  rw [List.any_eq_true]
  constructor
  · rintro ⟨y, hy, e⟩
    rw [decide_eq_true_eq] at e
    exact e ▸ hy
  · intro h
    exact ⟨x, h, decide_eq_true rfl⟩
def compl (m : Nat) (S : List Int) : List Int := (ixs m).filter fun x => !inI x S
def subsL : Nat → List Int → List (List Int)
  | 0, _ => [[]]
  | _ + 1, [] => []
  | k + 1, x :: r => (subsL k r).map (x :: ·) ++ subsL (k + 1) r
theorem subsL_mem : ∀ {l S : List Int}, S.Sublist l → S ∈ subsL S.length l
  | _, _, .slnil => by simp [subsL]
  | y :: l, S, .cons _ h => by
    have ih := subsL_mem h
    match S with
    | [] => simp [subsL]
    | x :: t =>
      simp only [List.length_cons, subsL, List.mem_append]
      exact Or.inr ih
  | y :: l, _ :: S, .cons₂ _ h => by
    have ih := subsL_mem h
    simp only [List.length_cons, subsL, List.mem_append, List.mem_map]
    exact Or.inl ⟨S, ih, rfl⟩
theorem asc_sub : ∀ {l2 l1 : List Int}, l1.Pairwise (· < ·) → l2.Pairwise (· < ·) → (∀ x ∈ l1, x ∈ l2) → l1.Sublist l2
  | [], [], _, _, _ => .slnil
  | [], x :: t, _, _, h => absurd (h x List.mem_cons_self) (by simp)
  | y :: r, [], _, _, _ => List.nil_sublist _
  | y :: r, x :: t, h1, h2, h => by
    obtain ⟨a1, a2⟩ := List.pairwise_cons.mp h1
    obtain ⟨b1, b2⟩ := List.pairwise_cons.mp h2
    by_cases z : x = y
    · subst z
      refine .cons₂ _ (asc_sub a2 b2 fun w hw => ?_)
      rcases List.mem_cons.mp (h w (List.mem_cons_of_mem _ hw)) with e | e
      · have := a1 w hw; omega
      · exact e
    · have hx : x ∈ r := by
        rcases List.mem_cons.mp (h x List.mem_cons_self) with e | e
        · exact absurd e z
        · exact e
      have := b1 x hx
      refine .cons _ (asc_sub h1 b2 fun w hw => ?_)
      rcases List.mem_cons.mp (h w hw) with e | e
      · rcases List.mem_cons.mp hw with e2 | e2
        · omega
        · have := a1 w e2; omega
      · exact e
theorem asc_ext {l1 l2 : List Int} (h1 : l1.Pairwise (· < ·)) (h2 : l2.Pairwise (· < ·)) (h : ∀ x, x ∈ l1 ↔ x ∈ l2) : l1 = l2 :=
  (asc_sub h1 h2 fun x hx => (h x).mp hx).eq_of_length_le (asc_sub h2 h1 fun x hx => (h x).mpr hx).length_le
theorem srt_lt {l : List Int} (h : l.Nodup) : (srtM l).Pairwise (· < ·) := by
  have nd : (srtM l).Nodup := (srtM_perm l).nodup_iff.mpr h
  have a := srtM_asc l
  exact (List.Pairwise.and a nd).imp fun ⟨x, y⟩ => by omega
theorem ixs_asc (n : Nat) : (ixs n).Pairwise (· < ·) := by
  unfold ixs
  rw [List.pairwise_map]
  exact List.pairwise_lt_range.imp fun h => by omega
theorem mem_ixs {n : Nat} {x : Int} : x ∈ ixs n ↔ 0 ≤ x ∧ x < n := by
  unfold ixs
  rw [List.mem_map]
  constructor
  · rintro ⟨k, hk, rfl⟩
    have := List.mem_range.mp hk
    omega
  · rintro ⟨a, b⟩
    exact ⟨x.toNat, List.mem_range.mpr (by omega), by omega⟩
theorem perm_nd {n : Nat} {r : List Int} (p : r.Perm (ixs n)) : r.Nodup := p.nodup_iff.mpr ((ixs_asc n).imp fun h => by omega)
theorem halves_in {n h : Nat} {r : List Int} (p : r.Perm (ixs n)) (hh : h ≤ n) : srtM (r.take h) ∈ subsL h (ixs n) ∧ srtM (r.drop h) = compl n (srtM (r.take h)) := by
  have nd := perm_nd p
  have nd2 : (r.take h ++ r.drop h).Nodup := by rw [List.take_append_drop]; exact nd
  obtain ⟨n1, n2, n3⟩ := List.nodup_append.mp nd2
  have lr : r.length = n := by rw [p.length_eq]; unfold ixs; simp
  have a1 := srt_lt n1
  have a2 := srt_lt n2
  have m1 : ∀ x, x ∈ srtM (r.take h) ↔ x ∈ r.take h := fun x => (srtM_perm _).mem_iff
  have m2 : ∀ x, x ∈ srtM (r.drop h) ↔ x ∈ r.drop h := fun x => (srtM_perm _).mem_iff
  constructor
  · have := subsL_mem (asc_sub a1 (ixs_asc n) fun x hx => p.mem_iff.mp (List.mem_of_mem_take ((m1 x).mp hx)))
    rw [(srtM_perm _).length_eq, List.length_take, lr, Nat.min_eq_left hh] at this
    exact this
  · refine asc_ext a2 (List.Pairwise.filter _ (ixs_asc n)) fun x => ?_
    unfold compl
    rw [m2, List.mem_filter, ← p.mem_iff]
    constructor
    · intro hx
      refine ⟨List.mem_of_mem_drop hx, ?_⟩
      cases e : inI x (srtM (r.take h)) with
      | false => rfl
      | true => exact absurd rfl (n3 x ((m1 x).mp (inI_iff.mp e)) x hx)
    · rintro ⟨hx, e⟩
      rw [← List.take_append_drop h r, List.mem_append] at hx
      rcases hx with hx | hx
      · rw [inI_iff.mpr ((m1 x).mpr hx)] at e
        cases e
      · exact hx
theorem srt_perm {a b : List Int} (p : a.Perm b) : srtM a = srtM b := asc_perm_eq (((srtM_perm a).trans p).trans (srtM_perm b).symm) (srtM_asc a) (srtM_asc b)
theorem srt_ixs {n : Nat} {r : List Int} (p : r.Perm (ixs n)) : srtM r = ixs n := asc_perm_eq ((srtM_perm r).trans p) (srtM_asc r) ((ixs_asc n).imp fun h => by omega)

/-! ### the functions on rows -/
theorem intsOf_map : ∀ xs : List Int, intsOf (xs.map D.int) = some xs
  | [] => rfl
  | x :: r => by
    show (match intsOf (r.map D.int) with
      | some ns => some (x :: ns)
      | none => none) = _
    rw [intsOf_map r]
theorem sortT_tI (xs : List Int) (hs : Hs) : sortT [tI xs] hs = some (.ref hs.length, hs ++ [.lst ((srtM xs).map D.int)]) := by
  show (match intsOf (xs.map D.int) with
    | some ns => some (D.ref hs.length, hs ++ [O.lst ((srtM ns).map D.int)])
    | none => none) = _
  rw [intsOf_map]
theorem mIfS_f {c : BM} {f g : SM} {ρ : En} {hs hs' : Hs} (h : c ρ hs = some (false, hs')) : mIfS c f g ρ hs = g ρ hs' := by
  unfold mIfS
  rw [h]
theorem mTru_of {f : EM} {ρ : En} {hs hs1 : Hs} {b : Bool} (h : f ρ hs = some (.bl b, hs1)) : mTru f ρ hs = some (b, hs1) := by
  unfold mTru
  rw [h]
  rfl
theorem mNotB_of {f : BM} {ρ : En} {hs hs1 : Hs} {b : Bool} (h : f ρ hs = some (b, hs1)) : mNotB f ρ hs = some (!b, hs1) := by
  unfold mNotB
  rw [h]
theorem mOrB_f {f g : BM} {ρ : En} {hs hs1 : Hs} (h : f ρ hs = some (false, hs1)) : mOrB f g ρ hs = g ρ hs1 := by
  unfold mOrB
  rw [h]
theorem agGo_all {stop : Bool} {g : GM} {c : BM} {f : EM} {ρ : En} {hs : Hs} : ∀ ds : List D, (∀ d ∈ ds, ∃ ρ' h1 h2, g d ρ = some ρ' ∧ c ρ' hs = some (true, h1) ∧ f ρ' h1 = some (.bl (!stop), h2)) → agGo stop g c f ρ hs ds = some (!stop)
  | [], _ => rfl
  | d :: ds, h => by
    obtain ⟨ρ', h1, h2, e1, e2, e3⟩ := h d List.mem_cons_self
    unfold agGo
    rw [e1]
    simp only
    rw [e2]
    simp only
    rw [e3]
    cases stop <;> exact agGo_all ds fun x hx => h x (List.mem_cons_of_mem _ hx)
theorem mAg_all {stop : Bool} {s : IM} {g : GM} {c : BM} {f : EM} {vs : List Nat} {ρ : En} {hs hs1 : Hs} {ds : List D} (e : s ρ hs = some (ds, hs1)) (h : ∀ d ∈ ds, ∃ ρ' h1 h2, g d (wipeE ρ vs) = some ρ' ∧ c ρ' hs1 = some (true, h1) ∧ f ρ' h1 = some (.bl (!stop), h2)) : mAg stop s g c f vs ρ hs = some (.bl (!stop), hs1) := by
  unfold mAg
  rw [e]
  simp only
  rw [agGo_all ds h]
theorem eqL_ints (a b : List Int) : Mir.eqL (deq 12) (a.map D.int) (b.map D.int) = eqLI a b := by
  induction a generalizing b with
  | nil => cases b <;> rfl
  | cons x a ih =>
    cases b with
    | nil => rfl
    | cons y b =>
      simp only [List.map_cons, Mir.eqL, deq, eqLI]
      cases e : intEq x y with
      | true => exact ih b
      | false => rfl
def ev (n : Nat) : Prop := n = 2 ∨ n = 4 ∨ n = 6 ∨ n = 8
theorem rg_ixs {n : Nat} (hn : ev n) : rngL 0 n = (ixs n).map D.int := by
  rcases hn with rfl | rfl | rfl | rfl <;> rfl
theorem cr_n {n : Nat} (hn : ev n) : F_check_round [.int n] [] = some (.non, []) := by
  rcases hn with rfl | rfl | rfl | rfl <;> kernel_rfl
theorem e1_ok (l : List Int) : allL (shal 12) [tI l] = true := by
  show (match shal 12 (tI l) with
    | true => true
    | false => false) = true
  rw [shal_tI l 11]
theorem len_n {n : Nat} {r : List Int} (p : r.Perm (ixs n)) : r.length = n := by rw [p.length_eq]; unfold ixs; simp
theorem row_ok {n : Nat} {r : List Int} (hn : ev n) (p : r.Perm (ixs n)) : F_check_row [tI r] [] = some (.non, []) := by
  have lr := len_n p
  have lv : ∀ hs, mCall lenL (mCons (mVar 0) mNil) [some (tI r), none] hs = some (.int n, hs) := fun hs => by
    show some (D.int ((r.map D.int).length : Nat), hs) = _
    rw [List.length_map, lr]
  have s1 : mOrB (mNotB (mTru (mUn (isiF isTup) (mVar 0)))) (mNotB (mTru (mAg false (mSeqW (mVar 0)) (setN 1) mYes (mCall F_is_number (mCons (mVar 1) mNil)) [1]))) [some (tI r), none] [] = some (false, []) := by
    rw [mOrB_f (show mNotB (mTru (mUn (isiF isTup) (mVar 0))) _ _ = some (false, []) from rfl)]
    refine mNotB_of (b := true) (mTru_of (mAg_all (stop := false) (ds := r.map D.int) rfl fun d hd => ?_))
    obtain ⟨z, _, rfl⟩ := List.mem_map.mp hd
    exact ⟨_, _, _, rfl, rfl, rfl⟩
  have s2 : mDrop (mCall F_check_round (mCons (mCall lenL (mCons (mVar 0) mNil)) mNil)) [some (tI r), none] [] = some (.nx [some (tI r), none] []) := by
    unfold mDrop
    rw [mCall_of (mCons_of (lv []) (show mNil [some (tI r), none] [] = some ([], []) from rfl)), cr_n hn]
  have s3 : mQB (mTest (mBin (notF eqD) (mCall sortT (mCons (mVar 0) mNil)) (mLstRg (mRg1 (mCall lenL (mCons (mVar 0) mNil)))))) [some (tI r), none] [] = some (false, []) := by
    have c1 : mCall sortT (mCons (mVar 0) mNil) [some (tI r), none] [] = some (.ref 0, [.lst ((ixs n).map D.int)]) := by
      rw [mCall_of (show mCons (mVar 0) mNil [some (tI r), none] [] = some ([tI r], []) from rfl), sortT_tI, srt_ixs p]
      rfl
    have c2 : mLstRg (mRg1 (mCall lenL (mCons (mVar 0) mNil))) [some (tI r), none] [.lst ((ixs n).map D.int)] = some (.ref 1, [.lst ((ixs n).map D.int), .lst ((ixs n).map D.int)]) := by
      unfold mLstRg mRg1
      rw [lv]
      rcases hn with rfl | rfl | rfl | rfl <;> rfl
    unfold mQB mTest
    rw [mBin_of c1 c2]
    have : notF eqD (.ref 0) (.ref 1) [.lst ((ixs n).map D.int), .lst ((ixs n).map D.int)] = some (.bl false, [.lst ((ixs n).map D.int), .lst ((ixs n).map D.int)]) := by
      show (match (match allL (shal 12) ((ixs n).map D.int), allL (shal 12) ((ixs n).map D.int) with
        | true, true => some (D.bl (Mir.eqL (deq 12) ((ixs n).map D.int) ((ixs n).map D.int)), [O.lst ((ixs n).map D.int), .lst ((ixs n).map D.int)])
        | _, _ => none) with
        | some (.bl b, hs') => some (D.bl (!b), hs')
        | _ => none) = _
      rw [shal_ints, eqL_ints, eqLI_refl]
      rfl
    rw [this]
  have b1 : mBody m_check_row 1 [tI r] [] = some (.non, []) := by
    have e : m_check_row [some (tI r), none] [] = some (.nx [some (tI r), none] []) := by
      unfold m_check_row
      rw [mSeq_nx ((mIfS_f s1).trans (show mNext _ _ = _ from rfl)), mSeq_nx s2]
      exact (mIfS_f s3).trans rfl
    show (match m_check_row [some (tI r), none] [] with
      | some (.nx _ hs') => some (D.non, hs')
      | some (.ret d hs') => some (d, hs')
      | _ => none) = _
    rw [e]
  unfold F_check_row FP
  rw [e1_ok]
  simp only
  rw [b1]
  rfl
theorem back_ok {n : Nat} {r : List Int} (hn : ev n) (p : r.Perm (ixs n)) : F_backwards [tI r] [] = some (tI r.reverse, []) := by
  have b1 : mBody m_backwards 0 [tI r] [] = some (tI r.reverse, []) := by
    have s1 : mDrop (mCall F_check_row (mCons (mVar 0) mNil)) [some (tI r)] [] = some (.nx [some (tI r)] []) := by
      unfold mDrop
      rw [mCall_of (show mCons (mVar 0) mNil [some (tI r)] [] = some ([tI r], []) from rfl), row_ok hn p]
    have e : m_backwards [some (tI r)] [] = some (.ret (tI r.reverse) []) := by
      unfold m_backwards
      rw [mSeq_nx s1]
      show some (Rs.ret (.tup (r.map D.int).reverse) []) = _
      rw [← List.map_reverse]
      rfl
    show (match m_backwards [some (tI r)] [] with
      | some (.nx _ hs') => some (D.non, hs')
      | some (.ret d hs') => some (d, hs')
      | _ => none) = _
    rw [e]
  unfold F_backwards FP
  rw [e1_ok]
  simp only
  rw [b1]
  simp only
  rw [shal_tI _ 11]
theorem moved_ok {n : Nat} {r : List Int} {s : Int} (hn : ev n) (p : r.Perm (ixs n)) : F_moved_row [tI r, .int s] [] = some (tI (r.map fun x => (x + s) % (n : Int)), []) := by
  have lr := len_n p
  have n0 : (0 : Int) < n := by rcases hn with rfl | rfl | rfl | rfl <;> omega
  have nl : n < 10 := by rcases hn with rfl | rfl | rfl | rfl <;> omega
  have b1 : mBody m_moved_row 1 [tI r, .int s] [] = some (tI (r.map fun x => (x + s) % (n : Int)), []) := by
    have s1 : mDrop (mCall F_check_row (mCons (mVar 0) mNil)) [some (tI r), some (.int s), none] [] = some (.nx [some (tI r), some (.int s), none] []) := by
      unfold mDrop
      rw [mCall_of (show mCons (mVar 0) mNil [some (tI r), some (.int s), none] [] = some ([tI r], []) from rfl), row_ok hn p]
    have s2 := mTupLc (s := mSeqW (mVar 0)) (g := setN 2) (f := mBin modD (mBin addD (mVar 2) (mVar 1)) (mCall lenL (mCons (mVar 0) mNil))) (vs := [2]) (ρ := [some (tI r), some (.int s), none]) (hs := []) (xs := r) (φ := fun x => (x + s) % (n : Int)) rfl (by omega) fun x hx => ⟨_, rfl, by
      have lv : mCall lenL (mCons (mVar 0) mNil) (put (wipeE [some (tI r), some (.int s), none] [2]) 2 (some (.int x))) [] = some (.int n, []) := by
        show some (D.int ((r.map D.int).length : Nat), ([] : Hs)) = _
        rw [List.length_map, lr]
      exact (mBin_of (show mBin addD (mVar 2) (mVar 1) (put (wipeE [some (tI r), some (.int s), none] [2]) 2 (some (.int x))) [] = some (.int (x + s), []) from rfl) lv).trans (modD_pos n0)⟩
    have e : m_moved_row [some (tI r), some (.int s), none] [] = some (.ret (tI (r.map fun x => (x + s) % (n : Int))) []) := by
      unfold m_moved_row
      rw [mSeq_nx s1]
      unfold mRet
      rw [s2]
    show (match m_moved_row [some (tI r), some (.int s), none] [] with
      | some (.nx _ hs') => some (D.non, hs')
      | some (.ret d hs') => some (d, hs')
      | _ => none) = _
    rw [e]
  have e0 : allL (shal 12) [tI r, .int s] = true := by
    show (match shal 12 (tI r) with
      | true => true
      | false => false) = true
    rw [shal_tI r 11]
  unfold F_moved_row FP
  rw [e0]
  simp only
  rw [b1]
  simp only
  rw [shal_tI _ 11]

theorem mLc_two {s : IM} {g : GM} {f : EM} {vs : List Nat} {ρ ρ1 ρ2 : En} {hs : Hs} {d1 d2 x1 x2 : D} (hi : s ρ hs = some ([d1, d2], hs)) (g1 : g d1 (wipeE ρ vs) = some ρ1) (g2 : g d2 (wipeE ρ vs) = some ρ2) (f1 : f ρ1 hs = some (x1, hs)) (f2 : f ρ2 hs = some (x2, hs)) :
    mLc s g mYes f vs ρ hs = some (.ref hs.length, hs ++ [.lst [x1, x2]]) := by
  unfold mLc
  rw [hi]
  simp only
  rw [if_pos (show cap ([d1, d2].length + 1) = true from rfl)]
  rw [lcGo, g1]
  simp only [mYes]
  rw [f1]
  simp only
  rw [lcGo, g2]
  simp only [mYes]
  rw [f2]
  rfl
theorem srt_sl {f : EM} {ρ : En} {hs : Hs} {xs : List Int} (h : f ρ hs = some (tI xs, hs)) : mQ (mCall tupL (mCons (mCall sortT (mCons f mNil)) mNil)) ρ hs = some (tI (srtM xs), hs) := by
  have c1 : mCall sortT (mCons f mNil) ρ hs = some (.ref hs.length, hs ++ [.lst ((srtM xs).map D.int)]) := by
    rw [mCall_of (mCons_of h (show mNil ρ hs = some ([], hs) from rfl)), sortT_tI]
  have c2 : mCall tupL (mCons (mCall sortT (mCons f mNil)) mNil) ρ hs = some (tI (srtM xs), hs ++ [.lst ((srtM xs).map D.int)]) := by
    rw [mCall_of (mCons_of c1 (show mNil ρ (hs ++ [.lst ((srtM xs).map D.int)]) = some ([], _) from rfl))]
    unfold tupL
    simp only
    rw [at?_last]
    rfl
  unfold mQ
  rw [c2]
  simp only
  rw [shal_tI _ 11]
def hv (n : Nat) : Nat := n / 2
theorem parts_of {n h : Nat} {r a b : List Int} (hn : ev n) (p : r.Perm (ixs n)) (h0 : 1 ≤ h) (h4 : h ≤ 4) (e : n = h + h)
    (k1 : mSl slF (mVar 0) (mPart (mVar 2)) (mPart (mBin addD (mVar 2) (mVar 1))) [some (tI r), some (.int h), some (.int 0)] [] = some (tI a, []))
    (k2 : mSl slF (mVar 0) (mPart (mVar 2)) (mPart (mBin addD (mVar 2) (mVar 1))) [some (tI r), some (.int h), some (.int h)] [] = some (tI b, [])) : F_parts_of [tI r, .int h] [] = some (.tup [tI (srtM a), tI (srtM b)], []) := by
  have lr := len_n p
  have s1 : mDrop (mCall F_check_row (mCons (mVar 0) mNil)) [some (tI r), some (.int h), none] [] = some (.nx [some (tI r), some (.int h), none] []) := by
    unfold mDrop
    rw [mCall_of (show mCons (mVar 0) mNil [some (tI r), some (.int h), none] [] = some ([tI r], []) from rfl), row_ok hn p]
  have lv : mCall lenL (mCons (mVar 0) mNil) [some (tI r), some (.int h), none] [] = some (.int n, []) := by
    show some (D.int ((r.map D.int).length : Nat), ([] : Hs)) = _
    rw [List.length_map, lr]
  have s2 : mOrB (mNotB (mTru (mCall F_is_number (mCons (mVar 1) mNil)))) (mOrB (mTest (mBin ltD (mVar 1) (mC (.int 1)))) (mTest (mBin (notF eqD) (mBin modD (mCall lenL (mCons (mVar 0) mNil)) (mVar 1)) (mC (.int 0))))) [some (tI r), some (.int h), none] [] = some (false, []) := by
    rw [mOrB_f (show mNotB (mTru (mCall F_is_number (mCons (mVar 1) mNil))) [some (tI r), some (.int h), none] [] = some (false, []) from rfl)]
    rw [mOrB_f (show mTest (mBin ltD (mVar 1) (mC (.int 1))) [some (tI r), some (.int h), none] [] = some (false, []) from mTest_of (by
      show some (D.bl (decide ((h : Int) < 1)), ([] : Hs)) = _
      rw [decide_eq_false (by omega)]))]
    refine mTest_of ?_
    have c1 : mBin modD (mCall lenL (mCons (mVar 0) mNil)) (mVar 1) [some (tI r), some (.int h), none] [] = some (.int 0, []) := by
      rw [mBin_of lv (show mVar 1 [some (tI r), some (.int h), none] [] = some (.int h, []) from rfl), modD_pos (by omega)]
      have : (n : Int) % (h : Int) = 0 := by
        subst e
        rw [show ((h + h : Nat) : Int) = (h : Int) * 2 from by omega]
        exact Int.mul_emod_right _ _
      rw [this]
    rw [mBin_of c1 (show mC (.int 0) [some (tI r), some (.int h), none] [] = some (.int 0, []) from rfl)]
    rfl
  have s3 : mRng3 (mCons (mC (.int 0)) (mCons (mCall lenL (mCons (mVar 0) mNil)) (mCons (mVar 1) mNil))) [some (tI r), some (.int h), none] [] = some ([.int 0, .int h], []) := by
    unfold mRng3
    rw [mCons_of (show mC (.int 0) [some (tI r), some (.int h), none] [] = some (.int 0, []) from rfl) (mCons_of lv (show mCons (mVar 1) mNil [some (tI r), some (.int h), none] [] = some ([.int h], []) from rfl))]
    subst e
    have : h = 1 ∨ h = 2 ∨ h = 3 ∨ h = 4 := by omega
    rcases this with rfl | rfl | rfl | rfl <;> kernel_rfl
  have s4 := mLc_two (s := mRng3 (mCons (mC (.int 0)) (mCons (mCall lenL (mCons (mVar 0) mNil)) (mCons (mVar 1) mNil)))) (g := setN 2) (vs := [2]) s3 rfl rfl (srt_sl k1) (srt_sl k2)
  have b1 : mBody m_parts_of 1 [tI r, .int h] [] = some (.tup [tI (srtM a), tI (srtM b)], []) := by
    have e : m_parts_of [some (tI r), some (.int h), none] [] = some (.ret (.tup [tI (srtM a), tI (srtM b)]) []) := by
      unfold m_parts_of
      rw [mSeq_nx s1, mSeq_nx ((mIfS_f s2).trans (show mNext _ _ = _ from rfl))]
      have c2 : mCall tupL (mCons (mLc (mRng3 (mCons (mC (.int 0)) (mCons (mCall lenL (mCons (mVar 0) mNil)) (mCons (mVar 1) mNil)))) (setN 2) mYes (mQ (mCall tupL (mCons (mCall sortT (mCons (mSl slF (mVar 0) (mPart (mVar 2)) (mPart (mBin addD (mVar 2) (mVar 1)))) mNil)) mNil))) [2]) mNil) [some (tI r), some (.int h), none] [] = some (.tup [tI (srtM a), tI (srtM b)], [.lst [tI (srtM a), tI (srtM b)]]) := by
        rw [mCall_of (mCons_of s4 (show mNil [some (tI r), some (.int h), none] _ = some ([], _) from rfl))]
        rfl
      unfold mRet mQ
      unfold mQ at c2
      rw [c2]
      simp only
      rw [show shal 12 (.tup [tI (srtM a), tI (srtM b)]) = true from by
        show (match shal 11 (tI (srtM a)) with
          | true => (match shal 11 (tI (srtM b)) with
            | true => true
            | false => false)
          | false => false) = true
        rw [shal_tI _ 10, shal_tI _ 10]]
    show (match m_parts_of [some (tI r), some (.int h), none] [] with
      | some (.nx _ hs') => some (D.non, hs')
      | some (.ret d hs') => some (d, hs')
      | _ => none) = _
    rw [e]
  have e0 : allL (shal 12) [tI r, .int h] = true := by
    show (match shal 12 (tI r) with
      | true => true
      | false => false) = true
    rw [shal_tI r 11]
  unfold F_parts_of FP
  rw [e0]
  simp only
  rw [b1]
  simp only
  rw [show shal 12 (.tup [tI (srtM a), tI (srtM b)]) = true from by
    show (match shal 11 (tI (srtM a)) with
      | true => (match shal 11 (tI (srtM b)) with
        | true => true
        | false => false)
      | false => false) = true
    rw [shal_tI _ 10, shal_tI _ 10]]
theorem parts_ok {n : Nat} {r : List Int} (hn : ev n) (p : r.Perm (ixs n)) : F_parts_of [tI r, .int (hv n)] [] = some (.tup [tI (srtM (r.take (hv n))), tI (srtM (r.drop (hv n)))], []) := by
  have lr := len_n p
  rcases hn with rfl | rfl | rfl | rfl
  · match r, lr with
    | [a, b], _ => exact parts_of (h := 1) (.inl rfl) p (by omega) (by omega) rfl rfl rfl
  · match r, lr with
    | [a, b, c, d], _ => exact parts_of (h := 2) (.inr (.inl rfl)) p (by omega) (by omega) rfl rfl rfl
  · match r, lr with
    | [a, b, c, d, e, f], _ => exact parts_of (h := 3) (.inr (.inr (.inl rfl))) p (by omega) (by omega) rfl rfl rfl
  · match r, lr with
    | [a, b, c, d, e, f, g, h], _ => exact parts_of (h := 4) (.inr (.inr (.inr rfl))) p (by omega) (by omega) rfl rfl rfl
theorem half_ok {n : Nat} {r : List Int} {a : Bool} (hn : ev n) (p : r.Perm (ixs n)) (G : Good n (srtM (r.take (hv n))) (srtM (r.drop (hv n))) a) :
    F_halves_that_fit [tI r] [] = some (.tup [tI (mvN n (srtM (r.take (hv n))) (srtM (r.drop (hv n)))), tI (trN n (srtM (r.take (hv n))) (srtM (r.drop (hv n))))], []) := by
  have lr := len_n p
  have s1 : mDrop (mCall F_check_row (mCons (mVar 0) mNil)) [some (tI r), none, none, none, none, none, none] [] = some (.nx [some (tI r), none, none, none, none, none, none] []) := by
    unfold mDrop
    rw [mCall_of (show mCons (mVar 0) mNil [some (tI r), none, none, none, none, none, none] [] = some ([tI r], []) from rfl), row_ok hn p]
  have lv : mCall lenL (mCons (mVar 0) mNil) [some (tI r), none, none, none, none, none, none] [] = some (.int n, []) := by
    show some (D.int ((r.map D.int).length : Nat), ([] : Hs)) = _
    rw [List.length_map, lr]
  have s2 : mTest (mBin (notF eqD) (mBin modD (mCall lenL (mCons (mVar 0) mNil)) (mC (.int 2))) (mC (.int 0))) [some (tI r), none, none, none, none, none, none] [] = some (false, []) := by
    refine mTest_of ?_
    have c1 : mBin modD (mCall lenL (mCons (mVar 0) mNil)) (mC (.int 2)) [some (tI r), none, none, none, none, none, none] [] = some (.int 0, []) := by
      rw [mBin_of lv (show mC (.int 2) [some (tI r), none, none, none, none, none, none] [] = some (.int 2, []) from rfl)]
      rcases hn with rfl | rfl | rfl | rfl <;> rfl
    rw [mBin_of c1 (show mC (.int 0) [some (tI r), none, none, none, none, none, none] [] = some (.int 0, []) from rfl)]
    rfl
  have s4 : mAsgT (setT [2, 3]) (mCall F_parts_of (mCons (mVar 0) (mCons (mBin fdivD (mVar 1) (mC (.int 2))) mNil))) [some (tI r), some (.int n), none, none, none, none, none] [] = some (.nx [some (tI r), some (.int n), some (tI (srtM (r.take (hv n)))), some (tI (srtM (r.drop (hv n)))), none, none, none] []) := by
    have c1 : mCons (mVar 0) (mCons (mBin fdivD (mVar 1) (mC (.int 2))) mNil) [some (tI r), some (.int n), none, none, none, none, none] [] = some ([tI r, .int (hv n)], []) := by
      rcases hn with rfl | rfl | rfl | rfl <;> rfl
    unfold mAsgT
    rw [mCall_of c1, parts_ok hn p]
    rfl
  have b1 : mBody m_halves_that_fit 6 [tI r] [] = some (.tup [tI (mvN n (srtM (r.take (hv n))) (srtM (r.drop (hv n)))), tI (trN n (srtM (r.take (hv n))) (srtM (r.drop (hv n))))], []) := by
    have e : m_halves_that_fit [some (tI r), none, none, none, none, none, none] [] = some (.ret (.tup [tI (mvN n (srtM (r.take (hv n))) (srtM (r.drop (hv n)))), tI (trN n (srtM (r.take (hv n))) (srtM (r.drop (hv n))))]) []) := by
      unfold m_halves_that_fit
      rw [mSeq_nx s1, mSeq_nx ((mIfS_f s2).trans (show mNext _ _ = _ from rfl)), mSeq_nx (mSet_of lv), show put [some (tI r), none, none, none, none, none, none] 1 (some (.int n)) = [some (tI r), some (.int n), none, none, none, none, none] from rfl]
      rw [mSeq_nx (ρ' := [some (tI r), some (.int n), some (tI (srtM (r.take (hv n)))), some (tI (srtM (r.drop (hv n)))), none, none, none]) (hs' := []) s4]
      exact G.hf (tI r)
    show (match m_halves_that_fit [some (tI r), none, none, none, none, none, none] [] with
      | some (.nx _ hs') => some (D.non, hs')
      | some (.ret d hs') => some (d, hs')
      | _ => none) = _
    rw [e]
  unfold F_halves_that_fit FP
  rw [e1_ok]
  simp only
  rw [b1]
  simp only
  rw [show shal 12 (.tup [tI (mvN n (srtM (r.take (hv n))) (srtM (r.drop (hv n)))), tI (trN n (srtM (r.take (hv n))) (srtM (r.drop (hv n))))]) = true from by
    show (match shal 11 (tI (mvN n (srtM (r.take (hv n))) (srtM (r.drop (hv n))))) with
      | true => (match shal 11 (tI (trN n (srtM (r.take (hv n))) (srtM (r.drop (hv n))))) with
        | true => true
        | false => false)
      | false => false) = true
    rw [shal_tI _ 10, shal_tI _ 10]]

theorem ball_nil {P : List Int → Prop} : ∀ S ∈ ([] : List (List Int)), P S := fun S h => by cases h
theorem ball_cons {P : List Int → Prop} {x : List Int} {l : List (List Int)} (h : P x) (r : ∀ S ∈ l, P S) : ∀ S ∈ x :: l, P S := fun S hS => by
  rcases List.mem_cons.mp hS with rfl | h'
  · exact h
  · exact r S h'

theorem gs2_0 : ∃ a, Good 2 [0] (compl 2 [0]) a := ⟨_, by rw [show compl 2 [0] = [1] from by decide]; exact go2_0⟩
theorem gs2_1 : ∃ a, Good 2 [1] (compl 2 [1]) a := ⟨_, by rw [show compl 2 [1] = [0] from by decide]; exact go2_1⟩
theorem subs2 : subsL 1 (ixs 2) = [[0], [1]] := by decide
theorem all2 : ∀ S ∈ subsL 1 (ixs 2), ∃ a, Good 2 S (compl 2 S) a := by
  rw [subs2]
  exact ball_cons gs2_0 (ball_cons gs2_1 (ball_nil))
theorem gs4_0 : ∃ a, Good 4 [0, 1] (compl 4 [0, 1]) a := ⟨_, by rw [show compl 4 [0, 1] = [2, 3] from by decide]; exact go4_0⟩
theorem gs4_1 : ∃ a, Good 4 [0, 2] (compl 4 [0, 2]) a := ⟨_, by rw [show compl 4 [0, 2] = [1, 3] from by decide]; exact go4_1⟩
theorem gs4_2 : ∃ a, Good 4 [0, 3] (compl 4 [0, 3]) a := ⟨_, by rw [show compl 4 [0, 3] = [1, 2] from by decide]; exact go4_2⟩
theorem gs4_3 : ∃ a, Good 4 [1, 2] (compl 4 [1, 2]) a := ⟨_, by rw [show compl 4 [1, 2] = [0, 3] from by decide]; exact go4_3⟩
theorem gs4_4 : ∃ a, Good 4 [1, 3] (compl 4 [1, 3]) a := ⟨_, by rw [show compl 4 [1, 3] = [0, 2] from by decide]; exact go4_4⟩
theorem gs4_5 : ∃ a, Good 4 [2, 3] (compl 4 [2, 3]) a := ⟨_, by rw [show compl 4 [2, 3] = [0, 1] from by decide]; exact go4_5⟩
theorem subs4 : subsL 2 (ixs 4) = [[0, 1], [0, 2], [0, 3], [1, 2], [1, 3], [2, 3]] := by decide
theorem all4 : ∀ S ∈ subsL 2 (ixs 4), ∃ a, Good 4 S (compl 4 S) a := by
  rw [subs4]
  exact ball_cons gs4_0 (ball_cons gs4_1 (ball_cons gs4_2 (ball_cons gs4_3 (ball_cons gs4_4 (ball_cons gs4_5 (ball_nil))))))
theorem gs6_0 : ∃ a, Good 6 [0, 1, 2] (compl 6 [0, 1, 2]) a := ⟨_, by rw [show compl 6 [0, 1, 2] = [3, 4, 5] from by decide]; exact go6_0⟩
theorem gs6_1 : ∃ a, Good 6 [0, 1, 3] (compl 6 [0, 1, 3]) a := ⟨_, by rw [show compl 6 [0, 1, 3] = [2, 4, 5] from by decide]; exact go6_1⟩
theorem gs6_2 : ∃ a, Good 6 [0, 1, 4] (compl 6 [0, 1, 4]) a := ⟨_, by rw [show compl 6 [0, 1, 4] = [2, 3, 5] from by decide]; exact go6_2⟩
theorem gs6_3 : ∃ a, Good 6 [0, 1, 5] (compl 6 [0, 1, 5]) a := ⟨_, by rw [show compl 6 [0, 1, 5] = [2, 3, 4] from by decide]; exact go6_3⟩
theorem gs6_4 : ∃ a, Good 6 [0, 2, 3] (compl 6 [0, 2, 3]) a := ⟨_, by rw [show compl 6 [0, 2, 3] = [1, 4, 5] from by decide]; exact go6_4⟩
theorem gs6_5 : ∃ a, Good 6 [0, 2, 4] (compl 6 [0, 2, 4]) a := ⟨_, by rw [show compl 6 [0, 2, 4] = [1, 3, 5] from by decide]; exact go6_5⟩
theorem gs6_6 : ∃ a, Good 6 [0, 2, 5] (compl 6 [0, 2, 5]) a := ⟨_, by rw [show compl 6 [0, 2, 5] = [1, 3, 4] from by decide]; exact go6_6⟩
theorem gs6_7 : ∃ a, Good 6 [0, 3, 4] (compl 6 [0, 3, 4]) a := ⟨_, by rw [show compl 6 [0, 3, 4] = [1, 2, 5] from by decide]; exact go6_7⟩
theorem gs6_8 : ∃ a, Good 6 [0, 3, 5] (compl 6 [0, 3, 5]) a := ⟨_, by rw [show compl 6 [0, 3, 5] = [1, 2, 4] from by decide]; exact go6_8⟩
theorem gs6_9 : ∃ a, Good 6 [0, 4, 5] (compl 6 [0, 4, 5]) a := ⟨_, by rw [show compl 6 [0, 4, 5] = [1, 2, 3] from by decide]; exact go6_9⟩
theorem gs6_10 : ∃ a, Good 6 [1, 2, 3] (compl 6 [1, 2, 3]) a := ⟨_, by rw [show compl 6 [1, 2, 3] = [0, 4, 5] from by decide]; exact go6_10⟩
theorem gs6_11 : ∃ a, Good 6 [1, 2, 4] (compl 6 [1, 2, 4]) a := ⟨_, by rw [show compl 6 [1, 2, 4] = [0, 3, 5] from by decide]; exact go6_11⟩
theorem gs6_12 : ∃ a, Good 6 [1, 2, 5] (compl 6 [1, 2, 5]) a := ⟨_, by rw [show compl 6 [1, 2, 5] = [0, 3, 4] from by decide]; exact go6_12⟩
theorem gs6_13 : ∃ a, Good 6 [1, 3, 4] (compl 6 [1, 3, 4]) a := ⟨_, by rw [show compl 6 [1, 3, 4] = [0, 2, 5] from by decide]; exact go6_13⟩
theorem gs6_14 : ∃ a, Good 6 [1, 3, 5] (compl 6 [1, 3, 5]) a := ⟨_, by rw [show compl 6 [1, 3, 5] = [0, 2, 4] from by decide]; exact go6_14⟩
theorem gs6_15 : ∃ a, Good 6 [1, 4, 5] (compl 6 [1, 4, 5]) a := ⟨_, by rw [show compl 6 [1, 4, 5] = [0, 2, 3] from by decide]; exact go6_15⟩
theorem gs6_16 : ∃ a, Good 6 [2, 3, 4] (compl 6 [2, 3, 4]) a := ⟨_, by rw [show compl 6 [2, 3, 4] = [0, 1, 5] from by decide]; exact go6_16⟩
theorem gs6_17 : ∃ a, Good 6 [2, 3, 5] (compl 6 [2, 3, 5]) a := ⟨_, by rw [show compl 6 [2, 3, 5] = [0, 1, 4] from by decide]; exact go6_17⟩
theorem gs6_18 : ∃ a, Good 6 [2, 4, 5] (compl 6 [2, 4, 5]) a := ⟨_, by rw [show compl 6 [2, 4, 5] = [0, 1, 3] from by decide]; exact go6_18⟩
theorem gs6_19 : ∃ a, Good 6 [3, 4, 5] (compl 6 [3, 4, 5]) a := ⟨_, by rw [show compl 6 [3, 4, 5] = [0, 1, 2] from by decide]; exact go6_19⟩
theorem subs6 : subsL 3 (ixs 6) = [[0, 1, 2], [0, 1, 3], [0, 1, 4], [0, 1, 5], [0, 2, 3], [0, 2, 4], [0, 2, 5], [0, 3, 4], [0, 3, 5], [0, 4, 5], [1, 2, 3], [1, 2, 4], [1, 2, 5], [1, 3, 4], [1, 3, 5], [1, 4, 5], [2, 3, 4], [2, 3, 5], [2, 4, 5], [3, 4, 5]] := by decide
theorem all6 : ∀ S ∈ subsL 3 (ixs 6), ∃ a, Good 6 S (compl 6 S) a := by
  rw [subs6]
  exact ball_cons gs6_0 (ball_cons gs6_1 (ball_cons gs6_2 (ball_cons gs6_3 (ball_cons gs6_4 (ball_cons gs6_5 (ball_cons gs6_6 (ball_cons gs6_7 (ball_cons gs6_8 (ball_cons gs6_9 (ball_cons gs6_10 (ball_cons gs6_11 (ball_cons gs6_12 (ball_cons gs6_13 (ball_cons gs6_14 (ball_cons gs6_15 (ball_cons gs6_16 (ball_cons gs6_17 (ball_cons gs6_18 (ball_cons gs6_19 (ball_nil))))))))))))))))))))
theorem gs8_0 : ∃ a, Good 8 [0, 1, 2, 3] (compl 8 [0, 1, 2, 3]) a := ⟨_, by rw [show compl 8 [0, 1, 2, 3] = [4, 5, 6, 7] from by decide]; exact go8_0⟩
theorem gs8_1 : ∃ a, Good 8 [0, 1, 2, 4] (compl 8 [0, 1, 2, 4]) a := ⟨_, by rw [show compl 8 [0, 1, 2, 4] = [3, 5, 6, 7] from by decide]; exact go8_1⟩
theorem gs8_2 : ∃ a, Good 8 [0, 1, 2, 5] (compl 8 [0, 1, 2, 5]) a := ⟨_, by rw [show compl 8 [0, 1, 2, 5] = [3, 4, 6, 7] from by decide]; exact go8_2⟩
theorem gs8_3 : ∃ a, Good 8 [0, 1, 2, 6] (compl 8 [0, 1, 2, 6]) a := ⟨_, by rw [show compl 8 [0, 1, 2, 6] = [3, 4, 5, 7] from by decide]; exact go8_3⟩
theorem gs8_4 : ∃ a, Good 8 [0, 1, 2, 7] (compl 8 [0, 1, 2, 7]) a := ⟨_, by rw [show compl 8 [0, 1, 2, 7] = [3, 4, 5, 6] from by decide]; exact go8_4⟩
theorem gs8_5 : ∃ a, Good 8 [0, 1, 3, 4] (compl 8 [0, 1, 3, 4]) a := ⟨_, by rw [show compl 8 [0, 1, 3, 4] = [2, 5, 6, 7] from by decide]; exact go8_5⟩
theorem gs8_6 : ∃ a, Good 8 [0, 1, 3, 5] (compl 8 [0, 1, 3, 5]) a := ⟨_, by rw [show compl 8 [0, 1, 3, 5] = [2, 4, 6, 7] from by decide]; exact go8_6⟩
theorem gs8_7 : ∃ a, Good 8 [0, 1, 3, 6] (compl 8 [0, 1, 3, 6]) a := ⟨_, by rw [show compl 8 [0, 1, 3, 6] = [2, 4, 5, 7] from by decide]; exact go8_7⟩
theorem gs8_8 : ∃ a, Good 8 [0, 1, 3, 7] (compl 8 [0, 1, 3, 7]) a := ⟨_, by rw [show compl 8 [0, 1, 3, 7] = [2, 4, 5, 6] from by decide]; exact go8_8⟩
theorem gs8_9 : ∃ a, Good 8 [0, 1, 4, 5] (compl 8 [0, 1, 4, 5]) a := ⟨_, by rw [show compl 8 [0, 1, 4, 5] = [2, 3, 6, 7] from by decide]; exact go8_9⟩
theorem gs8_10 : ∃ a, Good 8 [0, 1, 4, 6] (compl 8 [0, 1, 4, 6]) a := ⟨_, by rw [show compl 8 [0, 1, 4, 6] = [2, 3, 5, 7] from by decide]; exact go8_10⟩
theorem gs8_11 : ∃ a, Good 8 [0, 1, 4, 7] (compl 8 [0, 1, 4, 7]) a := ⟨_, by rw [show compl 8 [0, 1, 4, 7] = [2, 3, 5, 6] from by decide]; exact go8_11⟩
theorem gs8_12 : ∃ a, Good 8 [0, 1, 5, 6] (compl 8 [0, 1, 5, 6]) a := ⟨_, by rw [show compl 8 [0, 1, 5, 6] = [2, 3, 4, 7] from by decide]; exact go8_12⟩
theorem gs8_13 : ∃ a, Good 8 [0, 1, 5, 7] (compl 8 [0, 1, 5, 7]) a := ⟨_, by rw [show compl 8 [0, 1, 5, 7] = [2, 3, 4, 6] from by decide]; exact go8_13⟩
theorem gs8_14 : ∃ a, Good 8 [0, 1, 6, 7] (compl 8 [0, 1, 6, 7]) a := ⟨_, by rw [show compl 8 [0, 1, 6, 7] = [2, 3, 4, 5] from by decide]; exact go8_14⟩
theorem gs8_15 : ∃ a, Good 8 [0, 2, 3, 4] (compl 8 [0, 2, 3, 4]) a := ⟨_, by rw [show compl 8 [0, 2, 3, 4] = [1, 5, 6, 7] from by decide]; exact go8_15⟩
theorem gs8_16 : ∃ a, Good 8 [0, 2, 3, 5] (compl 8 [0, 2, 3, 5]) a := ⟨_, by rw [show compl 8 [0, 2, 3, 5] = [1, 4, 6, 7] from by decide]; exact go8_16⟩
theorem gs8_17 : ∃ a, Good 8 [0, 2, 3, 6] (compl 8 [0, 2, 3, 6]) a := ⟨_, by rw [show compl 8 [0, 2, 3, 6] = [1, 4, 5, 7] from by decide]; exact go8_17⟩
theorem gs8_18 : ∃ a, Good 8 [0, 2, 3, 7] (compl 8 [0, 2, 3, 7]) a := ⟨_, by rw [show compl 8 [0, 2, 3, 7] = [1, 4, 5, 6] from by decide]; exact go8_18⟩
theorem gs8_19 : ∃ a, Good 8 [0, 2, 4, 5] (compl 8 [0, 2, 4, 5]) a := ⟨_, by rw [show compl 8 [0, 2, 4, 5] = [1, 3, 6, 7] from by decide]; exact go8_19⟩
theorem gs8_20 : ∃ a, Good 8 [0, 2, 4, 6] (compl 8 [0, 2, 4, 6]) a := ⟨_, by rw [show compl 8 [0, 2, 4, 6] = [1, 3, 5, 7] from by decide]; exact go8_20⟩
theorem gs8_21 : ∃ a, Good 8 [0, 2, 4, 7] (compl 8 [0, 2, 4, 7]) a := ⟨_, by rw [show compl 8 [0, 2, 4, 7] = [1, 3, 5, 6] from by decide]; exact go8_21⟩
theorem gs8_22 : ∃ a, Good 8 [0, 2, 5, 6] (compl 8 [0, 2, 5, 6]) a := ⟨_, by rw [show compl 8 [0, 2, 5, 6] = [1, 3, 4, 7] from by decide]; exact go8_22⟩
theorem gs8_23 : ∃ a, Good 8 [0, 2, 5, 7] (compl 8 [0, 2, 5, 7]) a := ⟨_, by rw [show compl 8 [0, 2, 5, 7] = [1, 3, 4, 6] from by decide]; exact go8_23⟩
theorem gs8_24 : ∃ a, Good 8 [0, 2, 6, 7] (compl 8 [0, 2, 6, 7]) a := ⟨_, by rw [show compl 8 [0, 2, 6, 7] = [1, 3, 4, 5] from by decide]; exact go8_24⟩
theorem gs8_25 : ∃ a, Good 8 [0, 3, 4, 5] (compl 8 [0, 3, 4, 5]) a := ⟨_, by rw [show compl 8 [0, 3, 4, 5] = [1, 2, 6, 7] from by decide]; exact go8_25⟩
theorem gs8_26 : ∃ a, Good 8 [0, 3, 4, 6] (compl 8 [0, 3, 4, 6]) a := ⟨_, by rw [show compl 8 [0, 3, 4, 6] = [1, 2, 5, 7] from by decide]; exact go8_26⟩
theorem gs8_27 : ∃ a, Good 8 [0, 3, 4, 7] (compl 8 [0, 3, 4, 7]) a := ⟨_, by rw [show compl 8 [0, 3, 4, 7] = [1, 2, 5, 6] from by decide]; exact go8_27⟩
theorem gs8_28 : ∃ a, Good 8 [0, 3, 5, 6] (compl 8 [0, 3, 5, 6]) a := ⟨_, by rw [show compl 8 [0, 3, 5, 6] = [1, 2, 4, 7] from by decide]; exact go8_28⟩
theorem gs8_29 : ∃ a, Good 8 [0, 3, 5, 7] (compl 8 [0, 3, 5, 7]) a := ⟨_, by rw [show compl 8 [0, 3, 5, 7] = [1, 2, 4, 6] from by decide]; exact go8_29⟩
theorem gs8_30 : ∃ a, Good 8 [0, 3, 6, 7] (compl 8 [0, 3, 6, 7]) a := ⟨_, by rw [show compl 8 [0, 3, 6, 7] = [1, 2, 4, 5] from by decide]; exact go8_30⟩
theorem gs8_31 : ∃ a, Good 8 [0, 4, 5, 6] (compl 8 [0, 4, 5, 6]) a := ⟨_, by rw [show compl 8 [0, 4, 5, 6] = [1, 2, 3, 7] from by decide]; exact go8_31⟩
theorem gs8_32 : ∃ a, Good 8 [0, 4, 5, 7] (compl 8 [0, 4, 5, 7]) a := ⟨_, by rw [show compl 8 [0, 4, 5, 7] = [1, 2, 3, 6] from by decide]; exact go8_32⟩
theorem gs8_33 : ∃ a, Good 8 [0, 4, 6, 7] (compl 8 [0, 4, 6, 7]) a := ⟨_, by rw [show compl 8 [0, 4, 6, 7] = [1, 2, 3, 5] from by decide]; exact go8_33⟩
theorem gs8_34 : ∃ a, Good 8 [0, 5, 6, 7] (compl 8 [0, 5, 6, 7]) a := ⟨_, by rw [show compl 8 [0, 5, 6, 7] = [1, 2, 3, 4] from by decide]; exact go8_34⟩
theorem gs8_35 : ∃ a, Good 8 [1, 2, 3, 4] (compl 8 [1, 2, 3, 4]) a := ⟨_, by rw [show compl 8 [1, 2, 3, 4] = [0, 5, 6, 7] from by decide]; exact go8_35⟩
theorem gs8_36 : ∃ a, Good 8 [1, 2, 3, 5] (compl 8 [1, 2, 3, 5]) a := ⟨_, by rw [show compl 8 [1, 2, 3, 5] = [0, 4, 6, 7] from by decide]; exact go8_36⟩
theorem gs8_37 : ∃ a, Good 8 [1, 2, 3, 6] (compl 8 [1, 2, 3, 6]) a := ⟨_, by rw [show compl 8 [1, 2, 3, 6] = [0, 4, 5, 7] from by decide]; exact go8_37⟩
theorem gs8_38 : ∃ a, Good 8 [1, 2, 3, 7] (compl 8 [1, 2, 3, 7]) a := ⟨_, by rw [show compl 8 [1, 2, 3, 7] = [0, 4, 5, 6] from by decide]; exact go8_38⟩
theorem gs8_39 : ∃ a, Good 8 [1, 2, 4, 5] (compl 8 [1, 2, 4, 5]) a := ⟨_, by rw [show compl 8 [1, 2, 4, 5] = [0, 3, 6, 7] from by decide]; exact go8_39⟩
theorem gs8_40 : ∃ a, Good 8 [1, 2, 4, 6] (compl 8 [1, 2, 4, 6]) a := ⟨_, by rw [show compl 8 [1, 2, 4, 6] = [0, 3, 5, 7] from by decide]; exact go8_40⟩
theorem gs8_41 : ∃ a, Good 8 [1, 2, 4, 7] (compl 8 [1, 2, 4, 7]) a := ⟨_, by rw [show compl 8 [1, 2, 4, 7] = [0, 3, 5, 6] from by decide]; exact go8_41⟩
theorem gs8_42 : ∃ a, Good 8 [1, 2, 5, 6] (compl 8 [1, 2, 5, 6]) a := ⟨_, by rw [show compl 8 [1, 2, 5, 6] = [0, 3, 4, 7] from by decide]; exact go8_42⟩
theorem gs8_43 : ∃ a, Good 8 [1, 2, 5, 7] (compl 8 [1, 2, 5, 7]) a := ⟨_, by rw [show compl 8 [1, 2, 5, 7] = [0, 3, 4, 6] from by decide]; exact go8_43⟩
theorem gs8_44 : ∃ a, Good 8 [1, 2, 6, 7] (compl 8 [1, 2, 6, 7]) a := ⟨_, by rw [show compl 8 [1, 2, 6, 7] = [0, 3, 4, 5] from by decide]; exact go8_44⟩
theorem gs8_45 : ∃ a, Good 8 [1, 3, 4, 5] (compl 8 [1, 3, 4, 5]) a := ⟨_, by rw [show compl 8 [1, 3, 4, 5] = [0, 2, 6, 7] from by decide]; exact go8_45⟩
theorem gs8_46 : ∃ a, Good 8 [1, 3, 4, 6] (compl 8 [1, 3, 4, 6]) a := ⟨_, by rw [show compl 8 [1, 3, 4, 6] = [0, 2, 5, 7] from by decide]; exact go8_46⟩
theorem gs8_47 : ∃ a, Good 8 [1, 3, 4, 7] (compl 8 [1, 3, 4, 7]) a := ⟨_, by rw [show compl 8 [1, 3, 4, 7] = [0, 2, 5, 6] from by decide]; exact go8_47⟩
theorem gs8_48 : ∃ a, Good 8 [1, 3, 5, 6] (compl 8 [1, 3, 5, 6]) a := ⟨_, by rw [show compl 8 [1, 3, 5, 6] = [0, 2, 4, 7] from by decide]; exact go8_48⟩
theorem gs8_49 : ∃ a, Good 8 [1, 3, 5, 7] (compl 8 [1, 3, 5, 7]) a := ⟨_, by rw [show compl 8 [1, 3, 5, 7] = [0, 2, 4, 6] from by decide]; exact go8_49⟩
theorem gs8_50 : ∃ a, Good 8 [1, 3, 6, 7] (compl 8 [1, 3, 6, 7]) a := ⟨_, by rw [show compl 8 [1, 3, 6, 7] = [0, 2, 4, 5] from by decide]; exact go8_50⟩
theorem gs8_51 : ∃ a, Good 8 [1, 4, 5, 6] (compl 8 [1, 4, 5, 6]) a := ⟨_, by rw [show compl 8 [1, 4, 5, 6] = [0, 2, 3, 7] from by decide]; exact go8_51⟩
theorem gs8_52 : ∃ a, Good 8 [1, 4, 5, 7] (compl 8 [1, 4, 5, 7]) a := ⟨_, by rw [show compl 8 [1, 4, 5, 7] = [0, 2, 3, 6] from by decide]; exact go8_52⟩
theorem gs8_53 : ∃ a, Good 8 [1, 4, 6, 7] (compl 8 [1, 4, 6, 7]) a := ⟨_, by rw [show compl 8 [1, 4, 6, 7] = [0, 2, 3, 5] from by decide]; exact go8_53⟩
theorem gs8_54 : ∃ a, Good 8 [1, 5, 6, 7] (compl 8 [1, 5, 6, 7]) a := ⟨_, by rw [show compl 8 [1, 5, 6, 7] = [0, 2, 3, 4] from by decide]; exact go8_54⟩
theorem gs8_55 : ∃ a, Good 8 [2, 3, 4, 5] (compl 8 [2, 3, 4, 5]) a := ⟨_, by rw [show compl 8 [2, 3, 4, 5] = [0, 1, 6, 7] from by decide]; exact go8_55⟩
theorem gs8_56 : ∃ a, Good 8 [2, 3, 4, 6] (compl 8 [2, 3, 4, 6]) a := ⟨_, by rw [show compl 8 [2, 3, 4, 6] = [0, 1, 5, 7] from by decide]; exact go8_56⟩
theorem gs8_57 : ∃ a, Good 8 [2, 3, 4, 7] (compl 8 [2, 3, 4, 7]) a := ⟨_, by rw [show compl 8 [2, 3, 4, 7] = [0, 1, 5, 6] from by decide]; exact go8_57⟩
theorem gs8_58 : ∃ a, Good 8 [2, 3, 5, 6] (compl 8 [2, 3, 5, 6]) a := ⟨_, by rw [show compl 8 [2, 3, 5, 6] = [0, 1, 4, 7] from by decide]; exact go8_58⟩
theorem gs8_59 : ∃ a, Good 8 [2, 3, 5, 7] (compl 8 [2, 3, 5, 7]) a := ⟨_, by rw [show compl 8 [2, 3, 5, 7] = [0, 1, 4, 6] from by decide]; exact go8_59⟩
theorem gs8_60 : ∃ a, Good 8 [2, 3, 6, 7] (compl 8 [2, 3, 6, 7]) a := ⟨_, by rw [show compl 8 [2, 3, 6, 7] = [0, 1, 4, 5] from by decide]; exact go8_60⟩
theorem gs8_61 : ∃ a, Good 8 [2, 4, 5, 6] (compl 8 [2, 4, 5, 6]) a := ⟨_, by rw [show compl 8 [2, 4, 5, 6] = [0, 1, 3, 7] from by decide]; exact go8_61⟩
theorem gs8_62 : ∃ a, Good 8 [2, 4, 5, 7] (compl 8 [2, 4, 5, 7]) a := ⟨_, by rw [show compl 8 [2, 4, 5, 7] = [0, 1, 3, 6] from by decide]; exact go8_62⟩
theorem gs8_63 : ∃ a, Good 8 [2, 4, 6, 7] (compl 8 [2, 4, 6, 7]) a := ⟨_, by rw [show compl 8 [2, 4, 6, 7] = [0, 1, 3, 5] from by decide]; exact go8_63⟩
theorem gs8_64 : ∃ a, Good 8 [2, 5, 6, 7] (compl 8 [2, 5, 6, 7]) a := ⟨_, by rw [show compl 8 [2, 5, 6, 7] = [0, 1, 3, 4] from by decide]; exact go8_64⟩
theorem gs8_65 : ∃ a, Good 8 [3, 4, 5, 6] (compl 8 [3, 4, 5, 6]) a := ⟨_, by rw [show compl 8 [3, 4, 5, 6] = [0, 1, 2, 7] from by decide]; exact go8_65⟩
theorem gs8_66 : ∃ a, Good 8 [3, 4, 5, 7] (compl 8 [3, 4, 5, 7]) a := ⟨_, by rw [show compl 8 [3, 4, 5, 7] = [0, 1, 2, 6] from by decide]; exact go8_66⟩
theorem gs8_67 : ∃ a, Good 8 [3, 4, 6, 7] (compl 8 [3, 4, 6, 7]) a := ⟨_, by rw [show compl 8 [3, 4, 6, 7] = [0, 1, 2, 5] from by decide]; exact go8_67⟩
theorem gs8_68 : ∃ a, Good 8 [3, 5, 6, 7] (compl 8 [3, 5, 6, 7]) a := ⟨_, by rw [show compl 8 [3, 5, 6, 7] = [0, 1, 2, 4] from by decide]; exact go8_68⟩
theorem gs8_69 : ∃ a, Good 8 [4, 5, 6, 7] (compl 8 [4, 5, 6, 7]) a := ⟨_, by rw [show compl 8 [4, 5, 6, 7] = [0, 1, 2, 3] from by decide]; exact go8_69⟩
theorem subs8 : subsL 4 (ixs 8) = [[0, 1, 2, 3], [0, 1, 2, 4], [0, 1, 2, 5], [0, 1, 2, 6], [0, 1, 2, 7], [0, 1, 3, 4], [0, 1, 3, 5], [0, 1, 3, 6], [0, 1, 3, 7], [0, 1, 4, 5], [0, 1, 4, 6], [0, 1, 4, 7], [0, 1, 5, 6], [0, 1, 5, 7], [0, 1, 6, 7], [0, 2, 3, 4], [0, 2, 3, 5], [0, 2, 3, 6], [0, 2, 3, 7], [0, 2, 4, 5], [0, 2, 4, 6], [0, 2, 4, 7], [0, 2, 5, 6], [0, 2, 5, 7], [0, 2, 6, 7], [0, 3, 4, 5], [0, 3, 4, 6], [0, 3, 4, 7], [0, 3, 5, 6], [0, 3, 5, 7], [0, 3, 6, 7], [0, 4, 5, 6], [0, 4, 5, 7], [0, 4, 6, 7], [0, 5, 6, 7], [1, 2, 3, 4], [1, 2, 3, 5], [1, 2, 3, 6], [1, 2, 3, 7], [1, 2, 4, 5], [1, 2, 4, 6], [1, 2, 4, 7], [1, 2, 5, 6], [1, 2, 5, 7], [1, 2, 6, 7], [1, 3, 4, 5], [1, 3, 4, 6], [1, 3, 4, 7], [1, 3, 5, 6], [1, 3, 5, 7], [1, 3, 6, 7], [1, 4, 5, 6], [1, 4, 5, 7], [1, 4, 6, 7], [1, 5, 6, 7], [2, 3, 4, 5], [2, 3, 4, 6], [2, 3, 4, 7], [2, 3, 5, 6], [2, 3, 5, 7], [2, 3, 6, 7], [2, 4, 5, 6], [2, 4, 5, 7], [2, 4, 6, 7], [2, 5, 6, 7], [3, 4, 5, 6], [3, 4, 5, 7], [3, 4, 6, 7], [3, 5, 6, 7], [4, 5, 6, 7]] := by decide
theorem all8 : ∀ S ∈ subsL 4 (ixs 8), ∃ a, Good 8 S (compl 8 S) a := by
  rw [subs8]
  exact ball_cons gs8_0 (ball_cons gs8_1 (ball_cons gs8_2 (ball_cons gs8_3 (ball_cons gs8_4 (ball_cons gs8_5 (ball_cons gs8_6 (ball_cons gs8_7 (ball_cons gs8_8 (ball_cons gs8_9 (ball_cons gs8_10 (ball_cons gs8_11 (ball_cons gs8_12 (ball_cons gs8_13 (ball_cons gs8_14 (ball_cons gs8_15 (ball_cons gs8_16 (ball_cons gs8_17 (ball_cons gs8_18 (ball_cons gs8_19 (ball_cons gs8_20 (ball_cons gs8_21 (ball_cons gs8_22 (ball_cons gs8_23 (ball_cons gs8_24 (ball_cons gs8_25 (ball_cons gs8_26 (ball_cons gs8_27 (ball_cons gs8_28 (ball_cons gs8_29 (ball_cons gs8_30 (ball_cons gs8_31 (ball_cons gs8_32 (ball_cons gs8_33 (ball_cons gs8_34 (ball_cons gs8_35 (ball_cons gs8_36 (ball_cons gs8_37 (ball_cons gs8_38 (ball_cons gs8_39 (ball_cons gs8_40 (ball_cons gs8_41 (ball_cons gs8_42 (ball_cons gs8_43 (ball_cons gs8_44 (ball_cons gs8_45 (ball_cons gs8_46 (ball_cons gs8_47 (ball_cons gs8_48 (ball_cons gs8_49 (ball_cons gs8_50 (ball_cons gs8_51 (ball_cons gs8_52 (ball_cons gs8_53 (ball_cons gs8_54 (ball_cons gs8_55 (ball_cons gs8_56 (ball_cons gs8_57 (ball_cons gs8_58 (ball_cons gs8_59 (ball_cons gs8_60 (ball_cons gs8_61 (ball_cons gs8_62 (ball_cons gs8_63 (ball_cons gs8_64 (ball_cons gs8_65 (ball_cons gs8_66 (ball_cons gs8_67 (ball_cons gs8_68 (ball_cons gs8_69 (ball_nil))))))))))))))))))))))))))))))))))))))))))))))))))))))))))))))))))))))

theorem all_good {n : Nat} (hn : ev n) : ∀ S ∈ subsL (hv n) (ixs n), ∃ a, Good n S (compl n S) a := by
  rcases hn with rfl | rfl | rfl | rfl
  · exact all2
  · exact all4
  · exact all6
  · exact all8
theorem row_good {n : Nat} {r : List Int} (hn : ev n) (p : r.Perm (ixs n)) : ∃ a, Good n (srtM (r.take (hv n))) (srtM (r.drop (hv n))) a := by
  obtain ⟨h1, h2⟩ := halves_in (h := hv n) p (by unfold hv; omega)
  rw [h2]
  exact all_good hn _ h1
theorem rev_halves {n : Nat} {r : List Int} (hn : ev n) (p : r.Perm (ixs n)) : srtM (r.reverse.take (hv n)) = srtM (r.drop (hv n)) ∧ srtM (r.reverse.drop (hv n)) = srtM (r.take (hv n)) := by
  have lr := len_n p
  have e : r.length - hv n = hv n := by rw [lr]; rcases hn with rfl | rfl | rfl | rfl <;> rfl
  constructor
  · rw [List.take_reverse, e]
    exact srt_perm (List.reverse_perm _)
  · rw [List.drop_reverse, e]
    exact srt_perm (List.reverse_perm _)
def mvx (n : Nat) (t x : Int) : Int := (x + t) % (n : Int)
def turnsOk (n : Nat) : Bool := allR (fun t => eqLI (srtM ((ixs n).map fun x => (x + t) % (n : Int))) (ixs n)) 0 n
theorem turns2 : turnsOk 2 = true := by decide +kernel
theorem turns4 : turnsOk 4 = true := by decide +kernel
theorem turns6 : turnsOk 6 = true := by decide +kernel
theorem turns8 : turnsOk 8 = true := by decide +kernel
theorem mod_add {n : Nat} (s x : Int) : (x + s) % (n : Int) = (x + s % (n : Int)) % (n : Int) := by
  rw [Int.add_emod, Int.add_emod x (s % (n : Int)), Int.emod_emod]
theorem moved_perm {n : Nat} {r : List Int} (hn : ev n) (p : r.Perm (ixs n)) (s : Int) : (r.map fun x => (x + s) % (n : Int)).Perm (ixs n) := by
  have n0 : (0 : Int) < n := by rcases hn with rfl | rfl | rfl | rfl <;> omega
  have e : (r.map fun x => (x + s) % (n : Int)) = r.map fun x => (x + s % (n : Int)) % (n : Int) := List.map_congr_left fun x _ => mod_add s x
  rw [e]
  have t0 := Int.emod_nonneg s (show (n : Int) ≠ 0 by omega)
  have t1 := Int.emod_lt_of_pos s n0
  have tk : turnsOk n = true := by
    rcases hn with rfl | rfl | rfl | rfl
    · exact turns2
    · exact turns4
    · exact turns6
    · exact turns8
  have := eqLI_eq (allR_eq tk (s % (n : Int)) t0 (by omega))
  exact ((p.map _).trans (srtM_perm _).symm).trans (by rw [this])
theorem moved_mv {n : Nat} {r : List Int} {a : Bool} (hn : ev n) (p : r.Perm (ixs n)) (s : Int) (G : Good n (srtM (r.take (hv n))) (srtM (r.drop (hv n))) a) :
    mvN n (srtM ((r.map fun x => (x + s) % (n : Int)).take (hv n))) (srtM ((r.map fun x => (x + s) % (n : Int)).drop (hv n))) = mvN n (srtM (r.take (hv n))) (srtM (r.drop (hv n))) := by
  have n0 : (0 : Int) < n := by rcases hn with rfl | rfl | rfl | rfl <;> omega
  have t0 := Int.emod_nonneg s (show (n : Int) ≠ 0 by omega)
  have t1 := Int.emod_lt_of_pos s n0
  have e : (r.map fun x => (x + s) % (n : Int)) = r.map fun x => (x + s % (n : Int)) % (n : Int) := List.map_congr_left fun x _ => mod_add s x
  rw [e, ← List.map_take, ← List.map_drop]
  have e1 : srtM ((r.take (hv n)).map fun x => (x + s % (n : Int)) % (n : Int)) = srtM ((srtM (r.take (hv n))).map fun x => (x + s % (n : Int)) % (n : Int)) := srt_perm ((srtM_perm _).symm.map _)
  have e2 : srtM ((r.drop (hv n)).map fun x => (x + s % (n : Int)) % (n : Int)) = srtM ((srtM (r.drop (hv n))).map fun x => (x + s % (n : Int)) % (n : Int)) := srt_perm ((srtM_perm _).symm.map _)
  rw [e1, e2]
  have h : allR (fun t => eqLI (mvN n (srtM ((srtM (r.take (hv n))).map fun x => (x + t) % (n : Int))) (srtM ((srtM (r.drop (hv n))).map fun x => (x + t) % (n : Int)))) (mvN n (srtM (r.take (hv n))) (srtM (r.drop (hv n))))) 0 (n : Int).toNat = true := (chk_ex G.ck).2.2.1
  exact eqLI_eq (allR_eq h (s % (n : Int)) t0 (by omega))
def rho7 (m : Int) (R S T : D) (a : Bool) (mv tr : D) : En := [none, some (.ref 0), some (.int m), none, some R, none, some S, some T, some (.bl a), some mv, some tr, none, none, none, none, none, none, none]
def rho8 (m : Int) (R S T : D) (a : Bool) (mv tr b c : D) : En := [none, some (.ref 0), some (.int m), none, some R, none, some S, some T, some (.bl a), some mv, some tr, some b, some c, none, none, none, none, none]
theorem sh2 (x y : List Int) : shal 12 (.tup [tI x, tI y]) = true := by
  show (match shal 11 (tI x) with
    | true => (match shal 11 (tI y) with
      | true => true
      | false => false)
    | false => false) = true
  rw [shal_tI _ 10, shal_tI _ 10]
theorem q4 {n : Nat} {r : List Int} (hn : ev n) (p : r.Perm (ixs n)) (L : List D) : m4_law (rho3 n (tI r)) [.lst L] = some (.nx (rho5 n (tI r) (tI (srtM (r.take (hv n)))) (tI (srtM (r.drop (hv n))))) [.lst L]) := by
  have c1 : mCons (mVar 4) (mCons (mBin fdivD (mVar 2) (mC (.int 2))) mNil) (rho3 n (tI r)) [.lst L] = some ([tI r, .int (hv n)], [.lst L]) := by
    rcases hn with rfl | rfl | rfl | rfl <;> rfl
  have c2 : F_parts_of [tI r, .int (hv n)] [.lst L] = some (.tup [tI (srtM (r.take (hv n))), tI (srtM (r.drop (hv n)))], [.lst L]) := fp_at (parts_ok hn p) (sh2 _ _) [.lst L]
  unfold m4_law mAsgT
  rw [mCall_of c1, c2]
  rfl
section
variable {n : Nat} {r : List Int} {a : Bool}
theorem q6 (hn : ev n) (p : r.Perm (ixs n)) (G : Good n (srtM (r.take (hv n))) (srtM (r.drop (hv n))) a) (S T : D) (L : List D) : m6_law (rho6 n (tI r) S T a) [.lst L] =
    some (.nx (rho7 n (tI r) S T a (tI (mvN n (srtM (r.take (hv n))) (srtM (r.drop (hv n))))) (tI (trN n (srtM (r.take (hv n))) (srtM (r.drop (hv n)))))) [.lst L]) := by
  have c2 : F_halves_that_fit [tI r] [.lst L] = _ := fp_at (half_ok hn p G) (sh2 _ _) [.lst L]
  unfold m6_law mAsgT
  rw [mCall_of (show mCons (mVar 4) mNil (rho6 n (tI r) S T a) [.lst L] = some ([tI r], [.lst L]) from rfl), c2]
  rfl
theorem q7 (G : Good n (srtM (r.take (hv n))) (srtM (r.drop (hv n))) a) (R S T : D) (L : List D) : m7_law (rho7 n R S T a (tI (mvN n (srtM (r.take (hv n))) (srtM (r.drop (hv n))))) (tI (trN n (srtM (r.take (hv n))) (srtM (r.drop (hv n)))))) [.lst L] =
    some (.nx (rho7 n R S T a (tI (mvN n (srtM (r.take (hv n))) (srtM (r.drop (hv n))))) (tI (trN n (srtM (r.take (hv n))) (srtM (r.drop (hv n)))))) [.lst L]) := by
  have h := (chk_ex G.ck).2.2.2
  generalize mvN n (srtM (r.take (hv n))) (srtM (r.drop (hv n))) = mv at h ⊢
  generalize trN n (srtM (r.take (hv n))) (srtM (r.drop (hv n))) = tr at h ⊢
  have t : t7_law (rho7 n R S T a (tI mv) (tI tr)) [.lst L] = some (false, [.lst L]) := by
    refine mTest_of ?_
    have c1 : mBin gtD (mBin addD (mCall lenL (mCons (mVar 9) mNil)) (mCall lenL (mCons (mVar 10) mNil))) (mC (.int 0)) (rho7 n R S T a (tI mv) (tI tr)) [.lst L] = some (.bl a, [.lst L]) := by
      show some (D.bl (decide ((0 : Int) < ((mv.map D.int).length : Nat) + ((tr.map D.int).length : Nat))), [O.lst L]) = _
      rw [List.length_map, List.length_map, h]
    rw [mBin_of c1 (show mVar 8 (rho7 n R S T a (tI mv) (tI tr)) [.lst L] = some (.bl a, [.lst L]) from rfl)]
    cases a <;> rfl
  unfold m7_law
  rw [mIfS_f t]
  rfl
theorem q8 (hn : ev n) (p : r.Perm (ixs n)) (G : Good n (srtM (r.take (hv n))) (srtM (r.drop (hv n))) a) (S T mv tr : D) (L : List D) : m8_law (rho7 n (tI r) S T a mv tr) [.lst L] =
    some (.nx (rho8 n (tI r) S T a mv tr (tI (srtM ((mvN n (srtM (r.take (hv n))) (srtM (r.drop (hv n)))).map fun k => ((n : Int) - k) % n))) (tI (trN n (srtM (r.take (hv n))) (srtM (r.drop (hv n)))))) [.lst L]) := by
  obtain ⟨r1, r2⟩ := rev_halves hn p
  have pr : r.reverse.Perm (ixs n) := (List.reverse_perm r).trans p
  obtain ⟨a', G'⟩ := row_good hn pr
  have hf := half_ok hn pr G'
  rw [r1, r2, (chk_ex G.ck).1, (chk_ex G.ck).2.1] at hf
  have c0 : F_backwards [tI r] [.lst L] = _ := fp_at (back_ok hn p) (shal_tI _ 11) [.lst L]
  have c1 : mCall F_backwards (mCons (mVar 4) mNil) (rho7 n (tI r) S T a mv tr) [.lst L] = some (tI r.reverse, [.lst L]) :=
    (mCall_of (show mCons (mVar 4) mNil (rho7 n (tI r) S T a mv tr) [.lst L] = some ([tI r], [.lst L]) from rfl)).trans c0
  have c2 : F_halves_that_fit [tI r.reverse] [.lst L] = _ := fp_at hf (sh2 _ _) [.lst L]
  unfold m8_law mAsgT
  rw [mCall_of (mCons_of c1 (show mNil (rho7 n (tI r) S T a mv tr) [.lst L] = some ([], [.lst L]) from rfl)), c2]
  rfl
theorem srtL_tI (xs : List Int) (hs : Hs) (f : EM) (ρ : En) (h : f ρ hs = some (.ref hs.length, hs ++ [.lst (xs.map D.int)])) : mQ (mCall tupL (mCons (mCall sortL (mCons f mNil)) mNil)) ρ hs = some (tI (srtM xs), hs) := by
  have c1 : mCall sortL (mCons f mNil) ρ hs = some (.ref (hs.length + 1), hs ++ [.lst (xs.map D.int)] ++ [.lst ((srtM xs).map D.int)]) := by
    rw [mCall_of (mCons_of h (show mNil ρ (hs ++ [.lst (xs.map D.int)]) = some ([], _) from rfl))]
    unfold sortL
    simp only
    rw [at?_last]
    simp only
    rw [intsOf_map]
    simp
  have c2 : mCall tupL (mCons (mCall sortL (mCons f mNil)) mNil) ρ hs = some (tI (srtM xs), hs ++ [.lst (xs.map D.int)] ++ [.lst ((srtM xs).map D.int)]) := by
    rw [mCall_of (mCons_of c1 (show mNil ρ _ = some ([], _) from rfl))]
    unfold tupL
    simp only
    rw [show at? (hs ++ [O.lst (xs.map D.int)] ++ [O.lst ((srtM xs).map D.int)]) (hs.length + 1) = some (.lst ((srtM xs).map D.int)) from by
      rw [at?_eq]
      simp]
    rfl
  unfold mQ
  rw [c2]
  simp only
  rw [shal_tI _ 11]
theorem q9 {mv tr : List Int} (hn : ev n) (hl : mv.length < 100) (R S T : D) (L : List D) : m9_law (rho8 n R S T a (tI mv) (tI tr) (tI (srtM (mv.map fun k => ((n : Int) - k) % n))) (tI tr)) [.lst L] =
    some (.nx (rho8 n R S T a (tI mv) (tI tr) (tI (srtM (mv.map fun k => ((n : Int) - k) % n))) (tI tr)) [.lst L]) := by
  have n0 : (0 : Int) < n := by rcases hn with rfl | rfl | rfl | rfl <;> omega
  generalize hρ : rho8 n R S T a (tI mv) (tI tr) (tI (srtM (mv.map fun k => ((n : Int) - k) % n))) (tI tr) = ρ
  have t1 : mTest (mBin (notF eqD) (mVar 12) (mVar 10)) ρ [.lst L] = some (false, [.lst L]) := mTest_of (by
    rw [mBin_of (show mVar 12 ρ [.lst L] = some (tI tr, [.lst L]) from by subst hρ; rfl) (show mVar 10 ρ [.lst L] = some (tI tr, [.lst L]) from by subst hρ; rfl)]
    unfold notF
    rw [eqD_tI, eqLI_refl]
    rfl)
  have l1 := mLc_map (s := mSeqW (mVar 9)) (g := setN 5) (f := mBin modD (mBin subD (mVar 2) (mVar 5)) (mVar 2)) (vs := [5]) (ρ := ρ) (hs := [.lst L]) (xs := mv) (φ := fun k => .int (((n : Int) - k) % n)) (by subst hρ; rfl) (by omega) fun x hx => ⟨_, rfl, by
    subst hρ
    exact (mBin_of (show mBin subD (mVar 2) (mVar 5) _ [.lst L] = some (.int ((n : Int) - x), [.lst L]) from rfl) (show mVar 2 _ [.lst L] = some (.int n, [.lst L]) from rfl)).trans (modD_pos n0)⟩
  have l2 := srtL_tI (mv.map fun k => ((n : Int) - k) % n) [.lst L] _ ρ (l1.trans (by rw [List.map_map]; rfl))
  have t2 := mTest_of (f := mBin (notF eqD) (mVar 11) _) (b := false) ((mBin_of (show mVar 11 ρ [.lst L] = some (tI (srtM (mv.map fun k => ((n : Int) - k) % n)), [.lst L]) from by subst hρ; rfl) l2).trans (show notF eqD _ _ [.lst L] = some (.bl false, [.lst L]) from by
    unfold notF
    rw [eqD_tI, eqLI_refl]
    rfl))
  have t : t9_law ρ [.lst L] = some (false, [.lst L]) := by
    unfold t9_law mQB
    rw [show mOrB _ _ ρ [.lst L] = some (false, [.lst L]) from (mOrB_f t1).trans t2]
  unfold m9_law
  rw [mIfS_f t]
  rfl
theorem q10 {A : List Int} (hA : A.length = 20) (hn : ev n) (p : r.Perm (ixs n)) (G : Good n (srtM (r.take (hv n))) (srtM (r.drop (hv n))) a) (S T tr b c : D) :
    m10_law (rho8 n (tI r) S T a (tI (mvN n (srtM (r.take (hv n))) (srtM (r.drop (hv n))))) tr b c) [.lst (iL A)] = some (.nx (rho8 n (tI r) S T a (tI (mvN n (srtM (r.take (hv n))) (srtM (r.drop (hv n))))) tr b c) [.lst (iL A)]) := by
  generalize hρ : rho8 n (tI r) S T a (tI (mvN n (srtM (r.take (hv n))) (srtM (r.drop (hv n))))) tr b c = ρ
  have e1 : mBin ixF (mVar 1) (mC (.int 10)) ρ [.lst (iL A)] = some (.int (gA A 10), [.lst (iL A)]) := by
    subst hρ
    show (match getL (iL A) 10 with
      | some x => some (x, [O.lst (iL A)])
      | none => none) = _
    rw [getL_iL (by omega) (by omega)]
  have pm := moved_perm hn p (gA A 10)
  obtain ⟨a', G'⟩ := row_good hn pm
  have hf := half_ok hn pm G'
  rw [moved_mv hn p (gA A 10) G] at hf
  have c0 : F_moved_row [tI r, .int (gA A 10)] [.lst (iL A)] = _ := fp_at (moved_ok hn p) (shal_tI _ 11) [.lst (iL A)]
  have c1 := (mCall_of (F := F_moved_row) (mCons_of (show mVar 4 ρ [.lst (iL A)] = some (tI r, [.lst (iL A)]) from by subst hρ; rfl) (mCons_of e1 (show mNil ρ [.lst (iL A)] = some ([], [.lst (iL A)]) from rfl)))).trans c0
  have c2 : F_halves_that_fit [tI (r.map fun x => (x + gA A 10) % (n : Int))] [.lst (iL A)] = _ := fp_at hf (sh2 _ _) [.lst (iL A)]
  have c3 := (mCall_of (F := F_halves_that_fit) (mCons_of c1 (show mNil ρ [.lst (iL A)] = some ([], [.lst (iL A)]) from rfl))).trans c2
  have c4 : mBin ixF (mCall F_halves_that_fit (mCons (mCall F_moved_row (mCons (mVar 4) (mCons (mBin ixF (mVar 1) (mC (.int 10))) mNil))) mNil)) (mC (.int 0)) ρ [.lst (iL A)] = some (tI (mvN n (srtM (r.take (hv n))) (srtM (r.drop (hv n)))), [.lst (iL A)]) :=
    (mBin_of c3 (show mC (.int 0) ρ [.lst (iL A)] = some (.int 0, [.lst (iL A)]) from rfl)).trans rfl
  have t : t10_law ρ [.lst (iL A)] = some (false, [.lst (iL A)]) := by
    refine mTest_of ?_
    rw [mBin_of c4 (show mVar 9 ρ [.lst (iL A)] = some (tI (mvN n (srtM (r.take (hv n))) (srtM (r.drop (hv n)))), [.lst (iL A)]) from by subst hρ; rfl)]
    unfold notF
    rw [eqD_tI, eqLI_refl]
    rfl
  unfold m10_law
  rw [mIfS_f t]
  rfl
end

def rhoW (w : Int) : En := [none, some (.ref 0), none, none, none, none, none, none, none, none, none, none, none, some (.int w), none, none, none, none]
def rhoX (w : Int) : En := [none, some (.ref 0), none, none, none, none, none, none, none, none, none, none, none, some (.int w), some (.ref 1), none, none, none]
def rho13 (w s : Int) : En := [none, none, none, none, none, none, none, none, none, none, none, none, none, some (.int w), none, some (.int s), none, none]
def okW (w : Int) (d : D) : Bool := match d with
  | .int s => isT (m13_law (rho13 w s) [])
  | _ => false
theorem okW_ex {w : Int} {d : D} (h : okW w d = true) : ∃ s, d = .int s ∧ isT (m13_law (rho13 w s) []) = true := by
  unfold okW at h
  split at h
  · exact ⟨_, rfl, h⟩
  · cases h
def lc14 : EM := (mLc (mRng2 (mCons (mC (.int 1)) (mCons (mBin addD (mVar 13) (mC (.int 1))) mNil))) (setN 5) (mTest (mBin eqD (mBin modD (mVar 13) (mVar 5)) (mC (.int 0)))) (mVar 5) [5])
theorem all_c {f : D → Bool} {d : D} {l : List D} (h : f d = true) (r : l.all f = true) : (d :: l).all f = true := by
  rw [List.all_cons, h, r]
  rfl
theorem q12 {w s x : Int} {szs L : List D} {n : Nat} (e1 : lc14 (rhoW w) [.lst L] = some (.ref 1, [.lst L, .lst szs])) (hn : szs.length = n + 1) (hx : getL L 12 = some (.int x)) (hg : getL szs (x % (n + 1 : Nat)) = some (.int s)) :
    purR [13, 15] (m12_law (rhoW w) [.lst L]) = some (.nx (rho13 w s) []) := by
  have i1 : mBin ixF (mVar 1) (mC (.int 12)) (rhoX w) [.lst L, .lst szs] = some (.int x, [.lst L, .lst szs]) := by
    show (match getL L 12 with
      | some x0 => some (x0, [O.lst L, O.lst szs])
      | none => none) = _
    rw [hx]
  have i2 : mCall lenL (mCons (mVar 14) mNil) (rhoX w) [.lst L, .lst szs] = some (.int (n + 1 : Nat), [.lst L, .lst szs]) := by
    rw [← hn]
    rfl
  have i3 := (mBin_of (op := modD) i1 i2).trans (modD_pos (by omega))
  have i4 : mBin ixF (mVar 14) (mBin modD (mBin ixF (mVar 1) (mC (.int 12))) (mCall lenL (mCons (mVar 14) mNil))) (rhoX w) [.lst L, .lst szs] = some (.int s, [.lst L, .lst szs]) := by
    rw [mBin_of (show mVar 14 (rhoX w) [.lst L, .lst szs] = some (.ref 1, _) from rfl) i3]
    show (match getL szs (x % (n + 1 : Nat)) with
      | some x0 => some (x0, [O.lst L, O.lst szs])
      | none => none) = _
    rw [hg]
  have e : m12_law (rhoW w) [.lst L] = _ := (mSeq_nx (mSet_of e1)).trans (mSet_of i4)
  rw [e]
  rfl

theorem gw1_1 : okW 1 (.int 1) = true := by decide +kernel
def szs1 : List D := [.int 1]
theorem gw1 : szs1.all (okW 1) = true := all_c gw1_1 (rfl)
theorem ge1 : ∀ L : List D, lc14 (rhoW 1) [.lst L] = some (.ref 1, [.lst L, .lst szs1]) := by intro L; kernel_rfl
theorem gw2_1 : okW 2 (.int 1) = true := by decide +kernel
theorem gw2_2 : okW 2 (.int 2) = true := by decide +kernel
def szs2 : List D := [.int 1, .int 2]
theorem gw2 : szs2.all (okW 2) = true := all_c gw2_1 (all_c gw2_2 (rfl))
theorem ge2 : ∀ L : List D, lc14 (rhoW 2) [.lst L] = some (.ref 1, [.lst L, .lst szs2]) := by intro L; kernel_rfl
theorem gw3_1 : okW 3 (.int 1) = true := by decide +kernel
theorem gw3_3 : okW 3 (.int 3) = true := by decide +kernel
def szs3 : List D := [.int 1, .int 3]
theorem gw3 : szs3.all (okW 3) = true := all_c gw3_1 (all_c gw3_3 (rfl))
theorem ge3 : ∀ L : List D, lc14 (rhoW 3) [.lst L] = some (.ref 1, [.lst L, .lst szs3]) := by intro L; kernel_rfl
theorem gw4_1 : okW 4 (.int 1) = true := by decide +kernel
theorem gw4_2 : okW 4 (.int 2) = true := by decide +kernel
theorem gw4_4 : okW 4 (.int 4) = true := by decide +kernel
def szs4 : List D := [.int 1, .int 2, .int 4]
theorem gw4 : szs4.all (okW 4) = true := all_c gw4_1 (all_c gw4_2 (all_c gw4_4 (rfl)))
theorem ge4 : ∀ L : List D, lc14 (rhoW 4) [.lst L] = some (.ref 1, [.lst L, .lst szs4]) := by intro L; kernel_rfl
theorem gw5_1 : okW 5 (.int 1) = true := by decide +kernel
theorem gw5_5 : okW 5 (.int 5) = true := by decide +kernel
def szs5 : List D := [.int 1, .int 5]
theorem gw5 : szs5.all (okW 5) = true := all_c gw5_1 (all_c gw5_5 (rfl))
theorem ge5 : ∀ L : List D, lc14 (rhoW 5) [.lst L] = some (.ref 1, [.lst L, .lst szs5]) := by intro L; kernel_rfl
theorem gw6_1 : okW 6 (.int 1) = true := by decide +kernel
theorem gw6_2 : okW 6 (.int 2) = true := by decide +kernel
theorem gw6_3 : okW 6 (.int 3) = true := by decide +kernel
theorem gw6_6 : okW 6 (.int 6) = true := by decide +kernel
def szs6 : List D := [.int 1, .int 2, .int 3, .int 6]
theorem gw6 : szs6.all (okW 6) = true := all_c gw6_1 (all_c gw6_2 (all_c gw6_3 (all_c gw6_6 (rfl))))
theorem ge6 : ∀ L : List D, lc14 (rhoW 6) [.lst L] = some (.ref 1, [.lst L, .lst szs6]) := by intro L; kernel_rfl
theorem gw7_1 : okW 7 (.int 1) = true := by decide +kernel
theorem gw7_7 : okW 7 (.int 7) = true := by decide +kernel
def szs7 : List D := [.int 1, .int 7]
theorem gw7 : szs7.all (okW 7) = true := all_c gw7_1 (all_c gw7_7 (rfl))
theorem ge7 : ∀ L : List D, lc14 (rhoW 7) [.lst L] = some (.ref 1, [.lst L, .lst szs7]) := by intro L; kernel_rfl
theorem gw8_1 : okW 8 (.int 1) = true := by decide +kernel
theorem gw8_2 : okW 8 (.int 2) = true := by decide +kernel
theorem gw8_4 : okW 8 (.int 4) = true := by decide +kernel
theorem gw8_8 : okW 8 (.int 8) = true := by decide +kernel
def szs8 : List D := [.int 1, .int 2, .int 4, .int 8]
theorem gw8 : szs8.all (okW 8) = true := all_c gw8_1 (all_c gw8_2 (all_c gw8_4 (all_c gw8_8 (rfl))))
theorem ge8 : ∀ L : List D, lc14 (rhoW 8) [.lst L] = some (.ref 1, [.lst L, .lst szs8]) := by intro L; kernel_rfl
theorem gw9_1 : okW 9 (.int 1) = true := by decide +kernel
theorem gw9_3 : okW 9 (.int 3) = true := by decide +kernel
theorem gw9_9 : okW 9 (.int 9) = true := by decide +kernel
def szs9 : List D := [.int 1, .int 3, .int 9]
theorem gw9 : szs9.all (okW 9) = true := all_c gw9_1 (all_c gw9_3 (all_c gw9_9 (rfl)))
theorem ge9 : ∀ L : List D, lc14 (rhoW 9) [.lst L] = some (.ref 1, [.lst L, .lst szs9]) := by intro L; kernel_rfl
theorem gw10_1 : okW 10 (.int 1) = true := by decide +kernel
theorem gw10_2 : okW 10 (.int 2) = true := by decide +kernel
theorem gw10_5 : okW 10 (.int 5) = true := by decide +kernel
theorem gw10_10 : okW 10 (.int 10) = true := by decide +kernel
def szs10 : List D := [.int 1, .int 2, .int 5, .int 10]
theorem gw10 : szs10.all (okW 10) = true := all_c gw10_1 (all_c gw10_2 (all_c gw10_5 (all_c gw10_10 (rfl))))
theorem ge10 : ∀ L : List D, lc14 (rhoW 10) [.lst L] = some (.ref 1, [.lst L, .lst szs10]) := by intro L; kernel_rfl
theorem gw11_1 : okW 11 (.int 1) = true := by decide +kernel
theorem gw11_11 : okW 11 (.int 11) = true := by decide +kernel
def szs11 : List D := [.int 1, .int 11]
theorem gw11 : szs11.all (okW 11) = true := all_c gw11_1 (all_c gw11_11 (rfl))
theorem ge11 : ∀ L : List D, lc14 (rhoW 11) [.lst L] = some (.ref 1, [.lst L, .lst szs11]) := by intro L; kernel_rfl
theorem gw12_1 : okW 12 (.int 1) = true := by decide +kernel
theorem gw12_2 : okW 12 (.int 2) = true := by decide +kernel
theorem gw12_3 : okW 12 (.int 3) = true := by decide +kernel
theorem gw12_4 : okW 12 (.int 4) = true := by decide +kernel
theorem gw12_6 : okW 12 (.int 6) = true := by decide +kernel
theorem gw12_12 : okW 12 (.int 12) = true := by decide +kernel
def szs12 : List D := [.int 1, .int 2, .int 3, .int 4, .int 6, .int 12]
theorem gw12 : szs12.all (okW 12) = true := all_c gw12_1 (all_c gw12_2 (all_c gw12_3 (all_c gw12_4 (all_c gw12_6 (all_c gw12_12 (rfl))))))
theorem ge12 : ∀ L : List D, lc14 (rhoW 12) [.lst L] = some (.ref 1, [.lst L, .lst szs12]) := by intro L; kernel_rfl
theorem gw13_1 : okW 13 (.int 1) = true := by decide +kernel
theorem gw13_13 : okW 13 (.int 13) = true := by decide +kernel
def szs13 : List D := [.int 1, .int 13]
theorem gw13 : szs13.all (okW 13) = true := all_c gw13_1 (all_c gw13_13 (rfl))
theorem ge13 : ∀ L : List D, lc14 (rhoW 13) [.lst L] = some (.ref 1, [.lst L, .lst szs13]) := by intro L; kernel_rfl
theorem gw14_1 : okW 14 (.int 1) = true := by decide +kernel
theorem gw14_2 : okW 14 (.int 2) = true := by decide +kernel
theorem gw14_7 : okW 14 (.int 7) = true := by decide +kernel
theorem gw14_14 : okW 14 (.int 14) = true := by decide +kernel
def szs14 : List D := [.int 1, .int 2, .int 7, .int 14]
theorem gw14 : szs14.all (okW 14) = true := all_c gw14_1 (all_c gw14_2 (all_c gw14_7 (all_c gw14_14 (rfl))))
theorem ge14 : ∀ L : List D, lc14 (rhoW 14) [.lst L] = some (.ref 1, [.lst L, .lst szs14]) := by intro L; kernel_rfl
theorem gw15_1 : okW 15 (.int 1) = true := by decide +kernel
theorem gw15_3 : okW 15 (.int 3) = true := by decide +kernel
theorem gw15_5 : okW 15 (.int 5) = true := by decide +kernel
theorem gw15_15 : okW 15 (.int 15) = true := by decide +kernel
def szs15 : List D := [.int 1, .int 3, .int 5, .int 15]
theorem gw15 : szs15.all (okW 15) = true := all_c gw15_1 (all_c gw15_3 (all_c gw15_5 (all_c gw15_15 (rfl))))
theorem ge15 : ∀ L : List D, lc14 (rhoW 15) [.lst L] = some (.ref 1, [.lst L, .lst szs15]) := by intro L; kernel_rfl
theorem gw16_1 : okW 16 (.int 1) = true := by decide +kernel
theorem gw16_2 : okW 16 (.int 2) = true := by decide +kernel
theorem gw16_4 : okW 16 (.int 4) = true := by decide +kernel
theorem gw16_8 : okW 16 (.int 8) = true := by decide +kernel
theorem gw16_16 : okW 16 (.int 16) = true := by decide +kernel
def szs16 : List D := [.int 1, .int 2, .int 4, .int 8, .int 16]
theorem gw16 : szs16.all (okW 16) = true := all_c gw16_1 (all_c gw16_2 (all_c gw16_4 (all_c gw16_8 (all_c gw16_16 (rfl)))))
theorem ge16 : ∀ L : List D, lc14 (rhoW 16) [.lst L] = some (.ref 1, [.lst L, .lst szs16]) := by intro L; kernel_rfl

theorem filR_len {b : Int → Bool} : ∀ (n : Nat) (lo : Int), (filR b lo n).length ≤ n
  | 0, _ => Nat.le_refl _
  | n + 1, lo => by
    unfold filR
    have := filR_len (b := b) n (lo + 1)
    split
    · rw [List.length_cons]; omega
    · omega
theorem mv_short {n : Nat} (hn : ev n) (S T : List Int) : (mvN n S T).length < 100 := by
  unfold mvN
  have := filR_len (b := fun k => eqLI (srtM (S.map fun x => (x + k) % (n : Int))) T) (n : Int).toNat 0
  rcases hn with rfl | rfl | rfl | rfl <;> omega

theorem end_law {K : PySem.W.Frag} {W : Ends} {σ : L2.St} {H : Hp} {b0 : Addr} {A : List Int} {w : Int} {szs : List D} (hA : A.length = 20) (e1 : ∀ L : List D, lc14 (rhoW w) [.lst L] = some (.ref 1, [.lst L, .lst szs])) (hne : szs ≠ []) (hok : szs.all (okW w) = true)
    (hr : HR ⟨K, tbs tf K⟩ [b0] [.lst (iL A)] H) (sl : SL ⟨K, tbs tf K⟩ H [b0] (rhoW w) σ) (hw : ∀ H', W.rt (.bl true) H') :
    (TSK ⟨K, tbs tf K⟩ m12_law (TSM ⟨K, tbs tf K⟩ m13_law)) W σ H := by
  obtain ⟨n, hn⟩ : ∃ n, szs.length = n + 1 := ⟨szs.length - 1, by
    have : szs.length ≠ 0 := fun z => hne (List.length_eq_zero_iff.mp z)
    omega⟩
  obtain ⟨d, hd, e⟩ := getL_ex (ds := szs) (i := gA A 12 % ((n + 1 : Nat) : Int)) (Int.emod_nonneg _ (by omega)) (by rw [hn]; exact Int.emod_lt_of_pos _ (by omega))
  obtain ⟨s, rfl, h⟩ := okW_ex (List.all_eq_true.mp hok _ hd)
  refine step_pur hr sl (q12 (e1 _) hn (getL_iL (by omega) (by omega)) e) fun σ1 H1 hr1 sl1 => ?_
  obtain ⟨hs9, e9⟩ := isT_ex h
  exact step_ret hr1 sl1 e9 hw
theorem tail_law {K : PySem.W.Frag} {W : Ends} {σ : L2.St} {H : Hp} {b0 : Addr} {n : Nat} {A : List Int} (ha : A.length = 20) (hn : ev n)
    (hr : HR ⟨K, tbs tf K⟩ [b0] [.lst (iL A)] H) (sl : SL ⟨K, tbs tf K⟩ H [b0] (rho1 n) σ) (hw : ∀ H', W.rt (.bl true) H') :
    (TSK ⟨K, tbs tf K⟩ m2_law (TSK ⟨K, tbs tf K⟩ m3_law (TSK ⟨K, tbs tf K⟩ m4_law (TSK ⟨K, tbs tf K⟩ m5_law (TSK ⟨K, tbs tf K⟩ m6_law (TSK ⟨K, tbs tf K⟩ m7_law (TSK ⟨K, tbs tf K⟩ m8_law (TSK ⟨K, tbs tf K⟩ m9_law (TSK ⟨K, tbs tf K⟩ m10_law (TSK ⟨K, tbs tf K⟩ m11_law (TSK ⟨K, tbs tf K⟩ m12_law (TSM ⟨K, tbs tf K⟩ m13_law)))))))))))) W σ H := by
  have sL : allL (shal 12) (iL A) = true := shal_ints A
  obtain ⟨v, r, p, e2⟩ := q2 (a := A) ha hn
  refine step_nx hr sl e2 fun σ2 H2 m2 hr2 sl2 => ?_
  refine step_one (ρ1 := rho1 n) hr2 sl2 (q3 (n := n) (a := A) (r := r) (v := v)) rfl sL (by
    show (match pur (tI r) with
      | true => true
      | false => false) = true
    rw [pur_tI]) fun σ3 H3 b3 hr3 sl3 => ?_
  refine step_nx hr3 sl3 (q4 hn p _) fun σ4 H4 m4 hr4 sl4 => ?_
  obtain ⟨a, G⟩ := row_good hn p
  refine step_keep hr4 sl4 (G.g5 _ _) fun σ5 H5 m5 hr5 sl5 => ?_
  refine step_nx hr5 sl5 (q6 hn p G _ _ _) fun σ6 H6 m6 hr6 sl6 => ?_
  refine step_nx hr6 sl6 (q7 G _ _ _ _) fun σ7 H7 m7 hr7 sl7 => ?_
  refine step_nx hr7 sl7 (q8 hn p G _ _ _ _ _) fun σ8 H8 m8 hr8 sl8 => ?_
  refine step_nx hr8 sl8 (q9 hn (mv_short hn _ _) _ _ _ _) fun σ9 H9 m9 hr9 sl9 => ?_
  refine step_keep (vs := [1]) (ρ' := rhoN 16) (hs' := [.lst (iL A)]) hr9 sl9 (by rw [q10 ha hn p G]; rfl) fun σ10 H10 m10 hr10 sl10 => ?_
  have e1 : mBin ixF (mVar 1) (mC (.int 11)) (rhoN 16) [.lst (iL A)] = some (.int (gA A 11), [.lst (iL A)]) := by
    show (match getL (iL A) 11 with
      | some x => some (x, [O.lst (iL A)])
      | none => none) = _
    rw [getL_iL (by omega) (by omega)]
  have e2 : m11_law (rhoN 16) [.lst (iL A)] = some (.nx (rhoW (gA A 11 % 16 + 1)) [.lst (iL A)]) := by
    unfold m11_law
    rw [mSet_of ((mBin_of ((mBin_of e1 (show mC (.int 16) (rhoN 16) [.lst (iL A)] = some (.int 16, [.lst (iL A)]) from rfl)).trans (modD_pos (by omega))) (show mC (.int 1) (rhoN 16) [.lst (iL A)] = some (.int 1, [.lst (iL A)]) from rfl)).trans (show addD (.int (gA A 11 % 16)) (.int 1) [.lst (iL A)] = some (.int (gA A 11 % 16 + 1), [.lst (iL A)]) from rfl))]
    rfl
  refine step_one (ρ1 := rhoN 16) (vs := [1, 13]) (ρ' := rhoW (gA A 11 % 16 + 1)) (hs1 := [.lst (iL A)]) hr10 sl10 (by rw [e2]; rfl) rfl sL rfl fun σ11 H11 b11 hr11 sl11 => ?_
  have h : gA A 11 % 16 + 1 = 1 ∨ gA A 11 % 16 + 1 = 2 ∨ gA A 11 % 16 + 1 = 3 ∨ gA A 11 % 16 + 1 = 4 ∨ gA A 11 % 16 + 1 = 5 ∨ gA A 11 % 16 + 1 = 6 ∨ gA A 11 % 16 + 1 = 7 ∨ gA A 11 % 16 + 1 = 8 ∨ gA A 11 % 16 + 1 = 9 ∨ gA A 11 % 16 + 1 = 10 ∨ gA A 11 % 16 + 1 = 11 ∨ gA A 11 % 16 + 1 = 12 ∨ gA A 11 % 16 + 1 = 13 ∨ gA A 11 % 16 + 1 = 14 ∨ gA A 11 % 16 + 1 = 15 ∨ gA A 11 % 16 + 1 = 16 := by omega
  rcases h with h | h | h | h | h | h | h | h | h | h | h | h | h | h | h | h <;> rw [h] at sl11
  · exact end_law ha ge1 (List.cons_ne_nil _ _) gw1 hr11 sl11 hw
  · exact end_law ha ge2 (List.cons_ne_nil _ _) gw2 hr11 sl11 hw
  · exact end_law ha ge3 (List.cons_ne_nil _ _) gw3 hr11 sl11 hw
  · exact end_law ha ge4 (List.cons_ne_nil _ _) gw4 hr11 sl11 hw
  · exact end_law ha ge5 (List.cons_ne_nil _ _) gw5 hr11 sl11 hw
  · exact end_law ha ge6 (List.cons_ne_nil _ _) gw6 hr11 sl11 hw
  · exact end_law ha ge7 (List.cons_ne_nil _ _) gw7 hr11 sl11 hw
  · exact end_law ha ge8 (List.cons_ne_nil _ _) gw8 hr11 sl11 hw
  · exact end_law ha ge9 (List.cons_ne_nil _ _) gw9 hr11 sl11 hw
  · exact end_law ha ge10 (List.cons_ne_nil _ _) gw10 hr11 sl11 hw
  · exact end_law ha ge11 (List.cons_ne_nil _ _) gw11 hr11 sl11 hw
  · exact end_law ha ge12 (List.cons_ne_nil _ _) gw12 hr11 sl11 hw
  · exact end_law ha ge13 (List.cons_ne_nil _ _) gw13 hr11 sl11 hw
  · exact end_law ha ge14 (List.cons_ne_nil _ _) gw14 hr11 sl11 hw
  · exact end_law ha ge15 (List.cons_ne_nil _ _) gw15 hr11 sl11 hw
  · exact end_law ha ge16 (List.cons_ne_nil _ _) gw16 hr11 sl11 hw

theorem pure_law {K : PySem.W.Frag} (W : Ends) (σ : L2.St) (H : Hp) (d : D) (hs : Hs) (m : List Addr) (ns : List Int) (hL : Lies d hs ns) (_ : ns.length ≤ 63) (hb : ∀ z ∈ ns, Builtin.Int.intBits z ≤ 1048576) (hr : HR ⟨K, tbs tf K⟩ m hs H) (sl : SL ⟨K, tbs tf K⟩ H m (some d :: List.replicate (len_law - 1) none) σ) (hw : ∀ H', W.rt (.bl true) H') :
    (TSK ⟨K, tbs tf K⟩ m0_law (TSK ⟨K, tbs tf K⟩ m1_law (TSK ⟨K, tbs tf K⟩ m2_law (TSK ⟨K, tbs tf K⟩ m3_law (TSK ⟨K, tbs tf K⟩ m4_law (TSK ⟨K, tbs tf K⟩ m5_law (TSK ⟨K, tbs tf K⟩ m6_law (TSK ⟨K, tbs tf K⟩ m7_law (TSK ⟨K, tbs tf K⟩ m8_law (TSK ⟨K, tbs tf K⟩ m9_law (TSK ⟨K, tbs tf K⟩ m10_law (TSK ⟨K, tbs tf K⟩ m11_law (TSK ⟨K, tbs tf K⟩ m12_law (TSM ⟨K, tbs tf K⟩ m13_law)))))))))))))) W σ H := by
  refine law_step0 (count := 20) (j := 16) hL hb hr sl (by decide) fun a σ1 H1 b1 ha hr1 sl1 => ?_
  obtain ⟨x, hx⟩ : ∃ x, x = gA a 0 := ⟨_, rfl⟩
  have e1 : mBin ixF (mVar 1) (mC (.int 0)) (rhoN 16) [.lst (iL a)] = some (.int x, [.lst (iL a)]) := by
    show (match getL (iL a) 0 with
      | some x => some (x, [O.lst (iL a)])
      | none => none) = _
    rw [getL_iL (by omega) (by omega), hx]
  have e2 := (mBin_of (op := modD) e1 (show mC (.int 4) (rhoN 16) [.lst (iL a)] = some (.int 4, [.lst (iL a)]) from rfl)).trans (modD_pos (by omega))
  have e3 : ∃ n : Nat, ev n ∧ m1_law (rhoN 16) [.lst (iL a)] = some (.nx (rho1 n) [.lst (iL a)]) := by
    have h : x % 4 = 0 ∨ x % 4 = 1 ∨ x % 4 = 2 ∨ x % 4 = 3 := by omega
    have e4 : ∀ i, m1_law (rhoN 16) [.lst (iL a)] = mSet 2 (fun ρ hs => ixF (.tup [.int 2, .int 4, .int 6, .int 8]) i hs) (rhoN 16) [.lst (iL a)] ∨ i ≠ .int (x % 4) := fun i => by
      by_cases z : i = .int (x % 4)
      · subst z
        refine .inl ?_
        unfold m1_law mSet
        rw [mBin_of (show mTup (mCons (mC (.int 2)) (mCons (mC (.int 4)) (mCons (mC (.int 6)) (mCons (mC (.int 8)) mNil)))) (rhoN 16) [.lst (iL a)] = some (.tup [.int 2, .int 4, .int 6, .int 8], [.lst (iL a)]) from rfl) e2]
      · exact .inr z
    have e5 := (e4 (.int (x % 4))).resolve_right (by simp)
    rcases h with h | h | h | h <;> rw [h] at e5
    · exact ⟨2, by unfold ev; omega, e5⟩
    · exact ⟨4, by unfold ev; omega, e5⟩
    · exact ⟨6, by unfold ev; omega, e5⟩
    · exact ⟨8, by unfold ev; omega, e5⟩
  obtain ⟨n, hn, e4⟩ := e3
  refine step_one (ρ1 := rhoN 16) (vs := [1, 2]) (ρ' := rho1 n) (hs1 := [.lst (iL a)]) hr1 sl1 (by rw [e4]; rfl) rfl (shal_ints a) rfl fun σ2 H2 b2 hr2 sl2 => ?_
  exact tail_law ha hn hr2 sl2 hw

abbrev hk : PySem.W.Hook := He.hookX 4 fa fn [] tf.all (exL tf)
def ob (s : PySem.W.SharedT) : He.AlX := He.obsX 4 fa fn [] tf.all (exL tf) (HandSHeadRun.getT s)
theorem ob_eq (s : PySem.W.SharedT) : ob s = hk.obs s.abs := He.obsX_eq (HandSHeadRun.getT_eq s)
theorem run (w : World) : HandSHeadRun.RunEq R (PySem.W.view R.prog [49]) hk ob 6000 nms w := by
  intro os
  kernel_rfl
/-- the law keeps its promise -/
theorem okd_law {P : Program} {w : World} {K : PySem.W.Frag} {mg : Str → Option Value} {base h : Heap} {fd : FuncData} (T : Tp fa fn tf w K mg base h) (FD : FunD K "law" "law" (defArgs st_law) (defBody st_law) (defScope st_law) [] [] (He.fAd K ("law", none)) fd) :
    FnOk P w K mg base CX0 7 (He.fAd K ("law", none)) fd ["script"] (spLaw ⟨K, tbs tf K⟩) :=
  fun_okL (k := 6) (j := len_law - 1) FD sc_law rfl (fun A outer s H E hr => pss_law T A outer s H E hr) pure_law
end K_
open PySem PySem.W PySem.Calls PyProof.Rows
theorem PySem.Challenge.cw_tuneworks_k06_whole_halves_and_counts_holds : PySem.Challenge.rw_tuneworks_k06_whole_halves_and_counts.Holds := by
  w_on; o_law
  refine HandSHeadRun.head_any (r := K_.R) (q := view K_.R.prog [49]) (H := K_.hk) (ob := K_.ob) (M := 6000) (loose := K_.nms) (d := HandSHeadRun.topDef K_.R.prog 49) (kwd := []) K_.ob_eq
    (by kernel_rfl) (fun s => by kernel_rfl) K_.run (by kernel_rfl) (by kernel_rfl) (by kernel_rfl) (by rfl) (by first | assumption | decide +kernel) (by decide +kernel) ⟨rfl, rfl, rfl, rfl, rfl, by decide +kernel⟩ ?hw ?hc
  case hw => w_witness2
  case hc =>
    refine LamX.walk_ofTsE (l := PySem.Challenge.rw_tuneworks_k06_whole_halves_and_counts) (n := 63) (k := 7) (x := "script") (CX := fun _ => L2.CX0) rfl (by decide) (by kernel_rfl) ⟨rfl, by decide, by decide⟩ ?F (fun _ _ _ _ _ z => z)
    intro w mg fa h Y G hmg0
    obtain ⟨K, KX, c⟩ := Y
    have hmg : mg ("law" : PySem.Str) = some (.ref fa) := by
      have e : (HandSHeadRun.topDef K_.R.prog 49).name = ("law" : PySem.Str) := by kernel_rfl
      rw [← e]
      exact hmg0
    exact ⟨K, KX, Mir.law_at KX G hmg c 37 37 rfl rfl (fun _ _ _ _ _ _ us hl => match us, hl with | [_], _ => rfl) fun base fd T FD => K_.okd_law T FD⟩
