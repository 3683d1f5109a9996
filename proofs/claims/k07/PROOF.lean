import PyProof.Rows.All
import HandS.ForMost
import HandS.Deep
import HandS.TupAny
import HandS.Flow
import HandS.EndTab
import HandS.EndOwn
import HandS.WideBits
import HandS.Wide
import HandS.Style
import HandS.TupLen
import HandS.Rev
import HandS.RevRange
import HandS.AnyAll
import HandS.GenList
import HandS.IsInst
import HandS.Defaults
import HandS.HeadHook4
import HandS.DictComp
import HandS.Dict
import KE.DataMinMax
import KE.KIndexOf
import KE.KDictPairs
import HandS.HeadHook3
import HandS.Head0
import HandS.Head1
import HandS.Head2
import HandS.HeadEnd
import HandS.HeadWalk
import HandS.HeadHook1
import HandS.HeadHook2
import PySem.Challenge.RW_tuneworks_k07_whole_hockets_and_rings
set_option Elab.async false
set_option linter.all false
set_option maxRecDepth 100000
set_option maxHeartbeats 0
/-! MirA: data of a mirror, how it lies in the abstract heap, what a step may change. -/
namespace Mir
open PySem PySem.Spec PyProof.Rows L2

/-- a value of the mirror: tuples by value, lists and dicts by their place in the mirror's heap; fro: a list that is only read; tuf: a tuple whose object is known -/
inductive D where
  | non | bl (b : Bool) | int (i : Int) | str (s : Str) | tup (ds : List D) | ref (n : Nat) | fro (ds : List D) | tuf (ds : List D)
inductive O where
  | lst (ds : List D) | dK (kvs : List (D × D)) | dT (kvs : List (D × D))
abbrev Hs := List O
abbrev En := List (Option D)

def at? {α : Type} : List α → Nat → Option α
  | [], _ => none
  | x :: _, 0 => some x
  | _ :: r, n + 1 => at? r n
theorem at?_eq {α : Type} : ∀ (l : List α) (n : Nat), at? l n = l[n]?
  | [], _ => by simp [at?]
  | _ :: _, 0 => by simp [at?]
  | _ :: r, n + 1 => by simp [at?, at?_eq r n]
def put {α : Type} : List α → Nat → α → List α
  | [], _, _ => []
  | _ :: r, 0, y => y :: r
  | x :: r, n + 1, y => x :: put r n y
theorem put_eq {α : Type} : ∀ (l : List α) (n : Nat) (y : α), put l n y = l.set n y
  | [], _, _ => by simp [put]
  | _ :: _, 0, _ => by simp [put]
  | _ :: r, n + 1, y => by simp [put, put_eq r n y]

/-- what is known of the module, and the tables of code objects that are tracked -/
structure GX where
  K : PySem.W.Frag
  tb : List Addr

/-- a list that nobody writes -/
def FrL (K : PySem.W.Frag) (H : Hp) (a : Addr) (xs : List V) : Prop :=
  (∃ o, H a = some (.frz o (.lst xs))) ∨
    ∃ (o : Obj) (its : Array Value) (n : Nat), K.lookup a = some o ∧ o.cls = .type "list" ∧ o.dict = none ∧ o.data = .seq its n ∧ its.size ≤ sizeLine ∧ Vals xs its.toList
theorem FrL.sq {K : PySem.W.Frag} {H : Hp} {a : Addr} {xs : List V} (h : FrL K H a xs) : SqL K H a xs := by
  rcases h with h | h
  · exact .inl (.inr h)
  · exact .inr h

mutual
inductive Rep (K : PySem.W.Frag) (H : Hp) (m : List Addr) : D → V → Prop where
  | non : Rep K H m .non .non
  | bl (b : Bool) : Rep K H m (.bl b) (.bl b)
  | int (i : Int) : Rep K H m (.int i) (.int i)
  | str (s : Str) : Rep K H m (.str s) (.str s)
  | ref {n : Nat} {a : Addr} : m[n]? = some a → Rep K H m (.ref n) (.ref a)
  | tup {ds : List D} {a : Addr} {xs : List V} : SqT K H a xs → Reps K H m ds xs → Rep K H m (.tup ds) (.ref a)
  | fro {ds : List D} {a : Addr} {xs : List V} : FrL K H a xs → Reps K H m ds xs → Rep K H m (.fro ds) (.ref a)
  | tuf {ds : List D} {a : Addr} {xs : List V} {o : Obj} : H a = some (.frz o (.tup xs)) → o.dict = none → Reps K H m ds xs → Rep K H m (.tuf ds) (.ref a)
inductive Reps (K : PySem.W.Frag) (H : Hp) (m : List Addr) : List D → List V → Prop where
  | nil : Reps K H m [] []
  | cons {d : D} {v : V} {ds : List D} {vs : List V} : Rep K H m d v → Reps K H m ds vs → Reps K H m (d :: ds) (v :: vs)
end

/-- a key of a dict of ints and texts; of tuples of such -/
def keyD : Key → D
  | .inl i => .int i
  | .inr s => .str s
def RepO (K : PySem.W.Frag) (H : Hp) (m : List Addr) (a : Addr) : O → Prop
  | .lst ds => ∃ xs, H a = some (.lst xs) ∧ Reps K H m ds xs
  | .dK kvs => ∃ ks : List (Key × V), H a = some (.dK ks) ∧ kvs.map (·.1) = ks.map (fun p => keyD p.1) ∧ Reps K H m (kvs.map (·.2)) (ks.map (·.2))
  | .dT kvs => ∃ ks : List (List Key × V), H a = some (.dT ks) ∧ kvs.map (·.1) = ks.map (fun p => D.tup (p.1.map keyD)) ∧ Reps K H m (kvs.map (·.2)) (ks.map (·.2))

abbrev TabG (H : Hp) (P : Addr) : Prop := ∃ ps : Array Value, H P = some (.tbl ps) ∧ TriplesOk ps.toList

/-- the mirror's heap hs lies at the addresses m -/
structure HR (G : GX) (m : List Addr) (hs : Hs) (H : Hp) : Prop where
  len : m.length = hs.length
  nd : m.Nodup
  obj : ∀ (i : Nat) (a : Addr) (o : O), m[i]? = some a → hs[i]? = some o → RepO G.K H m a o
  tab : ∀ P ∈ G.tb, TabG H P

/-- what a step may change -/
structure Nx (m : List Addr) (H : Hp) (m' : List Addr) (H' : Hp) : Prop where
  pre : ∃ r, m' = m ++ r
  fresh : ∀ a ∈ m', a ∉ m → H a = none
  keep : ∀ a o, H a = some o → a ∉ m → (∀ ps, o ≠ .tbl ps) → H' a = some o
  there : ∀ a, H a ≠ none → H' a ≠ none

def SR (G : GX) (H : Hp) (m : List Addr) (ρ : En) (σ : L2.St) : Prop := ∀ (i : Nat) (d : D), ρ[i]? = some (some d) → ∃ v, σ[i]? = some (some v) ∧ Rep G.K H m d v

section
variable {G : GX} {K : PySem.W.Frag} {m m' m'' : List Addr} {hs hs' : Hs} {H H' H'' : Hp}
theorem HR.at (h : HR G m hs H) {a : Addr} (ha : a ∈ m) : ∃ (i : Nat) (o : O), m[i]? = some a ∧ hs[i]? = some o ∧ RepO G.K H m a o := by
  obtain ⟨i, hi, e⟩ := List.getElem_of_mem ha
  have hi2 : i < hs.length := by rw [← h.len]; exact hi
  have e1 : m[i]? = some a := by rw [List.getElem?_eq_getElem hi, e]
  exact ⟨i, hs[i], e1, List.getElem?_eq_getElem hi2, h.obj i a _ e1 (List.getElem?_eq_getElem hi2)⟩
theorem RepO.some {a : Addr} {o : O} (h : RepO K H m a o) : ∃ u, H a = some u ∧ (∀ xs, u ≠ .tup xs) ∧ (∀ ob w, u ≠ .frz ob w) ∧ (∀ ps, u ≠ .tbl ps) := by
  cases o with
  | lst ds => obtain ⟨xs, e, _⟩ := h; exact ⟨_, e, fun _ z => by (cases z), fun _ _ z => by (cases z), fun _ z => by (cases z)⟩
  | dK kvs => obtain ⟨xs, e, _⟩ := h; exact ⟨_, e, fun _ z => by (cases z), fun _ _ z => by (cases z), fun _ z => by (cases z)⟩
  | dT kvs => obtain ⟨xs, e, _⟩ := h; exact ⟨_, e, fun _ z => by (cases z), fun _ _ z => by (cases z), fun _ z => by (cases z)⟩
theorem HR.no_tup (h : HR G m hs H) {a : Addr} {xs : List V} (e : H a = Option.some (.tup xs)) : a ∉ m := fun ha => by
  obtain ⟨_, _, _, _, r⟩ := h.at ha
  obtain ⟨u, e', n, _⟩ := r.some
  rw [e] at e'; exact n xs (Option.some.inj e').symm
theorem HR.no_frz (h : HR G m hs H) {a : Addr} {ob : Obj} {u : HO} (e : H a = Option.some (.frz ob u)) : a ∉ m := fun ha => by
  obtain ⟨_, _, _, _, r⟩ := h.at ha
  obtain ⟨w, e', _, n, _⟩ := r.some
  rw [e] at e'; exact n ob u (Option.some.inj e').symm
theorem HR.no_none (h : HR G m hs H) {a : Addr} (e : H a = none) : a ∉ m := fun ha => by
  obtain ⟨_, _, _, _, r⟩ := h.at ha
  obtain ⟨w, e', _, _⟩ := r.some
  rw [e] at e'; cases e'

theorem Nx.refl : Nx m H m H := ⟨⟨[], by simp⟩, fun a h n => absurd h n, fun _ _ e _ _ => e, fun _ e => e⟩
theorem Nx.sub (n : Nx m H m' H') {a : Addr} (h : a ∈ m) : a ∈ m' := by
  obtain ⟨r, e⟩ := n.pre
  rw [e]; exact List.mem_append_left _ h
theorem Nx.trans (a : Nx m H m' H') (b : Nx m' H' m'' H'') : Nx m H m'' H'' where
  pre := by
    obtain ⟨r, e⟩ := a.pre
    obtain ⟨r', e'⟩ := b.pre
    exact ⟨r ++ r', by rw [e', e, List.append_assoc]⟩
  fresh := fun c hc hn => by
    by_cases h : c ∈ m'
    · exact a.fresh c h hn
    · have q := b.fresh c hc h
      cases z : H c with
      | none => rfl
      | some o => exact absurd q (a.there c (by rw [z]; simp))
  keep := fun c o e hn ht => by
    have e1 := a.keep c o e hn ht
    refine b.keep c o e1 (fun z => ?_) ht
    have q := a.fresh c z hn
    rw [q] at e; cases e
  there := fun c e => b.there c (a.there c e)
theorem Nx.ix (n : Nx m H m' H') {i : Nat} {a : Addr} (h : m[i]? = some a) : m'[i]? = some a := by
  obtain ⟨r, e⟩ := n.pre
  obtain ⟨hi, _⟩ := List.getElem?_eq_some_iff.mp h
  rw [e, List.getElem?_append_left hi]; exact h

theorem sqT_nx (hr : HR G m hs H) (n : Nx m H m' H') {a : Addr} {xs : List V} (h : SqT K H a xs) : SqT K H' a xs := by
  rcases h with (h | ⟨o, h⟩) | h
  · exact .inl (.inl (n.keep a _ h (hr.no_tup h) fun _ z => by cases z))
  · exact .inl (.inr ⟨o, n.keep a _ h (hr.no_frz h) fun _ z => by cases z⟩)
  · exact .inr h
theorem frL_nx (hr : HR G m hs H) (n : Nx m H m' H') {a : Addr} {xs : List V} (h : FrL K H a xs) : FrL K H' a xs := by
  rcases h with ⟨o, h⟩ | h
  · exact .inl ⟨o, n.keep a _ h (hr.no_frz h) fun _ z => by cases z⟩
  · exact .inr h
mutual
theorem Rep.nx (hr : HR G m hs H) (n : Nx m H m' H') : ∀ {d : D} {v : V}, Rep K H m d v → Rep K H' m' d v
  | _, _, .non => .non
  | _, _, .bl b => .bl b
  | _, _, .int i => .int i
  | _, _, .str s => .str s
  | _, _, .ref e => .ref (n.ix e)
  | _, _, .tup h r => .tup (sqT_nx hr n h) (Reps.nx hr n r)
  | _, _, .fro h r => .fro (frL_nx hr n h) (Reps.nx hr n r)
  | _, _, .tuf h d r => .tuf (n.keep _ _ h (hr.no_frz h) fun _ z => by cases z) d (Reps.nx hr n r)
theorem Reps.nx (hr : HR G m hs H) (n : Nx m H m' H') : ∀ {ds : List D} {vs : List V}, Reps K H m ds vs → Reps K H' m' ds vs
  | _, _, .nil => .nil
  | _, _, .cons r t => .cons (Rep.nx hr n r) (Reps.nx hr n t)
end
theorem SR.nx (hr : HR G m hs H) (n : Nx m H m' H') {ρ : En} {σ : L2.St} (s : SR G H m ρ σ) : SR G H' m' ρ σ := fun i d e => by
  obtain ⟨v, e1, r⟩ := s i d e
  exact ⟨v, e1, r.nx hr n⟩
theorem SR.set {ρ : En} {σ : L2.St} {d : D} {v : V} (s : SR G H m ρ σ) (r : Rep G.K H m d v) (i : Nat) (hi : i < σ.length) : SR G H m (put ρ i (some d)) (σ.set i (some v)) := fun j e h => by
  rw [put_eq] at h
  by_cases hj : i = j
  · subst hj
    by_cases hl : i < ρ.length
    · rw [List.getElem?_set_self hl] at h
      cases h
      exact ⟨v, by rw [List.getElem?_set_self hi], r⟩
    · rw [List.getElem?_eq_none (by simpa using hl)] at h; cases h
  · rw [List.getElem?_set_ne hj] at h
    rw [List.getElem?_set_ne hj]
    exact s j e h
end
end Mir

/-! MirB: heap steps, readings of mirrors, names, statements. -/
namespace Mir
open PySem PySem.Spec PyProof.Rows L2

section
variable {G : GX} {K : PySem.W.Frag} {m m' m'' : List Addr} {hs hs' : Hs} {H H' H'' : Hp}
theorem RepO.nx (hr : HR G m hs H) (n : Nx m H m' H') {a : Addr} {o : O} (e : H' a = H a) (h : RepO K H m a o) : RepO K H' m' a o := by
  cases o with
  | lst ds => obtain ⟨xs, e1, r⟩ := h; exact ⟨xs, e.trans e1, r.nx hr n⟩
  | dK ds => obtain ⟨xs, e1, k, r⟩ := h; exact ⟨xs, e.trans e1, k, r.nx hr n⟩
  | dT ds => obtain ⟨xs, e1, k, r⟩ := h; exact ⟨xs, e.trans e1, k, r.nx hr n⟩
theorem Nx.fresh1 {p : Addr} {u : HO} (hp : H p = none) : Nx m H m (upd H p u) :=
  ⟨⟨[], by simp⟩, fun a h n => absurd h n, fun a o e _ _ => by rw [upd_ne (ne_of_none e hp)]; exact e, fun a e => by
    by_cases h : a = p
    · rw [h, upd_same]; simp
    · rw [upd_ne h]; exact e⟩
/-- something new stands at p, the mirror's heap does not tell it -/
theorem HR.more (hr : HR G m hs H) {p : Addr} {u : HO} (hp : H p = none) : HR G m hs (upd H p u) := by
  have n : Nx m H m (upd H p u) := Nx.fresh1 hp
  refine ⟨hr.len, hr.nd, fun i a o e1 e2 => ?_, fun P hP => ?_⟩
  · have q := hr.obj i a o e1 e2
    obtain ⟨w, hw, _⟩ := q.some
    exact q.nx hr n (by rw [upd_ne (ne_of_none hw hp)])
  · obtain ⟨ps, h1, h2⟩ := hr.tab P hP
    exact ⟨ps, by rw [upd_ne (ne_of_none h1 hp)]; exact h1, h2⟩
theorem Nx.alloc (hr : HR G m hs H) {p : Addr} {u : HO} (hp : H p = none) : Nx m H (m ++ [p]) (upd H p u) := by
  refine ⟨⟨[p], rfl⟩, fun a h n => ?_, (Nx.fresh1 (m := m) hp).keep, (Nx.fresh1 (m := m) hp).there⟩
  rcases List.mem_append.mp h with h | h
  · exact absurd h n
  · rw [List.mem_singleton.mp h]; exact hp
/-- .. and the mirror's heap tells it -/
theorem HR.alloc (hr : HR G m hs H) {p : Addr} {u : HO} {o : O} (hp : H p = none) (new : RepO G.K (upd H p u) (m ++ [p]) p o) : HR G (m ++ [p]) (hs ++ [o]) (upd H p u) := by
  have n : Nx m H (m ++ [p]) (upd H p u) := Nx.alloc hr hp
  have np : p ∉ m := hr.no_none hp
  refine ⟨by rw [List.length_append, List.length_append, hr.len]; rfl, ?_, fun i a o' e1 e2 => ?_, (hr.more hp).tab⟩
  · rw [List.nodup_append]
    refine ⟨hr.nd, by simp, fun a ha b hb => ?_⟩
    rw [List.mem_singleton.mp hb]
    intro e; rw [e] at ha; exact np ha
  · by_cases hi : i < m.length
    · rw [List.getElem?_append_left hi] at e1
      rw [List.getElem?_append_left (by rw [← hr.len]; exact hi)] at e2
      have q := hr.obj i a o' e1 e2
      obtain ⟨w, hw, _⟩ := q.some
      exact q.nx hr n (by rw [upd_ne (ne_of_none hw hp)])
    · rw [List.getElem?_append_right (by omega)] at e1
      rw [List.getElem?_append_right (by rw [← hr.len]; omega)] at e2
      have h0 : i - m.length = 0 := by
        obtain ⟨z, _⟩ := List.getElem?_eq_some_iff.mp e1
        simp at z; omega
      rw [h0] at e1
      rw [← hr.len, h0] at e2
      cases e1; cases e2
      exact new
theorem Nx.write {a : Addr} {u : HO} (ha : a ∈ m) : Nx m H m (upd H a u) :=
  ⟨⟨[], by simp⟩, fun a h n => absurd h n, fun b o e hb _ => by
    rw [upd_ne (fun z => hb (by rw [z]; exact ha))]; exact e, fun b e => by
    by_cases h : b = a
    · rw [h, upd_same]; simp
    · rw [upd_ne h]; exact e⟩
/-- the object number i is written -/
theorem HR.write (hr : HR G m hs H) {i : Nat} {a : Addr} {u : HO} {o' : O} (hi : m[i]? = some a) (new : RepO G.K (upd H a u) m a o') : HR G m (put hs i o') (upd H a u) := by
  have ha : a ∈ m := List.mem_of_getElem? hi
  have n : Nx m H m (upd H a u) := Nx.write ha
  refine ⟨by rw [put_eq, List.length_set]; exact hr.len, hr.nd, fun j b o e1 e2 => ?_, fun P hP => ?_⟩
  · rw [put_eq] at e2
    by_cases hj : i = j
    · subst hj
      rw [hi] at e1; cases e1
      have hl : i < hs.length := by
        rw [← hr.len]; exact (List.getElem?_eq_some_iff.mp hi).1
      rw [List.getElem?_set_self hl] at e2
      cases e2
      exact new
    · rw [List.getElem?_set_ne hj] at e2
      have hb : b ≠ a := fun z => hj (by
        rw [z] at e1
        obtain ⟨h1, q1⟩ := List.getElem?_eq_some_iff.mp hi
        obtain ⟨h2, q2⟩ := List.getElem?_eq_some_iff.mp e1
        exact (List.getElem_inj hr.nd).mp (q1.trans q2.symm))
      exact (hr.obj j b o e1 e2).nx hr n (upd_ne hb)
  · obtain ⟨ps, h1, h2⟩ := hr.tab P hP
    refine ⟨ps, ?_, h2⟩
    rw [upd_ne (fun z => ?_)]
    · exact h1
    · obtain ⟨_, _, _, _, r⟩ := hr.at ha
      obtain ⟨w, hw, _, _, nt⟩ := r.some
      rw [z, hw] at h1
      exact nt ps (Option.some.inj h1)
theorem Rep.new (hr : HR G m hs H) {p : Addr} : Rep K H' (m ++ [p]) (.ref hs.length) (.ref p) :=
  .ref (by rw [← hr.len, List.getElem?_append_right (Nat.le_refl _), Nat.sub_self]; rfl)
end

/-! ### readings -/
abbrev EM := En → Hs → Option (D × Hs)
abbrev BM := En → Hs → Option (Bool × Hs)
abbrev AM := En → Hs → Option (List D × Hs)
inductive Rs where
  | nx (ρ : En) (hs : Hs) | ret (d : D) (hs : Hs) | bk (ρ : En) (hs : Hs) | ct (ρ : En) (hs : Hs)
abbrev SM := En → Hs → Option Rs

/-- the slots: as many, each known one at its place -/
structure SL (G : GX) (H : Hp) (m : List Addr) (ρ : En) (σ : L2.St) : Prop where
  len : ρ.length = σ.length
  at_ : SR G H m ρ σ
def TM (G : GX) (f : EM) : TE := fun σ H Q => ∃ ρ hs m, SL G H m ρ σ ∧ HR G m hs H ∧ ∃ d hs', f ρ hs = some (d, hs') ∧ ∀ v H' m', Nx m H m' H' → HR G m' hs' H' → Rep G.K H' m' d v → Q v H'
def TB (G : GX) (f : BM) : TT := fun σ H Q => ∃ ρ hs m, SL G H m ρ σ ∧ HR G m hs H ∧ ∃ b hs', f ρ hs = some (b, hs') ∧ ∀ H' m', Nx m H m' H' → HR G m' hs' H' → Q b H'
def TAm (G : GX) (f : AM) : TA := fun σ H Q => ∃ ρ hs m, SL G H m ρ σ ∧ HR G m hs H ∧ ∃ ds hs', f ρ hs = some (ds, hs') ∧ ∀ vs H' m', Nx m H m' H' → HR G m' hs' H' → Reps G.K H' m' ds vs → Q vs H'
def Fin (G : GX) (D : Ends) (m : List Addr) (H : Hp) : Rs → Prop
  | .nx ρ' hs' => ∀ σ' H' m', Nx m H m' H' → HR G m' hs' H' → SL G H' m' ρ' σ' → D.nx σ' H'
  | .ret d hs' => ∀ v H' m', Nx m H m' H' → HR G m' hs' H' → Rep G.K H' m' d v → D.rt v H'
  | .bk ρ' hs' => ∀ σ' H' m', Nx m H m' H' → HR G m' hs' H' → SL G H' m' ρ' σ' → D.bk σ' H'
  | .ct ρ' hs' => ∀ σ' H' m', Nx m H m' H' → HR G m' hs' H' → SL G H' m' ρ' σ' → D.ct σ' H'
def TSM (G : GX) (f : SM) : TS := fun D σ H => ∃ ρ hs m, SL G H m ρ σ ∧ HR G m hs H ∧ ∃ r, f ρ hs = some r ∧ Fin G D m H r

theorem Fin.nx {G : GX} {D : Ends} {m m' : List Addr} {H H' : Hp} {r : Rs} (f : Fin G D m H r) (n : Nx m H m' H') : Fin G D m' H' r := by
  cases r with
  | nx ρ hs => exact fun σ' H2 m2 n2 => f σ' H2 m2 (n.trans n2)
  | ret d hs => exact fun σ' H2 m2 n2 => f σ' H2 m2 (n.trans n2)
  | bk ρ hs => exact fun σ' H2 m2 n2 => f σ' H2 m2 (n.trans n2)
  | ct ρ hs => exact fun σ' H2 m2 n2 => f σ' H2 m2 (n.trans n2)
section
variable {G : GX} {m m' : List Addr} {hs hs' : Hs} {H H' : Hp} {ρ : En} {σ : L2.St}
theorem SL.nx (hr : HR G m hs H) (n : Nx m H m' H') (s : SL G H m ρ σ) : SL G H' m' ρ σ := ⟨s.len, s.at_.nx hr n⟩
theorem put_length {α : Type} (l : List α) (n : Nat) (y : α) : (put l n y).length = l.length := by rw [put_eq, List.length_set]
theorem SL.set {d : D} {v : V} (s : SL G H m ρ σ) (r : Rep G.K H m d v) (i : Nat) : SL G H m (put ρ i (some d)) (σ.set i (some v)) := by
  refine ⟨by rw [put_length, List.length_set]; exact s.len, ?_⟩
  by_cases hi : i < σ.length
  · exact s.at_.set r i hi
  · rw [put_eq, List.set_eq_of_length_le (by rw [s.len]; omega), List.set_eq_of_length_le (by omega)]
    exact s.at_
theorem SL.get {d : D} (s : SL G H m ρ σ) {i : Nat} (e : at? ρ i = some (some d)) : ∃ v, σ[i]? = some (some v) ∧ Rep G.K H m d v := s.at_ i d (by rw [← at?_eq]; exact e)
end

section
variable {X : Cx} {e : Expr} {st : Stmt} {sts : List Stmt}
theorem _root_.L2.PE.imp {t t' : TE} (h : PE X e t) (i : ∀ σ H Q, t' σ H Q → t σ H Q) : PE X e t' := ⟨fun pins s σ H Q I q => h.run pins s σ H Q I (i σ H Q q)⟩
theorem _root_.L2.PT.imp {t t' : TT} (h : PT X e t) (i : ∀ σ H Q, t' σ H Q → t σ H Q) : PT X e t' := ⟨fun pins s σ H Q I q => h.run pins s σ H Q I (i σ H Q q)⟩
theorem _root_.L2.PW.imp {t t' : TT} (h : PW X e t) (i : ∀ σ H Q, t' σ H Q → t σ H Q) : PW X e t' := ⟨fun wh pins s σ H Q I q => h.run wh pins s σ H Q I (i σ H Q q)⟩
theorem _root_.L2.PA.imp {es : List Expr} {t t' : TA} (h : PA X es t) (i : ∀ σ H Q, t' σ H Q → t σ H Q) : PA X es t' := ⟨fun pos pins s σ H Q I q => h.run pos pins s σ H Q I (i σ H Q q)⟩
theorem _root_.L2.PS.imp {t t' : TS} (h : PS X st t) (i : ∀ D σ H, t' D σ H → t D σ H) : PS X st t' := ⟨fun pins s σ H D I q => h.run pins s σ H D I (i D σ H q)⟩
theorem _root_.L2.PSs.imp {t t' : TS} (h : PSs X sts t) (i : ∀ D σ H, t' D σ H → t D σ H) : PSs X sts t' := ⟨fun pins s σ H D I q => h.run pins s σ H D I (i D σ H q)⟩
end

/-! ### names, constants -/
def mVar (i : Nat) : EM := fun ρ hs => match at? ρ i with
  | some (some d) => some (d, hs)
  | _ => none
def mC (d : D) : EM := fun _ hs => some (d, hs)
theorem tm_var {G : GX} {i : Nat} {σ : L2.St} {H : Hp} {Q : VK} (h : TM G (mVar i) σ H Q) : tVar i σ H Q := by
  obtain ⟨ρ, hs, m, sl, hr, d, hs', e, q⟩ := h
  unfold mVar at e
  split at e
  · rename_i d' e'
    cases e
    obtain ⟨v, e1, r⟩ := sl.get e'
    exact ⟨v, e1, q v H m .refl hr r⟩
  · cases e
theorem tm_C {G : GX} {d : D} {v : V} {σ : L2.St} {H : Hp} {Q : VK} (r : ∀ m, Rep G.K H m d v) (h : TM G (mC d) σ H Q) : tC v σ H Q := by
  obtain ⟨ρ, hs, m, sl, hr, d', hs', e, q⟩ := h
  cases e
  exact q v H m .refl hr (r m)
section
variable {X : Cx} {G : GX} {i j : Nat} {x : Str} {pos pos' : Pos}
theorem m_var (i : Nat) (hN : X.N[i]? = some x := by rfl) (hv : Vis X.env.scope x := by first | exact Or.inl rfl | exact Or.inr (Or.inl rfl) | exact Or.inr (Or.inr rfl)) (hd : (x == ("__debug__" : Str)) = false := by decide)
    (hcd : (x == ("__classdict__" : Str)) = false := by decide) : PE X (.Name x pos) (TM G (mVar i)) := (pe_var hN hv hd hcd).imp fun _ _ _ => tm_var
theorem m_int {z : Int} : PE X (.Constant (.int z) j pos) (TM G (mC (.int z))) := pe_int.imp fun _ _ _ => tm_C fun _ => .int z
theorem m_bl {b : Bool} : PE X (.Constant (.bool b) j pos) (TM G (mC (.bl b))) := pe_bl.imp fun _ _ _ => tm_C fun _ => .bl b
theorem m_non : PE X (.Constant .none j pos) (TM G (mC .non)) := pe_non.imp fun _ _ _ => tm_C fun _ => .non
theorem m_str {z : Str} : PE X (.Constant (.str z) j pos) (TM G (mC (.str z))) := pe_str.imp fun _ _ _ => tm_C fun _ => .str z
/-- a module's constant -/
theorem m_glob {d : D} {v : V} {u : Value} (hg : Gl X x) (hm : X.mg x = some u) (r : RelV v u) (rd : ∀ H m, Rep G.K H m d v) (hd : (x == ("__debug__" : Str)) = false := by decide) : PE X (.Name x pos) (TM G (mC d)) :=
  (pe_glob hg hm r hd).imp fun _ H _ => tm_C fun m => rd H m
end

/-! ### statements -/
def mNext : SM := fun ρ hs => some (.nx ρ hs)
def mSeq (f g : SM) : SM := fun ρ hs => match f ρ hs with
  | some (.nx ρ' hs') => g ρ' hs'
  | some r => some r
  | none => none
def mSet (i : Nat) (f : EM) : SM := fun ρ hs => match f ρ hs with
  | some (d, hs') => some (.nx (put ρ i (some d)) hs')
  | none => none
def mRet (f : EM) : SM := fun ρ hs => match f ρ hs with
  | some (d, hs') => some (.ret d hs')
  | none => none
def mDrop (f : EM) : SM := fun ρ hs => match f ρ hs with
  | some (_, hs') => some (.nx ρ hs')
  | none => none
def mIfS (c : BM) (f g : SM) : SM := fun ρ hs => match c ρ hs with
  | some (true, hs') => f ρ hs'
  | some (false, hs') => g ρ hs'
  | none => none
def mNever : SM := fun _ _ => none
def mBreak : SM := fun ρ hs => some (.bk ρ hs)
def mCont : SM := fun ρ hs => some (.ct ρ hs)
section
variable {X : Cx} {G : GX} {e : Expr} {st : Stmt} {rest : List Stmt} {f g : SM} {pos : Pos}
theorem ms_nil : PSs X [] (TSM G mNext) := pss_nil.imp fun D σ H ⟨ρ, hs, m, sl, hr, r, e, q⟩ => by
  cases e
  exact q σ H m .refl hr sl
theorem ms_cons (h1 : PS X st (TSM G f)) (h2 : PSs X rest (TSM G g)) : PSs X (st :: rest) (TSM G (mSeq f g)) := by
  refine (pss_cons h1 h2).imp fun D σ H ⟨ρ, hs, m, sl, hr, r, e, q⟩ => ?_
  unfold mSeq at e
  split at e
  · rename_i ρ' hs' e'
    exact ⟨ρ, hs, m, sl, hr, _, e', fun σ' H' m' n' hr' sl' => ⟨ρ', hs', m', sl', hr', r, e, q.nx n'⟩⟩
  · rename_i r' hn e'
    cases e
    refine ⟨ρ, hs, m, sl, hr, _, e', ?_⟩
    cases r with
    | nx ρ1 hs1 => exact absurd e' (fun z => hn _ _ rfl)
    | ret d hs1 => exact q
    | bk ρ1 hs1 => exact q
    | ct ρ1 hs1 => exact q
  · cases e
theorem ms_one (h1 : PS X st (TSM G f)) : PSs X [st] (TSM G f) := pss_one h1
theorem ms_pass : PS X (.Pass pos) (TSM G mNext) := ps_pass.imp fun D σ H ⟨ρ, hs, m, sl, hr, r, e, q⟩ => by
  cases e
  exact q σ H m .refl hr sl
theorem ms_break : PS X (.Break pos) (TSM G mBreak) := ps_break.imp fun D σ H ⟨ρ, hs, m, sl, hr, r, e, q⟩ => by
  cases e
  exact q σ H m .refl hr sl
theorem ms_continue : PS X (.Continue pos) (TSM G mCont) := ps_continue.imp fun D σ H ⟨ρ, hs, m, sl, hr, r, e, q⟩ => by
  cases e
  exact q σ H m .refl hr sl
theorem ms_never : PS X st (TSM G mNever) := ps_never.imp fun D σ H ⟨ρ, hs, m, sl, hr, r, e, q⟩ => by cases e
theorem mss_never : PSs X rest (TSM G mNever) := pss_never.imp fun D σ H ⟨ρ, hs, m, sl, hr, r, e, q⟩ => by cases e
variable {fe : EM}
theorem ms_set {i : Nat} {x : Str} {pos' : Pos} (he : PE X e (TM G fe)) (hN : X.N.Nodup) (hi : X.N[i]? = some x) (hx : Loc X.env.scope x) (hs : swapsWith e (some (.Name x pos')) pos.line X.env = pure false := by rfl) (hf : X.fn x = true ∨ X.env.scope.names.lookup x = some .local := by first | exact .inl rfl | exact .inr rfl | assumption) :
    PS X (.Assign [.Name x pos'] e pos) (TSM G (mSet i fe)) := by
  refine (ps_set hN hi hx he hs hf).imp fun D σ H ⟨ρ, hs, m, sl, hr, r, e, q⟩ => ?_
  unfold mSet at e
  split at e
  · rename_i d hs' e'
    cases e
    exact ⟨ρ, hs, m, sl, hr, d, hs', e', fun v H' m' n' hr' rv => q _ H' m' n' hr' ((sl.nx hr n').set rv i)⟩
  · cases e
theorem ms_ret (he : PE X e (TM G fe)) : PS X (.Return (some e) pos) (TSM G (mRet fe)) := by
  refine (ps_ret he).imp fun D σ H ⟨ρ, hs, m, sl, hr, r, e, q⟩ => ?_
  unfold mRet at e
  split at e
  · rename_i d hs' e'
    cases e
    exact ⟨ρ, hs, m, sl, hr, d, hs', e', fun v H' m' n' hr' rv => q v H' m' n' hr' rv⟩
  · cases e
theorem ms_expr (he : PE X e (TM G fe)) (hs : swapsWith e none pos.line X.env = pure false := by rfl) : PS X (.Expr e pos) (TSM G (mDrop fe)) := by
  refine (ps_expr he hs).imp fun D σ H ⟨ρ, hs, m, sl, hr, r, e, q⟩ => ?_
  unfold mDrop at e
  split at e
  · rename_i d hs' e'
    cases e
    exact ⟨ρ, hs, m, sl, hr, d, hs', e', fun v H' m' n' hr' rv => q σ H' m' n' hr' (sl.nx hr n')⟩
  · cases e
theorem ms_if {c : Expr} {a b : List Stmt} {fc : BM} (hc : PT X c (TB G fc)) (ha : PSs X a (TSM G f)) (hb : PSs X b (TSM G g)) : PS X (.If c a b pos) (TSM G (mIfS fc f g)) := by
  refine (ps_if hc ha hb).imp fun D σ H ⟨ρ, hs, m, sl, hr, r, e, q⟩ => ?_
  unfold mIfS at e
  split at e
  · rename_i hs' e'
    refine ⟨ρ, hs, m, sl, hr, true, hs', e', fun H' m' n' hr' => ?_⟩
    refine iteT ?_
    exact ⟨ρ, hs', m', sl.nx hr n', hr', r, e, q.nx n'⟩
  · rename_i hs' e'
    refine ⟨ρ, hs, m, sl, hr, false, hs', e', fun H' m' n' hr' => ?_⟩
    refine iteF ?_
    exact ⟨ρ, hs', m', sl.nx hr n', hr', r, e, q.nx n'⟩
  · cases e

/-! ### while -/
def mWhile : Nat → BM → SM → SM
  | 0, _, _ => fun _ _ => none
  | n + 1, c, b => fun ρ hs => match c ρ hs with
    | some (false, hs') => some (.nx ρ hs')
    | some (true, hs') => match b ρ hs' with
      | some (.nx ρ' hs2) => mWhile n c b ρ' hs2
      | some (.ct ρ' hs2) => mWhile n c b ρ' hs2
      | some (.bk ρ' hs2) => some (.nx ρ' hs2)
      | some (.ret d hs2) => some (.ret d hs2)
      | none => none
    | none => none
theorem ms_while (N : Nat) {c : Expr} {body : List Stmt} {fc : BM} (hp : PassesOwn (model X.prog X.w) X.A X.env X.xe) (hc : PT X c (TB G fc)) (hb : PSs X body (TSM G f)) : PS X (.While c body [] pos) (TSM G (mWhile N fc f)) := by
  refine (ps_while hp hc hb).imp fun D σ H ⟨ρ, hs, m, sl, hr, r, e, q⟩ => ?_
  refine ⟨fun n σ H => ∃ ρ hs m, SL G H m ρ σ ∧ HR G m hs H ∧ ∃ r, mWhile n fc f ρ hs = some r ∧ Fin G D m H r, ⟨N, ρ, hs, m, sl, hr, r, e, q⟩, ?_⟩
  rintro n σ H ⟨ρ, hs, m, sl, hr, r, e, q⟩
  cases n with
  | zero => cases e
  | succ n =>
    unfold mWhile at e
    split at e
    · rename_i hs' e'
      cases e
      exact ⟨ρ, hs, m, sl, hr, false, hs', e', fun H' m' n' hr' => by
        refine iteF ?_
        exact q σ H' m' n' hr' (sl.nx hr n')⟩
    · rename_i hs' e'
      refine ⟨ρ, hs, m, sl, hr, true, hs', e', fun H' m' n' hr' => ?_⟩
      refine iteT ?_
      refine ⟨fun σ H => ∃ ρ hs m, SL G H m ρ σ ∧ HR G m hs H ∧ ∃ r, mWhile n fc f ρ hs = some r ∧ Fin G D m H r, fun σ' H' h => ⟨n, Nat.lt_succ_self n, h⟩, ?_⟩
      refine ⟨ρ, hs', m', sl.nx hr n', hr', ?_⟩
      have q' := q.nx n'
      split at e
      · rename_i ρ2 hs2 e2
        exact ⟨_, e2, fun σ3 H3 m3 n3 hr3 sl3 => ⟨ρ2, hs2, m3, sl3, hr3, r, e, q'.nx n3⟩⟩
      · rename_i ρ2 hs2 e2
        exact ⟨_, e2, fun σ3 H3 m3 n3 hr3 sl3 => ⟨ρ2, hs2, m3, sl3, hr3, r, e, q'.nx n3⟩⟩
      · rename_i ρ2 hs2 e2
        cases e
        exact ⟨_, e2, fun σ3 H3 m3 n3 hr3 sl3 => q' σ3 H3 m3 n3 hr3 sl3⟩
      · rename_i d hs2 e2
        cases e
        exact ⟨_, e2, fun v H3 m3 n3 hr3 rv => q' v H3 m3 n3 hr3 rv⟩
      · cases e
    · cases e
end
end Mir

/-! MirC: operators by values, comparisons, tests, displays, subscripts. -/
namespace Mir
open PySem PySem.Spec PyProof.Rows L2

abbrev GO (X : Cx) (tb : List Addr) : GX := ⟨X.K, tb⟩
abbrev F2 := D → D → Hs → Option (D × Hs)
abbrev F1 := D → Hs → Option (D × Hs)
def R2M (G : GX) (f : F2) : R2 := fun x y H Q => ∃ d e hs m, HR G m hs H ∧ Rep G.K H m d x ∧ Rep G.K H m e y ∧ ∃ r hs', f d e hs = some (r, hs') ∧ ∀ v H' m', Nx m H m' H' → HR G m' hs' H' → Rep G.K H' m' r v → Q v H'
def R1M (G : GX) (f : F1) : V → Hp → VK → Prop := fun x H Q => ∃ d hs m, HR G m hs H ∧ Rep G.K H m d x ∧ ∃ r hs', f d hs = some (r, hs') ∧ ∀ v H' m', Nx m H m' H' → HR G m' hs' H' → Rep G.K H' m' r v → Q v H'
def mBin (f2 : F2) (fa fb : EM) : EM := fun ρ hs => match fa ρ hs with
  | some (d, hs1) => match fb ρ hs1 with
    | some (e, hs2) => f2 d e hs2
    | none => none
  | none => none
def mUn (f1 : F1) (fa : EM) : EM := fun ρ hs => match fa ρ hs with
  | some (d, hs1) => f1 d hs1
  | none => none
theorem tm_bin {G : GX} {f2 : F2} {fa fb : EM} {σ : L2.St} {H : Hp} {Q : VK} (h : TM G (mBin f2 fa fb) σ H Q) : tOp (R2M G f2) (TM G fa) (TM G fb) σ H Q := by
  obtain ⟨ρ, hs, m, sl, hr, r, hs', e, q⟩ := h
  unfold mBin at e
  split at e
  · rename_i d hs1 e1
    split at e
    · rename_i e2 hs2 ee
      refine ⟨ρ, hs, m, sl, hr, d, hs1, e1, fun x H1 m1 n1 hr1 rx => ?_⟩
      refine ⟨ρ, hs1, m1, sl.nx hr n1, hr1, e2, hs2, ee, fun y H2 m2 n2 hr2 ry => ?_⟩
      exact ⟨d, e2, hs2, m2, hr2, rx.nx hr1 n2, ry, r, hs', e, fun v H' m' n' => q v H' m' ((n1.trans n2).trans n')⟩
    · cases e
  · cases e
theorem tm_un {G : GX} {f1 : F1} {fa : EM} {σ : L2.St} {H : Hp} {Q : VK} (h : TM G (mUn f1 fa) σ H Q) : tUn (R1M G f1) (TM G fa) σ H Q := by
  obtain ⟨ρ, hs, m, sl, hr, r, hs', e, q⟩ := h
  unfold mUn at e
  split at e
  · rename_i d hs1 e1
    refine ⟨ρ, hs, m, sl, hr, d, hs1, e1, fun x H1 m1 n1 hr1 rx => ?_⟩
    exact ⟨d, hs1, m1, hr1, rx, r, hs', e, fun v H' m' n' => q v H' m' (n1.trans n')⟩
  · cases e
theorem OpR.imp' {X : Cx} {f : Value → Value → Sem Value} {r r' : R2} (h : OpR X f r) (i : ∀ x y H Q, r' x y H Q → r x y H Q) : OpR X f r' := fun pins s σ H x y v u Q I rx ry q => h pins s σ H x y v u Q I rx ry (i x y H Q q)
theorem UnR.imp' {X : Cx} {f : Value → Sem Value} {r r' : V → Hp → VK → Prop} (h : UnR X f r) (i : ∀ x H Q, r' x H Q → r x H Q) : UnR X f r' := fun pins s σ H x v Q I rx q => h pins s σ H x v Q I rx (i x H Q q)
theorem IxR.imp' {X : Cx} {r r' : R2} (h : IxR X r) (i : ∀ x y H Q, r' x y H Q → r x y H Q) : IxR X r' := fun value slice pins s σ H x y v u Q I rx ry q => h value slice pins s σ H x y v u Q I rx ry (i x y H Q q)

/-- a fresh tuple, a fresh list as an answer -/
theorem fin_tup {G : GX} {m : List Addr} {hs : Hs} {H : Hp} {Q : VK} {ds : List D} {xs : List V} {p : Addr} (hr : HR G m hs H) (r : Reps G.K H m ds xs) (hp : H p = none)
    (q : ∀ v H' m', Nx m H m' H' → HR G m' hs H' → Rep G.K H' m' (.tup ds) v → Q v H') : Q (.ref p) (upd H p (.tup xs)) :=
  q _ _ m (.fresh1 hp) (hr.more hp) (.tup (.inl (.inl upd_same)) (r.nx hr (.fresh1 hp)))
theorem fin_lst {G : GX} {m : List Addr} {hs : Hs} {H : Hp} {Q : VK} {ds : List D} {xs : List V} {p : Addr} (hr : HR G m hs H) (r : Reps G.K H m ds xs) (hp : H p = none)
    (q : ∀ v H' m', Nx m H m' H' → HR G m' (hs ++ [.lst ds]) H' → Rep G.K H' m' (.ref hs.length) v → Q v H') : Q (.ref p) (upd H p (.lst xs)) :=
  q _ _ (m ++ [p]) (.alloc hr hp) (hr.alloc hp ⟨xs, upd_same, r.nx hr (.alloc hr hp)⟩) (.new hr)

section
variable {K : PySem.W.Frag} {H : Hp} {m : List Addr}
theorem Reps.length : ∀ {ds : List D} {vs : List V}, Reps K H m ds vs → ds.length = vs.length
  | _, _, .nil => rfl
  | _, _, .cons _ t => congrArg (· + 1) (Reps.length t)
theorem Reps.append : ∀ {ds es : List D} {vs ws : List V}, Reps K H m ds vs → Reps K H m es ws → Reps K H m (ds ++ es) (vs ++ ws)
  | _, _, _, _, .nil, s => s
  | _, _, _, _, .cons r t, s => .cons r (Reps.append t s)
theorem Reps.get : ∀ {ds : List D} {vs : List V} {i : Nat} {d : D}, Reps K H m ds vs → ds[i]? = some d → ∃ v, vs[i]? = some v ∧ Rep K H m d v
  | _, _, _, _, .nil, e => by simp at e
  | _, _, 0, _, .cons r _, e => by simp at e; subst e; exact ⟨_, rfl, r⟩
  | _, _, i + 1, d, .cons _ t, e => by
    obtain ⟨v, h1, h2⟩ := Reps.get (i := i) (d := d) t (by simpa using e)
    exact ⟨v, by simpa using h1, h2⟩
theorem Reps.get' : ∀ {ds : List D} {vs : List V} {i : Nat} {v : V}, Reps K H m ds vs → vs[i]? = some v → ∃ d, ds[i]? = some d ∧ Rep K H m d v
  | _, _, _, _, .nil, e => by simp at e
  | _, _, 0, _, .cons r _, e => by simp at e; subst e; exact ⟨_, rfl, r⟩
  | _, _, i + 1, v, .cons _ t, e => by
    obtain ⟨d, h1, h2⟩ := Reps.get' (i := i) (v := v) t (by simpa using e)
    exact ⟨d, by simpa using h1, h2⟩
theorem Reps.take : ∀ {ds : List D} {vs : List V} (n : Nat), Reps K H m ds vs → Reps K H m (ds.take n) (vs.take n)
  | _, _, 0, _ => .nil
  | _, _, _ + 1, .nil => .nil
  | _, _, n + 1, .cons r t => .cons r (Reps.take n t)
theorem Reps.drop : ∀ {ds : List D} {vs : List V} (n : Nat), Reps K H m ds vs → Reps K H m (ds.drop n) (vs.drop n)
  | _, _, 0, r => r
  | _, _, _ + 1, .nil => .nil
  | _, _, n + 1, .cons _ t => Reps.drop n t
theorem Reps.set {d : D} {v : V} (r : Rep K H m d v) : ∀ {ds : List D} {vs : List V} (i : Nat), Reps K H m ds vs → Reps K H m (ds.set i d) (vs.set i v)
  | _, _, _, .nil => .nil
  | _, _, 0, .cons _ t => .cons r t
  | _, _, i + 1, .cons q t => .cons q (Reps.set r i t)
theorem Reps.reverse {ds : List D} {vs : List V} (r : Reps K H m ds vs) : Reps K H m ds.reverse vs.reverse := by
  induction ds generalizing vs with
  | nil => cases r; exact .nil
  | cons d ds ih =>
    cases r with
    | cons r t =>
      rw [List.reverse_cons, List.reverse_cons]
      exact (ih t).append (.cons r .nil)
theorem Reps.eraseIdx : ∀ {ds : List D} {vs : List V} (i : Nat), Reps K H m ds vs → Reps K H m (ds.eraseIdx i) (vs.eraseIdx i)
  | _, _, _, .nil => .nil
  | _, _, 0, .cons _ t => t
  | _, _, i + 1, .cons r t => .cons r (Reps.eraseIdx i t)
theorem Rep.int_inv {i : Int} {v : V} (r : Rep K H m (.int i) v) : v = .int i := by cases r; rfl
theorem Reps.ints : ∀ {ns : List Int} {vs : List V}, Reps K H m (ns.map D.int) vs → vs = ns.map V.int
  | [], _, .nil => rfl
  | _ :: _, _, .cons r t => by rw [r.int_inv, Reps.ints t]; rfl
end
/-- the list at a place of the mirror's heap -/
theorem HR.lst {G : GX} {m : List Addr} {hs : Hs} {H : Hp} (hr : HR G m hs H) {i : Nat} {a : Addr} {ds : List D} (e : m[i]? = some a) (h : at? hs i = some (.lst ds)) : ∃ xs, H a = some (.lst xs) ∧ Reps G.K H m ds xs :=
  hr.obj i a (.lst ds) e (by rw [← at?_eq]; exact h)
theorem HR.dK {G : GX} {m : List Addr} {hs : Hs} {H : Hp} (hr : HR G m hs H) {i : Nat} {a : Addr} {kvs : List (D × D)} (e : m[i]? = some a) (h : at? hs i = some (.dK kvs)) : RepO G.K H m a (.dK kvs) :=
  hr.obj i a _ e (by rw [← at?_eq]; exact h)
theorem HR.dT {G : GX} {m : List Addr} {hs : Hs} {H : Hp} (hr : HR G m hs H) {i : Nat} {a : Addr} {kvs : List (D × D)} (e : m[i]? = some a) (h : at? hs i = some (.dT kvs)) : RepO G.K H m a (.dT kvs) :=
  hr.obj i a _ e (by rw [← at?_eq]; exact h)

/-! ### arithmetic -/
def cap (n : Nat) : Bool := Nat.ble n 16777216
theorem cap_le {n : Nat} (h : cap n = true) : n ≤ sizeLine := by rw [sizeLine_eq]; exact Nat.le_of_ble_eq_true h
def addD : F2
  | .int i, .int j, hs => some (.int (i + j), hs)
  | .tup a, .tup b, hs => if cap (a.length + b.length) then some (.tup (a ++ b), hs) else none
  | .ref i, .ref j, hs => match at? hs i, at? hs j with
    | some (.lst a), some (.lst b) => if cap (a.length + b.length) then some (.ref hs.length, hs ++ [.lst (a ++ b)]) else none
    | _, _ => none
  | .str a, .str b, hs => if cap (a.length + b.length) then some (.str (a ++ b), hs) else none
  | _, _, _ => none
theorem op_addM {X : Cx} {tb : List Addr} : OpR X (binaryOp .Add) (R2M (GO X tb) addD) := by
  refine OpR.imp' (((op_add (X := X)).or op_catA).or (op_cat.or op_add_str)) fun x y H Q h => ?_
  obtain ⟨d, e, hs, m, hr, rx, ry, r, hs', ef, q⟩ := h
  unfold addD at ef
  split at ef
  · cases rx; cases ry; cases ef
    exact .inl (.inl ⟨_, _, rfl, rfl, q _ _ _ .refl hr (.int _)⟩)
  · rename_i a b
    split at ef
    · rename_i hc
      cases ef
      cases rx with
      | tup hx rx' =>
        cases ry with
        | tup hy ry' =>
          have hl := cap_le hc
          rw [rx'.length, ry'.length] at hl
          refine .inl (.inr ⟨_, _, _, _, rfl, rfl, hx, hy, hl, fun e1 => ?_, fun _ e2 => ?_, fun _ _ p hp => ?_⟩)
          · subst e1
            cases rx'
            exact q _ _ _ .refl hr (.tup hy ry')
          · subst e2
            cases ry'
            rw [List.append_nil] at q
            exact q _ _ _ .refl hr (.tup hx rx')
          · exact fin_tup hr (rx'.append ry') hp q
    · cases ef
  · rename_i i j
    split at ef
    · rename_i a b ea eb
      split at ef
      · rename_i hc
        cases ef
        cases rx with
        | ref e1 =>
          cases ry with
          | ref e2 =>
            obtain ⟨xs, hx, rx'⟩ := hr.lst e1 ea
            obtain ⟨ys, hy, ry'⟩ := hr.lst e2 eb
            have hl := cap_le hc
            rw [rx'.length, ry'.length] at hl
            refine .inr (.inl ⟨_, _, xs, ys, rfl, rfl, hx, hy, hl, fun p hp => ?_⟩)
            exact fin_lst hr (rx'.append ry') hp q
      · cases ef
    · cases ef
  · split at ef
    · rename_i hc
      cases rx; cases ry; cases ef
      exact .inr (.inr ⟨_, _, rfl, rfl, cap_le hc, q _ _ _ .refl hr (.str _)⟩)
    · cases ef
  · cases ef
def subD : F2
  | .int i, .int j, hs => some (.int (i - j), hs)
  | _, _, _ => none
theorem op_subM {X : Cx} {tb : List Addr} : OpR X (binaryOp .Sub) (R2M (GO X tb) subD) := by
  refine OpR.imp' (op_sub (X := X)) fun x y H Q h => ?_
  obtain ⟨d, e, hs, m, hr, rx, ry, r, hs', ef, q⟩ := h
  unfold subD at ef
  split at ef
  · cases rx; cases ry; cases ef
    exact ⟨_, _, rfl, rfl, q _ _ _ .refl hr (.int _)⟩
  · cases ef
theorem bits_le (x : Int) : Builtin.Int.intBits x ≤ x.natAbs.log2 + 1 := by
  unfold Builtin.Int.intBits
  split <;> omega
theorem mulx_bits {i j : Int} (h : i.natAbs.log2 + j.natAbs.log2 ≤ 134217000) : CMulX i j := by
  have a := bits_le i
  have b := bits_le j
  unfold CMulX
  omega
def mulI : F2
  | .int i, .int j, hs => if Nat.ble (i.natAbs.log2 + j.natAbs.log2) 134217000 then some (.int (i * j), hs) else none
  | _, _, _ => none
theorem op_mulM {X : Cx} {tb : List Addr} : OpR X (binaryOp .Mult) (R2M (GO X tb) mulI) := by
  refine OpR.imp' (op_mulX (X := X)) fun x y H Q h => ?_
  obtain ⟨d, e, hs, m, hr, rx, ry, r, hs', ef, q⟩ := h
  unfold mulI at ef
  split at ef
  · split at ef
    · rename_i hc
      cases rx; cases ry; cases ef
      exact ⟨_, _, rfl, rfl, mulx_bits (Nat.le_of_ble_eq_true hc), q _ _ _ .refl hr (.int _)⟩
    · cases ef
  · cases ef
def modD : F2
  | .int i, .int j, hs => match j with
    | .ofNat (n + 1) => some (.int (i % .ofNat (n + 1)), hs)
    | _ => none
  | _, _, _ => none
theorem op_modM {X : Cx} {tb : List Addr} : OpR X (binaryOp .Mod) (R2M (GO X tb) modD) := by
  refine OpR.imp' (op_mod (X := X)) fun x y H Q h => ?_
  obtain ⟨d, e, hs, m, hr, rx, ry, r, hs', ef, q⟩ := h
  unfold modD at ef
  split at ef
  · split at ef
    · rename_i n
      cases rx; cases ry; cases ef
      exact ⟨_, _, rfl, rfl, by show (0 : Int) < ((n + 1 : Nat) : Int); omega, q _ _ _ .refl hr (.int _)⟩
    · cases ef
  · cases ef
def fdivD : F2
  | .int i, .int j, hs => match j with
    | .ofNat (n + 1) => if Nat.blt (Nat.log2 (n + 1)) 9000 then some (.int (i / .ofNat (n + 1)), hs) else none
    | _ => none
  | _, _, _ => none
theorem op_fdivM {X : Cx} {tb : List Addr} : OpR X (binaryOp .FloorDiv) (R2M (GO X tb) fdivD) := by
  refine OpR.imp' (op_fdivW (X := X)) fun x y H Q h => ?_
  obtain ⟨d, e, hs, m, hr, rx, ry, r, hs', ef, q⟩ := h
  unfold fdivD at ef
  split at ef
  · split at ef
    · rename_i n
      split at ef
      · rename_i hc
        cases rx; cases ry; cases ef
        exact ⟨_, _, rfl, rfl, ⟨by show (0 : Int) < ((n + 1 : Nat) : Int); omega, Nat.le_of_ble_eq_true hc⟩, q _ _ _ .refl hr (.int _)⟩
      · cases ef
    · cases ef
  · cases ef
def powD : F2
  | .int i, .int j, hs => if (decide (0 ≤ j) && decide (j ≤ 1000000) && decide (i.natAbs < 2 ^ 64)) = true then some (.int (i ^ j.toNat), hs) else none
  | _, _, _ => none
theorem op_powM {X : Cx} {tb : List Addr} : OpR X (binaryOp .Pow) (R2M (GO X tb) powD) := by
  refine OpR.imp' (op_pow (X := X)) fun x y H Q h => ?_
  obtain ⟨d, e, hs, m, hr, rx, ry, r, hs', ef, q⟩ := h
  unfold powD at ef
  split at ef
  · split at ef
    · rename_i hc
      simp only [Bool.and_eq_true, decide_eq_true_eq] at hc
      cases rx; cases ry; cases ef
      exact ⟨_, _, rfl, rfl, ⟨hc.1.1, hc.1.2, hc.2⟩, q _ _ _ .refl hr (.int _)⟩
    · cases ef
  · cases ef
def negD : F1
  | .int i, hs => some (.int (-i), hs)
  | _, _ => none
theorem un_negM {X : Cx} {tb : List Addr} : UnR X (unaryOp .USub) (R1M (GO X tb) negD) := by
  refine UnR.imp' (un_neg (X := X)) fun x H Q h => ?_
  obtain ⟨d, hs, m, hr, rx, r, hs', ef, q⟩ := h
  unfold negD at ef
  split at ef
  · cases rx; cases ef
    exact ⟨_, rfl, q _ _ _ .refl hr (.int _)⟩
  · cases ef

/-! ### comparisons of ints -/
def cmpI (p : Int → Int → Bool) : F2
  | .int i, .int j, hs => some (.bl (p i j), hs)
  | _, _, _ => none
def ltD : F2 := cmpI fun i j => decide (i < j)
def leD : F2 := cmpI fun i j => decide (i ≤ j)
def gtD : F2 := cmpI fun i j => decide (j < i)
def geD : F2 := cmpI fun i j => decide (j ≤ i)
theorem r2_cmp {G : GX} {p : Int → Int → Bool} {x y : V} {H : Hp} {Q : VK} (h : R2M G (cmpI p) x y H Q) : rI0 (fun i j => .bl (p i j)) x y H Q := by
  obtain ⟨d, e, hs, m, hr, rx, ry, r, hs', ef, q⟩ := h
  unfold cmpI at ef
  split at ef
  · cases rx; cases ry; cases ef
    exact ⟨_, _, rfl, rfl, q _ _ _ .refl hr (.bl _)⟩
  · cases ef
section
variable {X : Cx} {tb : List Addr}
theorem op_ltM : OpR X (compareOp .Lt) (R2M (GO X tb) ltD) := OpR.imp' (op_lt (X := X)) fun _ _ _ _ h => r2_cmp h
theorem op_leM : OpR X (compareOp .LtE) (R2M (GO X tb) leD) := OpR.imp' (op_le (X := X)) fun _ _ _ _ h => r2_cmp h
theorem op_gtM : OpR X (compareOp .Gt) (R2M (GO X tb) gtD) := OpR.imp' (op_gt (X := X)) fun _ _ _ _ h => r2_cmp h
theorem op_geM : OpR X (compareOp .GtE) (R2M (GO X tb) geD) := OpR.imp' (op_ge (X := X)) fun _ _ _ _ h => r2_cmp h
end
/-- is None, is True: by values -/
def isNonD : F1
  | .non, hs => some (.bl true, hs)
  | _, hs => some (.bl false, hs)

/-! ### equality at any depth -/
def eqL (f : D → D → Bool) : List D → List D → Bool
  | [], [] => true
  | x :: xs, y :: ys => match f x y with
    | true => eqL f xs ys
    | false => false
  | _, _ => false
def allL (f : D → Bool) : List D → Bool
  | [] => true
  | x :: xs => match f x with
    | true => allL f xs
    | false => false
def anyL (f : D → Bool) : List D → Bool
  | [] => false
  | x :: xs => match f x with
    | true => true
    | false => anyL f xs
def natsEq : List Nat → List Nat → Bool
  | [], [] => true
  | x :: xs, y :: ys => match Nat.beq x y with
    | true => natsEq xs ys
    | false => false
  | _, _ => false
theorem natsEq_iff : ∀ (a b : List Nat), natsEq a b = true ↔ a = b
  | [], [] => by simp [natsEq]
  | x :: xs, y :: ys => by
    unfold natsEq
    cases h : Nat.beq x y with
    | true => simp [natsEq_iff xs ys, Nat.eq_of_beq_eq_true h]
    | false => simp [Nat.ne_of_beq_eq_false h]
  | [], _ :: _ => by simp [natsEq]
  | _ :: _, [] => by simp [natsEq]
def strEq (a b : Str) : Bool := natsEq a.cps.toList b.cps.toList
theorem strEq_beq (a b : Str) : strEq a b = (a == b) := by
  rw [Bool.eq_iff_iff, strEq, natsEq_iff, beq_iff_eq]
  constructor
  · intro h
    cases a; cases b
    simpa using h
  · intro h; rw [h]
def intEq : Int → Int → Bool
  | .ofNat a, .ofNat b => Nat.beq a b
  | .negSucc a, .negSucc b => Nat.beq a b
  | _, _ => false
theorem intEq_beq (a b : Int) : intEq a b = (a == b) := by
  rw [Bool.eq_iff_iff, beq_iff_eq]
  cases a <;> cases b <;> simp [intEq, Int.ofNat_inj]
/-- == of flat things and tuples, n a bound of the depth -/
def deq : Nat → D → D → Bool
  | _, .int i, .int j => intEq i j
  | n + 1, .tup a, .tup b => eqL (deq n) a b
  | n + 1, .fro a, .fro b => eqL (deq n) a b
  | _, .str s, .str t => strEq s t
  | _, .bl a, .bl b => a == b
  | _, .non, .non => true
  | _, .bl a, .int j => (if a then 1 else 0) == j
  | _, .int i, .bl b => i == (if b then 1 else 0)
  | _, _, _ => false
/-- no list or dict within, no deeper than n -/
def shal : Nat → D → Bool
  | _, .int _ => true
  | n + 1, .tup a => allL (shal n) a
  | n + 1, .fro a => allL (shal n) a
  | _, .str s => PyData.strOk s
  | _, .bl _ => true
  | _, .non => true
  | _, _ => false
mutual
def pdOf : D → PyData
  | .non => .none
  | .bl b => .bool b
  | .int i => .int i
  | .str s => .str s
  | .tup ds => .tuple (pdAll ds)
  | .fro ds => .list (pdAll ds)
  | .ref _ => .none
  | .tuf _ => .none
def pdAll : List D → List PyData
  | [] => []
  | d :: ds => pdOf d :: pdAll ds
end
theorem allL_cons {f : D → Bool} {x : D} {xs : List D} (h : allL f (x :: xs) = true) : f x = true ∧ allL f xs = true := by
  unfold allL at h
  split at h
  · rename_i e; exact ⟨e, h⟩
  · cases h
theorem allL_mem {f : D → Bool} : ∀ {xs : List D}, allL f xs = true → ∀ x ∈ xs, f x = true
  | _ :: _, h, y, hy => by
    obtain ⟨h1, h2⟩ := allL_cons h
    rcases List.mem_cons.mp hy with e | hy
    · rw [e]; exact h1
    · exact allL_mem h2 y hy
theorem dp_all {K : PySem.W.Frag} {H : Hp} {m : List Addr} {n : Nat} (ih : ∀ (d : D) (v : V), shal n d = true → Rep K H m d v → Dp K H v (pdOf d)) : ∀ (ds : List D) (vs : List V), allL (shal n) ds = true → Reps K H m ds vs → DpAll K H vs (pdAll ds)
  | [], _, _, r => by cases r; exact .nil
  | d :: ds, _, h, r => by
    obtain ⟨h1, h2⟩ := allL_cons h
    cases r with
    | cons r t => exact .cons (ih _ _ h1 r) (dp_all ih ds _ h2 t)
theorem dp_of {K : PySem.W.Frag} {H : Hp} {m : List Addr} : ∀ (n : Nat) (d : D) (v : V), shal n d = true → Rep K H m d v → Dp K H v (pdOf d)
  | n, .non, _, _, r => by cases r; exact .non
  | n, .bl b, _, _, r => by cases r; exact .bl b
  | n, .int i, _, _, r => by cases r; exact .int i
  | n, .str s, _, _, r => by cases r; exact .str s
  | n, .ref i, _, h, _ => by cases n <;> cases h
  | n, .tuf i, _, h, _ => by cases n <;> cases h
  | 0, .tup ds, _, h, _ => by cases h
  | 0, .fro ds, _, h, _ => by cases h
  | n + 1, .tup ds, _, h, r => by
    cases r with
    | tup hx rx => exact .tup hx (dp_all (dp_of n) ds _ h rx)
  | n + 1, .fro ds, _, h, r => by
    cases r with
    | fro hx rx => exact .lst hx.sq (dp_all (dp_of n) ds _ h rx)
theorem lay_all {n : Nat} (ih : ∀ d : D, shal n d = true → (pdOf d).canLay0 = true ∧ (pdOf d).depth ≤ n) : ∀ ds : List D, allL (shal n) ds = true → PyData.canLayAll0 (pdAll ds) = true ∧ PyData.depthAll (pdAll ds) ≤ n
  | [], _ => by simp [pdAll, PyData.canLayAll0, PyData.depthAll]
  | d :: ds, h => by
    obtain ⟨h1, h2⟩ := allL_cons h
    obtain ⟨a, b⟩ := ih d h1
    obtain ⟨a', b'⟩ := lay_all ih ds h2
    refine ⟨by simp only [pdAll, PyData.canLayAll0, a, a', Bool.and_self], ?_⟩
    simp only [pdAll, PyData.depthAll]
    omega
theorem lay_of : ∀ (n : Nat) (d : D), shal n d = true → (pdOf d).canLay0 = true ∧ (pdOf d).depth ≤ n
  | n, .non, _ => by simp [pdOf, PyData.canLay0, PyData.depth]
  | n, .bl b, _ => by simp [pdOf, PyData.canLay0, PyData.depth]
  | n, .int i, _ => by simp [pdOf, PyData.canLay0, PyData.depth]
  | n, .str s, h => by
    have h' : PyData.strOk s = true := by cases n <;> exact h
    simp [pdOf, PyData.canLay0, PyData.depth, h']
  | n, .ref i, h => by cases n <;> cases h
  | n, .tuf i, h => by cases n <;> cases h
  | 0, .tup ds, h => by cases h
  | 0, .fro ds, h => by cases h
  | n + 1, .tup ds, h => by
    obtain ⟨a, b⟩ := lay_all (lay_of n) ds h
    simp only [pdOf, PyData.canLay0, PyData.depth]
    exact ⟨a, Nat.succ_le_succ b⟩
  | n + 1, .fro ds, h => by
    obtain ⟨a, b⟩ := lay_all (lay_of n) ds h
    simp only [pdOf, PyData.canLay0, PyData.depth]
    exact ⟨a, Nat.succ_le_succ b⟩
theorem shaped_of {n : Nat} {d : D} (h : shal n d = true) (hn : n ≤ 64) : SeqAt.shaped (pdOf d) = true := by
  obtain ⟨a, b⟩ := lay_of n d h
  show ((pdOf d).canLay0 && decide ((pdOf d).depth ≤ 64)) = true
  rw [a, decide_eq_true (by omega)]; rfl
theorem eq_all {n : Nat} (ih : ∀ d e : D, shal n d = true → shal n e = true → deq n d e = PyData.eqv (pdOf d) (pdOf e)) : ∀ ds es : List D, allL (shal n) ds = true → allL (shal n) es = true → eqL (deq n) ds es = PyData.eqvAll (pdAll ds) (pdAll es)
  | [], [], _, _ => by simp [eqL, pdAll, PyData.eqvAll]
  | [], _ :: _, _, _ => by simp [eqL, pdAll, PyData.eqvAll]
  | _ :: _, [], _, _ => by simp [eqL, pdAll, PyData.eqvAll]
  | d :: ds, e :: es, h, h' => by
    obtain ⟨h1, h2⟩ := allL_cons h
    obtain ⟨h1', h2'⟩ := allL_cons h'
    have a := ih d e h1 h1'
    have b := eq_all ih ds es h2 h2'
    simp only [eqL, pdAll, PyData.eqvAll, ← a, ← b]
    cases deq n d e <;> rfl
theorem deq_eq : ∀ (n : Nat) (d e : D), shal n d = true → shal n e = true → deq n d e = PyData.eqv (pdOf d) (pdOf e)
  | 0, d, e, h, h' => by
    cases d <;> cases e <;> first | (simp [shal] at h; done) | (simp [shal] at h'; done) | simp [deq, pdOf, PyData.eqv, intEq_beq, strEq_beq]
  | n + 1, d, e, h, h' => by
    cases d with
    | tup ds =>
      cases e with
      | tup es => simpa [deq, pdOf, PyData.eqv] using eq_all (deq_eq n) ds es h h'
      | ref i => cases h'
      | tuf i => cases h'
      | _ => simp [deq, pdOf, PyData.eqv]
    | fro ds =>
      cases e with
      | fro es => simpa [deq, pdOf, PyData.eqv] using eq_all (deq_eq n) ds es h h'
      | ref i => cases h'
      | tuf i => cases h'
      | _ => simp [deq, pdOf, PyData.eqv]
    | ref i => cases h
    | tuf i => cases h
    | _ =>
      cases e with
      | ref i => cases h'
      | tuf i => cases h'
      | _ => simp [deq, pdOf, PyData.eqv, intEq_beq, strEq_beq]
end Mir

/-! MirD: ==, in, tests, and, or, not, if-else, displays, subscripts, slices. -/
namespace Mir
open PySem PySem.Spec PyProof.Rows L2

/-! ### == and in -/
def eqD : F2 := fun d e hs => match d, e with
  | .int i, .int j => some (.bl (intEq i j), hs)
  | .ref i, .ref j => match at? hs i, at? hs j with
    | some (.lst a), some (.lst b) => match allL (shal 12) a, allL (shal 12) b with
      | true, true => some (.bl (eqL (deq 12) a b), hs)
      | _, _ => none
    | _, _ => none
  | d, e => match shal 12 d, shal 12 e with
    | true, true => some (.bl (deq 12 d e), hs)
    | _, _ => none
def notF (f : F2) : F2 := fun d e hs => match f d e hs with
  | some (.bl b, hs') => some (.bl (!b), hs')
  | _ => none
/-- what eqD finds -/
theorem eqD_dp {K : PySem.W.Frag} {tb : List Addr} {m : List Addr} {hs hs' : Hs} {H : Hp} {d e r : D} {x y : V} (hr : HR ⟨K, tb⟩ m hs H) (rx : Rep K H m d x) (ry : Rep K H m e y) (h : eqD d e hs = some (r, hs')) :
    hs' = hs ∧ ∃ p q b, r = .bl b ∧ Dp K H x p ∧ Dp K H y q ∧ SeqAt.shaped p = true ∧ SeqAt.shaped q = true ∧ b = PyData.eqv p q := by
  unfold eqD at h
  split at h
  · cases h
    cases rx; cases ry
    exact ⟨rfl, _, _, _, rfl, .int _, .int _, by simp [SeqAt.shaped, PyData.canLay0, PyData.depth], by simp [SeqAt.shaped, PyData.canLay0, PyData.depth], by simp [PyData.eqv, intEq_beq]⟩
  · split at h
    · rename_i a b ea eb
      split at h
      · rename_i sa sb
        cases h
        cases rx with
        | ref e1 =>
          cases ry with
          | ref e2 =>
            obtain ⟨xs, hx, rx'⟩ := hr.lst e1 ea
            obtain ⟨ys, hy, ry'⟩ := hr.lst e2 eb
            have la := lay_all (lay_of 12) a sa
            have lb := lay_all (lay_of 12) b sb
            refine ⟨rfl, .list (pdAll a), .list (pdAll b), _, rfl, .lst (.of hx) (dp_all (dp_of 12) a xs sa rx'), .lst (.of hy) (dp_all (dp_of 12) b ys sb ry'), ?_, ?_, ?_⟩
            · show (PyData.canLay0 (.list (pdAll a)) && decide (PyData.depth (.list (pdAll a)) ≤ 64)) = true
              simp only [PyData.canLay0, PyData.depth, la.1, Bool.true_and]
              exact decide_eq_true (by have := la.2; omega)
            · show (PyData.canLay0 (.list (pdAll b)) && decide (PyData.depth (.list (pdAll b)) ≤ 64)) = true
              simp only [PyData.canLay0, PyData.depth, lb.1, Bool.true_and]
              exact decide_eq_true (by have := lb.2; omega)
            · simp only [PyData.eqv]
              exact eq_all (deq_eq 12) a b sa sb
      · cases h
    · cases h
  · split at h
    · rename_i sa sb
      cases h
      exact ⟨rfl, _, _, _, rfl, dp_of 12 _ _ sa rx, dp_of 12 _ _ sb ry, shaped_of sa (by decide), shaped_of sb (by decide), deq_eq 12 _ _ sa sb⟩
    · cases h
section
variable {X : Cx} {tb : List Addr}
theorem op_eqM (hu : X.A.units + 64 < cLine) : OpR X (compareOp .Eq) (R2M (GO X tb) eqD) := by
  refine OpR.imp' (op_eqD hu) fun x y H Q h => ?_
  obtain ⟨d, e, hs, m, hr, rx, ry, r, hs', ef, q⟩ := h
  obtain ⟨rfl, p, p', b, rfl, h1, h2, h3, h4, rfl⟩ := eqD_dp hr rx ry ef
  exact ⟨p, p', h1, h2, h3, h4, q _ _ _ .refl hr (.bl _)⟩
theorem op_neM (hu : X.A.units + 64 < cLine) : OpR X (compareOp .NotEq) (R2M (GO X tb) (notF eqD)) := by
  refine OpR.imp' (op_neD hu) fun x y H Q h => ?_
  obtain ⟨d, e, hs, m, hr, rx, ry, r, hs', ef, q⟩ := h
  unfold notF at ef
  split at ef
  · rename_i b hs2 e2
    cases ef
    obtain ⟨rfl, p, p', b', eb, h1, h2, h3, h4, e4⟩ := eqD_dp hr rx ry e2
    cases eb
    subst e4
    exact ⟨p, p', h1, h2, h3, h4, q _ _ _ .refl hr (.bl _)⟩
  · cases ef
end
/-- x in a tuple, a list -/
def inL (x : D) (ds : List D) : Bool := anyL (fun z => deq 12 z x) ds
def inD : F2 := fun d e hs => match e with
  | .tup ds => match shal 12 d, allL (shal 12) ds with
    | true, true => some (.bl (inL d ds), hs)
    | _, _ => none
  | .ref i => match at? hs i with
    | some (.lst ds) => match shal 12 d, allL (shal 12) ds with
      | true, true => some (.bl (inL d ds), hs)
      | _, _ => none
    | _ => none
  | _ => none
theorem any_inL {d : D} (sd : shal 12 d = true) : ∀ {ds : List D}, allL (shal 12) ds = true → (pdAll ds).any (fun z => PyData.eqv z (pdOf d)) = inL d ds
  | [], _ => by simp [pdAll, inL, anyL]
  | z :: ds, h => by
    obtain ⟨h1, h2⟩ := allL_cons h
    have ih := any_inL sd h2
    have e := deq_eq 12 z d h1 sd
    simp only [inL] at ih
    simp only [pdAll, List.any_cons, inL, anyL, ← e, ih]
    cases deq 12 z d <;> rfl
theorem list_shaped {ds : List D} (h : allL (shal 12) ds = true) : SeqAt.shaped (.list (pdAll ds)) = true ∧ SeqAt.shaped (.tuple (pdAll ds)) = true := by
  have la := lay_all (lay_of 12) ds h
  constructor
  · show (PyData.canLay0 (.list (pdAll ds)) && decide (PyData.depth (.list (pdAll ds)) ≤ 64)) = true
    simp only [PyData.canLay0, PyData.depth, la.1, Bool.true_and]
    exact decide_eq_true (by have := la.2; omega)
  · show (PyData.canLay0 (.tuple (pdAll ds)) && decide (PyData.depth (.tuple (pdAll ds)) ≤ 64)) = true
    simp only [PyData.canLay0, PyData.depth, la.1, Bool.true_and]
    exact decide_eq_true (by have := la.2; omega)
def rInT (K : PySem.W.Frag) (neg : Bool) : R2 := fun x y H Q => ∃ d ds, Dp K H x d ∧ Dp K H y (.tuple ds) ∧ SeqAt.shaped d = true ∧ SeqAt.shaped (.tuple ds) = true ∧ Q (.bl (if neg then !(ds.any fun z => PyData.eqv z d) else ds.any fun z => PyData.eqv z d)) H
section
variable {X : Cx} {tb : List Addr}
theorem op_inT (hu : X.A.units + 65 < cLine) : OpR X (compareOp .In) (rInT X.K false) := by
  intro pins s σ H x y v u Q I rx ry h
  obtain ⟨d, ds, hd, he, sd, se, q⟩ := h
  obtain ⟨as, r1⟩ := Dp.reads I d x v hd rx
  obtain ⟨bs, r2⟩ := Dp.reads I (.tuple ds) y u he ry
  refine SeqAt.in_tuple_reads r2 r1 (SeqAt.canLay_of_shaped se) (SeqAt.canLay_of_shaped sd) ?_ ⟨.bl _, H, I, rfl, q⟩
  have h1 := SeqAt.depth_of_shaped sd
  have h2 : min (PyData.depthAll ds) d.depth ≤ d.depth := Nat.min_le_right _ _
  omega
theorem op_notInT (hu : X.A.units + 65 < cLine) : OpR X (compareOp .NotIn) (rInT X.K true) := by
  intro pins s σ H x y v u Q I rx ry h
  obtain ⟨d, ds, hd, he, sd, se, q⟩ := h
  obtain ⟨as, r1⟩ := Dp.reads I d x v hd rx
  obtain ⟨bs, r2⟩ := Dp.reads I (.tuple ds) y u he ry
  refine SeqAt.notIn_tuple_reads r2 r1 (SeqAt.canLay_of_shaped se) (SeqAt.canLay_of_shaped sd) ?_ ⟨.bl _, H, I, rfl, q⟩
  have h1 := SeqAt.depth_of_shaped sd
  have h2 : min (PyData.depthAll ds) d.depth ≤ d.depth := Nat.min_le_right _ _
  omega
theorem inD_cases {K : PySem.W.Frag} {m : List Addr} {hs hs' : Hs} {H : Hp} {d e r : D} {x y : V} (hr : HR ⟨K, tb⟩ m hs H) (rx : Rep K H m d x) (ry : Rep K H m e y) (h : inD d e hs = some (r, hs')) :
    hs' = hs ∧ ∃ p ds, Dp K H x p ∧ SeqAt.shaped p = true ∧ ((Dp K H y (.tuple ds) ∧ SeqAt.shaped (.tuple ds) = true) ∨ (Dp K H y (.list ds) ∧ SeqAt.shaped (.list ds) = true)) ∧ r = .bl (ds.any fun z => PyData.eqv z p) := by
  unfold inD at h
  split at h
  · split at h
    · rename_i sd sl
      cases h
      cases ry with
      | tup hy ry' => exact ⟨rfl, _, _, dp_of 12 _ _ sd rx, shaped_of sd (by decide), .inl ⟨.tup hy (dp_all (dp_of 12) _ _ sl ry'), (list_shaped sl).2⟩, by rw [any_inL sd sl]⟩
    · cases h
  · split at h
    · rename_i i ds ei
      split at h
      · rename_i sd sl
        cases h
        cases ry with
        | ref e1 =>
          obtain ⟨ys, hy, ry'⟩ := hr.lst e1 ei
          exact ⟨rfl, _, _, dp_of 12 _ _ sd rx, shaped_of sd (by decide), .inr ⟨.lst (.of hy) (dp_all (dp_of 12) _ _ sl ry'), (list_shaped sl).1⟩, by rw [any_inL sd sl]⟩
      · cases h
    · cases h
  · cases h
theorem op_inM (hu : X.A.units + 65 < cLine) : OpR X (compareOp .In) (R2M (GO X tb) inD) := by
  refine OpR.imp' ((op_inT hu).or (op_inD hu)) fun x y H Q h => ?_
  obtain ⟨d, e, hs, m, hr, rx, ry, r, hs', ef, q⟩ := h
  obtain ⟨rfl, p, ds, h1, h2, h3, rfl⟩ := inD_cases hr rx ry ef
  rcases h3 with ⟨h3, h4⟩ | ⟨h3, h4⟩
  · exact .inl ⟨p, ds, h1, h3, h2, h4, q _ _ _ .refl hr (.bl _)⟩
  · exact .inr ⟨p, ds, h1, h3, h2, h4, q _ _ _ .refl hr (.bl _)⟩
theorem op_notInM (hu : X.A.units + 65 < cLine) : OpR X (compareOp .NotIn) (R2M (GO X tb) (notF inD)) := by
  refine OpR.imp' ((op_notInT hu).or (op_notInD hu)) fun x y H Q h => ?_
  obtain ⟨d, e, hs, m, hr, rx, ry, r, hs', ef, q⟩ := h
  unfold notF at ef
  split at ef
  · rename_i b hs2 e2
    cases ef
    obtain ⟨rfl, p, ds, h1, h2, h3, h5⟩ := inD_cases hr rx ry e2
    cases h5
    rcases h3 with ⟨h3, h4⟩ | ⟨h3, h4⟩
    · exact .inl ⟨p, ds, h1, h3, h2, h4, q _ _ _ .refl hr (.bl _)⟩
    · exact .inr ⟨p, ds, h1, h3, h2, h4, q _ _ _ .refl hr (.bl _)⟩
  · cases ef
end

/-! ### expressions of operators -/
section
variable {X : Cx} {tb : List Addr} {a b c : Expr} {fa fb fc : EM} {pos : Pos}
theorem m_bin {op : Operator} {f2 : F2} (ho : OpR X (binaryOp op) (R2M (GO X tb) f2)) (ha : PE X a (TM (GO X tb) fa)) (hb : PE X b (TM (GO X tb) fb)) : PE X (.BinOp a op b pos) (TM (GO X tb) (mBin f2 fa fb)) :=
  (pe_op ho ha hb).imp fun _ _ _ => tm_bin
theorem m_un {op : UnaryOp} {f1 : F1} (ho : UnR X (unaryOp op) (R1M (GO X tb) f1)) (ha : PE X a (TM (GO X tb) fa)) : PE X (.UnaryOp op a pos) (TM (GO X tb) (mUn f1 fa)) :=
  (pe_un ho ha).imp fun _ _ _ => tm_un
theorem m_cmp {op : CmpOp} {f2 : F2} (ho : OpR X (compareOp op) (R2M (GO X tb) f2)) (ha : PE X a (TM (GO X tb) fa)) (hb : PE X b (TM (GO X tb) fb)) (hm : behindInMarks op b = false := by first | exact nomark _ | rfl) : PE X (.Compare a [op] [b] pos) (TM (GO X tb) (mBin f2 fa fb)) :=
  (pe_cmpR ho ha hb hm).imp fun _ _ _ => tm_bin
/-- a value that is a bool, as a test -/
def mTest (f : EM) : BM := fun ρ hs => match f ρ hs with
  | some (.bl b, hs') => some (b, hs')
  | _ => none
theorem tb_test {G : GX} {f : EM} {σ : L2.St} {H : Hp} {Q : Bool → Hp → Prop} (h : TB G (mTest f) σ H Q) : TM G f σ H fun x H' => ∃ k, x = .bl k ∧ Q k H' := by
  obtain ⟨ρ, hs, m, sl, hr, r, hs', e, q⟩ := h
  unfold mTest at e
  split at e
  · rename_i b hs2 e2
    cases e
    exact ⟨ρ, hs, m, sl, hr, _, _, e2, fun v H' m' n' hr' rv => ⟨r, by cases rv; rfl, q H' m' n' hr'⟩⟩
  · cases e
theorem mt_cmp {op : CmpOp} {f2 : F2} (ho : OpR X (compareOp op) (R2M (GO X tb) f2)) (ha : PE X a (TM (GO X tb) fa)) (hb : PE X b (TM (GO X tb) fb)) (hm : behindInMarks op b = false := by first | exact nomark _ | rfl) : PT X (.Compare a [op] [b] pos) (TB (GO X tb) (mTest (mBin f2 fa fb))) :=
  (pt_cmpR ho ha hb hm).imp fun _ _ _ h => tm_bin (tb_test h)
/-- a op b op' c -/
def mChain (f2 f2' : F2) (fa fb fc : EM) : EM := fun ρ hs => match fa ρ hs with
  | some (d, hs1) => match fb ρ hs1 with
    | some (e, hs2) => match f2 d e hs2 with
      | some (.bl true, hs3) => match fc ρ hs3 with
        | some (g, hs4) => f2' e g hs4
        | none => none
      | some (.bl false, hs3) => some (.bl false, hs3)
      | _ => none
    | none => none
  | none => none
theorem tm_chain {G : GX} {f2 f2' : F2} {fa fb fc : EM} {σ : L2.St} {H : Hp} {Q : VK} (h : TM G (mChain f2 f2' fa fb fc) σ H Q) : tChain (R2M G f2) (R2M G f2') (TM G fa) (TM G fb) (TM G fc) σ H Q := by
  obtain ⟨ρ, hs, m, sl, hr, r, hs', e, q⟩ := h
  unfold mChain at e
  split at e
  · rename_i d hs1 e1
    split at e
    · rename_i e2 hs2 ee
      refine ⟨ρ, hs, m, sl, hr, d, hs1, e1, fun x H1 m1 n1 hr1 rx => ?_⟩
      refine ⟨ρ, hs1, m1, sl.nx hr n1, hr1, e2, hs2, ee, fun y H2 m2 n2 hr2 ry => ?_⟩
      split at e
      · rename_i hs3 e3
        refine ⟨d, e2, hs2, m2, hr2, rx.nx hr1 n2, ry, _, _, e3, fun z H3 m3 n3 hr3 rz => ⟨true, by cases rz; rfl, ?_⟩⟩
        refine iteT ?_
        split at e
        · rename_i g hs4 e4
          refine ⟨ρ, hs3, m3, ((sl.nx hr n1).nx hr1 n2).nx hr2 n3, hr3, g, hs4, e4, fun w H4 m4 n4 hr4 rw => ?_⟩
          exact ⟨e2, g, hs4, m4, hr4, (ry.nx hr2 n3).nx hr3 n4, rw, r, hs', e, fun v H' m' n' => q v H' m' ((((n1.trans n2).trans n3).trans n4).trans n')⟩
        · cases e
      · rename_i hs3 e3
        cases e
        refine ⟨d, e2, hs2, m2, hr2, rx.nx hr1 n2, ry, _, _, e3, fun z H3 m3 n3 hr3 rz => ⟨false, by cases rz; rfl, ?_⟩⟩
        refine iteF ?_
        exact q _ _ _ ((n1.trans n2).trans n3) hr3 (.bl _)
      · cases e
    · cases e
  · cases e
theorem m_chain {op op' : CmpOp} {f2 f2' : F2} (ho : OpR X (compareOp op) (R2M (GO X tb) f2)) (ho' : OpR X (compareOp op') (R2M (GO X tb) f2')) (ha : PE X a (TM (GO X tb) fa)) (hb : PE X b (TM (GO X tb) fb)) (hc : PE X c (TM (GO X tb) fc))
    (hm : lastMarks [op, op'] [b, c] = false := by with_unfolding_all rfl) : PE X (.Compare a [op, op'] [b, c] pos) (TM (GO X tb) (mChain f2 f2' fa fb fc)) := (pe_chain ho ho' ha hb hc hm).imp fun _ _ _ => tm_chain
theorem mt_chain {op op' : CmpOp} {f2 f2' : F2} (ho : OpR X (compareOp op) (R2M (GO X tb) f2)) (ho' : OpR X (compareOp op') (R2M (GO X tb) f2')) (ha : PE X a (TM (GO X tb) fa)) (hb : PE X b (TM (GO X tb) fb)) (hc : PE X c (TM (GO X tb) fc))
    (hm : lastMarks [op, op'] [b, c] = false := by with_unfolding_all rfl) : PT X (.Compare a [op, op'] [b, c] pos) (TB (GO X tb) (mTest (mChain f2 f2' fa fb fc))) := (pt_chain ho ho' ha hb hc hm).imp fun _ _ _ h => tm_chain (tb_test h)

/-! ### truth, and, or, not -/
def truD : D → Hs → Option Bool
  | .non, _ => some false
  | .bl b, _ => some b
  | .int i, _ => some (i != 0)
  | .str s, _ => if cap s.length then some ((s.length : Int) != 0) else none
  | .tup ds, _ => some (match ds with | [] => false | _ => true)
  | .fro ds, _ => some (match ds with | [] => false | _ => true)
  | .ref i, hs => match at? hs i with
    | some (.lst ds) => some (match ds with | [] => false | _ => true)
    | some (.dK kvs) => some (match kvs with | [] => false | _ => true)
    | _ => none
  | .tuf _, _ => none
theorem tru_of {K : PySem.W.Frag} {m : List Addr} {hs : Hs} {H : Hp} {d : D} {x : V} {k : Bool} (hr : HR ⟨K, tb⟩ m hs H) (rx : Rep K H m d x) (h : truD d hs = some k) : TruV K x H k := by
  have em : ∀ {ds : List D} {xs : List V}, Reps K H m ds xs → (match ds with | [] => false | _ => true) = !xs.isEmpty := fun {ds xs} r => by cases r <;> rfl
  cases rx with
  | non => cases h; exact rfl
  | bl b => cases h; exact rfl
  | int i => cases h; exact rfl
  | str s =>
    unfold truD at h
    split at h <;> rename_i heq
    · cases heq
    · cases heq
    · cases heq
    · cases heq
      split at h
      · rename_i hc
        cases h
        exact ⟨cap_le hc, rfl⟩
      · cases h
    · cases heq
    · cases heq
    · cases heq
    · cases heq
  | ref e =>
    rename_i n a
    have h : (match at? hs n with | some (.lst ds) => some (match ds with | [] => false | _ => true) | some (.dK kvs) => some (match kvs with | [] => false | _ => true) | _ => none) = some k := h
    split at h
    · rename_i ds e2
      cases h
      obtain ⟨xs, hx, r⟩ := hr.lst e e2
      exact .inl ⟨xs, .of hx, em r⟩
    · rename_i kvs e2
      cases h
      obtain ⟨ks, hx, hk, _⟩ := hr.dK e e2
      refine .inr (.inr ⟨ks, hx, ?_⟩)
      have hl := congrArg List.length hk
      rw [List.length_map, List.length_map] at hl
      cases kvs <;> cases ks <;> first | rfl | (simp at hl)
    · cases h
  | tup hx r => cases h; exact .inr (.inl ⟨_, hx, em r⟩)
  | fro hx r => cases h; exact .inl ⟨_, hx.sq, em r⟩
  | tuf hx hd r => cases h
def mTru (f : EM) : BM := fun ρ hs => match f ρ hs with
  | some (d, hs') => match truD d hs' with
    | some b => some (b, hs')
    | none => none
  | none => none
theorem tb_tru {K : PySem.W.Frag} {f : EM} {σ : L2.St} {H : Hp} {Q : Bool → Hp → Prop} (h : TB ⟨K, tb⟩ (mTru f) σ H Q) : TM ⟨K, tb⟩ f σ H fun x H' => ∃ k, TruV K x H' k ∧ Q k H' := by
  obtain ⟨ρ, hs, m, sl, hr, r, hs', e, q⟩ := h
  unfold mTru at e
  split at e
  · rename_i d hs2 e2
    split at e
    · rename_i b eb
      cases e
      exact ⟨ρ, hs, m, sl, hr, _, _, e2, fun v H' m' n' hr' rv => ⟨r, tru_of hr' rv eb, q H' m' n' hr'⟩⟩
    · cases e
  · cases e
theorem mt_truth (ha : PE X a (TM (GO X tb) fa)) (he : ∀ whole, isTrue a X.env whole = (do let v ← whole; standAt a.pos; holding [v] (truthy v)) := by intro _; rfl) : PT X a (TB (GO X tb) (mTru fa)) :=
  (pt_truth ha he).imp fun _ _ _ h => tb_tru h
def mAndB (f g : BM) : BM := fun ρ hs => match f ρ hs with
  | some (true, hs') => g ρ hs'
  | some (false, hs') => some (false, hs')
  | none => none
def mOrB (f g : BM) : BM := fun ρ hs => match f ρ hs with
  | some (false, hs') => g ρ hs'
  | some (true, hs') => some (true, hs')
  | none => none
def mNotB (f : BM) : BM := fun ρ hs => match f ρ hs with
  | some (b, hs') => some (!b, hs')
  | none => none
variable {ba bb : BM} {rest : List Expr}
theorem mw_and1 {G : GX} (ha : PT X a (TB G ba)) : PW X (.BoolOp .And [a] pos) (TB G ba) := pw_and1 ha
theorem mw_or1 {G : GX} (ha : PT X a (TB G ba)) : PW X (.BoolOp .Or [a] pos) (TB G ba) := pw_or1 ha
theorem mw_and {G : GX} (ha : PT X a (TB G ba)) (hb : PW X (.BoolOp .And (b :: rest) pos) (TB G bb)) : PW X (.BoolOp .And (a :: b :: rest) pos) (TB G (mAndB ba bb)) := by
  refine (pw_and ha hb).imp fun σ H Q ⟨ρ, hs, m, sl, hr, r, hs', e, q⟩ => ?_
  unfold mAndB at e
  split at e
  · rename_i hs1 e1
    exact ⟨ρ, hs, m, sl, hr, _, _, e1, fun H' m' n' hr' => iteT ⟨ρ, hs1, m', sl.nx hr n', hr', r, hs', e, fun H2 m2 n2 => q H2 m2 (n'.trans n2)⟩⟩
  · rename_i hs1 e1
    cases e
    exact ⟨ρ, hs, m, sl, hr, _, _, e1, fun H' m' n' hr' => iteF (q H' m' n' hr')⟩
  · cases e
theorem mw_or {G : GX} (ha : PT X a (TB G ba)) (hb : PW X (.BoolOp .Or (b :: rest) pos) (TB G bb)) : PW X (.BoolOp .Or (a :: b :: rest) pos) (TB G (mOrB ba bb)) := by
  refine (pw_or ha hb).imp fun σ H Q ⟨ρ, hs, m, sl, hr, r, hs', e, q⟩ => ?_
  unfold mOrB at e
  split at e
  · rename_i hs1 e1
    exact ⟨ρ, hs, m, sl, hr, _, _, e1, fun H' m' n' hr' => iteF ⟨ρ, hs1, m', sl.nx hr n', hr', r, hs', e, fun H2 m2 n2 => q H2 m2 (n'.trans n2)⟩⟩
  · rename_i hs1 e1
    cases e
    exact ⟨ρ, hs, m, sl, hr, _, _, e1, fun H' m' n' hr' => iteT (q H' m' n' hr')⟩
  · cases e
theorem mt_not {G : GX} (ha : PT X a (TB G ba)) : PT X (.UnaryOp .Not a pos) (TB G (mNotB ba)) := by
  refine (pt_not ha).imp fun σ H Q ⟨ρ, hs, m, sl, hr, r, hs', e, q⟩ => ?_
  unfold mNotB at e
  split at e
  · rename_i b hs1 e1
    cases e
    exact ⟨ρ, hs, m, sl, hr, _, _, e1, fun H' m' n' hr' => q H' m' n' hr'⟩
  · cases e
/-- as values -/
def mAndV (f g : EM) : EM := fun ρ hs => match f ρ hs with
  | some (d, hs') => match truD d hs' with
    | some true => g ρ hs'
    | some false => some (d, hs')
    | none => none
  | none => none
def mOrV (f g : EM) : EM := fun ρ hs => match f ρ hs with
  | some (d, hs') => match truD d hs' with
    | some false => g ρ hs'
    | some true => some (d, hs')
    | none => none
  | none => none
def mNotV (f : EM) : EM := fun ρ hs => match f ρ hs with
  | some (d, hs') => match truD d hs' with
    | some b => some (.bl (!b), hs')
    | none => none
  | none => none
theorem m_one {op} {G : GX} (h : PE X a (TM G fa)) : PE X (.BoolOp op [a] pos) (TM G fa) := pe_one h
theorem m_and (ha : PE X a (TM (GO X tb) fa)) (hb : PE X (.BoolOp .And (b :: rest) pos) (TM (GO X tb) fb)) : PE X (.BoolOp .And (a :: b :: rest) pos) (TM (GO X tb) (mAndV fa fb)) := by
  refine (pe_andT ha hb).imp fun σ H Q ⟨ρ, hs, m, sl, hr, r, hs', e, q⟩ => ?_
  unfold mAndV at e
  split at e
  · rename_i d hs1 e1
    split at e
    · rename_i et
      exact ⟨ρ, hs, m, sl, hr, _, _, e1, fun v H' m' n' hr' rv => ⟨true, tru_of hr' rv et, iteT ⟨ρ, hs1, m', sl.nx hr n', hr', r, hs', e, fun v H2 m2 n2 => q v H2 m2 (n'.trans n2)⟩⟩⟩
    · rename_i et
      cases e
      exact ⟨ρ, hs, m, sl, hr, _, _, e1, fun v H' m' n' hr' rv => ⟨false, tru_of hr' rv et, iteF (q v H' m' n' hr' rv)⟩⟩
    · cases e
  · cases e
theorem m_or (ha : PE X a (TM (GO X tb) fa)) (hb : PE X (.BoolOp .Or (b :: rest) pos) (TM (GO X tb) fb)) : PE X (.BoolOp .Or (a :: b :: rest) pos) (TM (GO X tb) (mOrV fa fb)) := by
  refine (pe_orT ha hb).imp fun σ H Q ⟨ρ, hs, m, sl, hr, r, hs', e, q⟩ => ?_
  unfold mOrV at e
  split at e
  · rename_i d hs1 e1
    split at e
    · rename_i et
      exact ⟨ρ, hs, m, sl, hr, _, _, e1, fun v H' m' n' hr' rv => ⟨false, tru_of hr' rv et, iteF ⟨ρ, hs1, m', sl.nx hr n', hr', r, hs', e, fun v H2 m2 n2 => q v H2 m2 (n'.trans n2)⟩⟩⟩
    · rename_i et
      cases e
      exact ⟨ρ, hs, m, sl, hr, _, _, e1, fun v H' m' n' hr' rv => ⟨true, tru_of hr' rv et, iteT (q v H' m' n' hr' rv)⟩⟩
    · cases e
  · cases e
theorem m_not (ha : PE X a (TM (GO X tb) fa)) : PE X (.UnaryOp .Not a pos) (TM (GO X tb) (mNotV fa)) := by
  refine (pe_notT ha).imp fun σ H Q ⟨ρ, hs, m, sl, hr, r, hs', e, q⟩ => ?_
  unfold mNotV at e
  split at e
  · rename_i d hs1 e1
    split at e
    · rename_i et
      cases e
      exact ⟨ρ, hs, m, sl, hr, _, _, e1, fun v H' m' n' hr' rv => ⟨_, tru_of hr' rv et, q _ H' m' n' hr' (.bl _)⟩⟩
    · cases e
  · cases e
def mIfE (c : BM) (f g : EM) : EM := fun ρ hs => match c ρ hs with
  | some (true, hs') => f ρ hs'
  | some (false, hs') => g ρ hs'
  | none => none
theorem m_if {G : GX} (hc : PT X c (TB G ba)) (ha : PE X a (TM G fa)) (hb : PE X b (TM G fb)) : PE X (.IfExp c a b pos) (TM G (mIfE ba fa fb)) := by
  refine (pe_ifExp hc ha hb).imp fun σ H Q ⟨ρ, hs, m, sl, hr, r, hs', e, q⟩ => ?_
  unfold mIfE at e
  split at e
  · rename_i hs1 e1
    exact ⟨ρ, hs, m, sl, hr, _, _, e1, fun H' m' n' hr' => iteT ⟨ρ, hs1, m', sl.nx hr n', hr', r, hs', e, fun v H2 m2 n2 => q v H2 m2 (n'.trans n2)⟩⟩
  · rename_i hs1 e1
    exact ⟨ρ, hs, m, sl, hr, _, _, e1, fun H' m' n' hr' => iteF ⟨ρ, hs1, m', sl.nx hr n', hr', r, hs', e, fun v H2 m2 n2 => q v H2 m2 (n'.trans n2)⟩⟩
  · cases e

/-! ### argument lists, displays -/
def mNil : AM := fun _ hs => some ([], hs)
def mCons (f : EM) (g : AM) : AM := fun ρ hs => match f ρ hs with
  | some (d, hs1) => match g ρ hs1 with
    | some (ds, hs2) => some (d :: ds, hs2)
    | none => none
  | none => none
variable {e : Expr} {es : List Expr} {fe : EM} {fas : AM}
theorem ma_nil {G : GX} : PA X [] (TAm G mNil) := pa_nil.imp fun σ H Q ⟨ρ, hs, m, sl, hr, r, hs', e, q⟩ => by
  cases e
  exact q _ _ _ .refl hr .nil
theorem ma_cons {G : GX} (ha : PE X e (TM G fe)) (hr' : PA X es (TAm G fas)) (hs : starEach (e :: es) X.env = (false, eval e X.env) :: starEach es X.env := by rfl) : PA X (e :: es) (TAm G (mCons fe fas)) := by
  refine (pa_cons ha hr' hs).imp fun σ H Q ⟨ρ, hs, m, sl, hr, r, hs', e, q⟩ => ?_
  unfold mCons at e
  split at e
  · rename_i d hs1 e1
    split at e
    · rename_i ds hs2 e2
      cases e
      refine ⟨ρ, hs, m, sl, hr, _, _, e1, fun v H1 m1 n1 hr1 rv => ?_⟩
      exact ⟨ρ, hs1, m1, sl.nx hr n1, hr1, _, _, e2, fun vs H2 m2 n2 hr2 rvs => q _ H2 m2 (n1.trans n2) hr2 (.cons (rv.nx hr1 n2) rvs)⟩
    · cases e
  · cases e
def mTup (g : AM) : EM := fun ρ hs => match g ρ hs with
  | some (ds, hs') => if cap ds.length then some (.tup ds, hs') else none
  | none => none
def mLst (g : AM) : EM := fun ρ hs => match g ρ hs with
  | some (ds, hs') => if cap ds.length then some (.ref hs'.length, hs' ++ [.lst ds]) else none
  | none => none
theorem m_tup {x1} {G : GX} (h : PA X es (TAm G fas)) : PE X (.Tuple es x1 pos) (TM G (mTup fas)) := by
  refine (pe_tup h).imp fun σ H Q ⟨ρ, hs, m, sl, hr, r, hs', e, q⟩ => ?_
  unfold mTup at e
  split at e
  · rename_i ds hs1 e1
    split at e
    · rename_i hc
      cases e
      exact ⟨ρ, hs, m, sl, hr, _, _, e1, fun vs H1 m1 n1 hr1 rv => ⟨by rw [← rv.length]; exact cap_le hc, fun p hp => fin_tup hr1 rv hp fun v H' m' n' => q v H' m' (n1.trans n')⟩⟩
    · cases e
  · cases e
theorem m_lst {G : GX} (h : PA X es (TAm G fas)) : PE X (.List es pos) (TM G (mLst fas)) := by
  refine (pe_lst h).imp fun σ H Q ⟨ρ, hs, m, sl, hr, r, hs', e, q⟩ => ?_
  unfold mLst at e
  split at e
  · rename_i ds hs1 e1
    split at e
    · rename_i hc
      cases e
      exact ⟨ρ, hs, m, sl, hr, _, _, e1, fun vs H1 m1 n1 hr1 rv => ⟨by rw [← rv.length]; exact cap_le hc, fun p hp => fin_lst hr1 rv hp fun v H' m' n' => q v H' m' (n1.trans n')⟩⟩
    · cases e
  · cases e

/-! ### subscripts -/
/-- the place that an index of any sign means -/
def ixD (n : Nat) : Int → Option Nat
  | .ofNat i => if Nat.blt i n then some i else none
  | .negSucc i => if Nat.blt i n then some (n - (i + 1)) else none
theorem ixD_eq (n : Nat) (i : Int) {j : Nat} (h : ixD n i = some j) : ixN n i = some j := by
  unfold ixN
  cases i with
  | ofNat i =>
    have h : (if Nat.blt i n = true then some i else none) = some j := h
    split at h
    · rename_i hb
      have hb : i < n := Nat.le_of_ble_eq_true hb
      cases h
      have h1 : (0 : Int) ≤ (j : Nat) := by omega
      have h2 : ((j : Nat) : Int) < n := by omega
      rw [if_pos (show (0 : Int) ≤ Int.ofNat j from h1), if_pos (show (Int.ofNat j : Int) < n from h2)]
      rfl
    · cases h
  | negSucc i =>
    have h : (if Nat.blt i n = true then some (n - (i + 1)) else none) = some j := h
    split at h
    · rename_i hb
      have hb : i < n := Nat.le_of_ble_eq_true hb
      cases h
      have e : Int.negSucc i = -((i : Int) + 1) := rfl
      rw [e, if_neg (by omega), if_pos (by omega)]
      congr 1
      omega
    · cases h
def getL (ds : List D) (i : Int) : Option D := match ixD ds.length i with
  | some j => at? ds j
  | none => none
theorem getL_rep {K : PySem.W.Frag} {H : Hp} {m : List Addr} {ds : List D} {xs : List V} {i : Int} {d : D} (r : Reps K H m ds xs) (h : getL ds i = some d) : ∃ v, atI xs i = some v ∧ Rep K H m d v := by
  unfold getL at h
  split at h
  · rename_i j e
    rw [at?_eq] at h
    obtain ⟨v, h1, h2⟩ := r.get h
    refine ⟨v, ?_, h2⟩
    unfold atI
    rw [← r.length, ixD_eq _ _ e]
    exact h1
  · cases h
def ixF : F2 := fun d e hs => match e with
  | .int i => match d with
    | .tup ds => match getL ds i with
      | some x => some (x, hs)
      | none => none
    | .fro ds => match getL ds i with
      | some x => some (x, hs)
      | none => none
    | .ref n => match at? hs n with
      | some (.lst ds) => match getL ds i with
        | some x => some (x, hs)
        | none => none
      | _ => none
    | .str s => if cap s.length then match ixD s.cps.toList.length i with
      | some j => match at? s.cps.toList j with
        | some c => some (.str ⟨#[c]⟩, hs)
        | none => none
      | none => none else none
    | _ => none
  | _ => none
theorem ix_M : IxR X (R2M (GO X tb) ixF) := by
  refine IxR.imp' ((ix_list (X := X)).or (ix_tup.or ix_str)) fun x y H Q h => ?_
  obtain ⟨d, e, hs, m, hr, rx, ry, r, hs', ef, q⟩ := h
  unfold ixF at ef
  split at ef
  · rename_i i
    cases ry
    split at ef
    · rename_i ds
      split at ef
      · rename_i z ez
        cases ef
        cases rx with
        | tup hx rx' =>
          obtain ⟨v, h1, h2⟩ := getL_rep rx' ez
          exact .inr (.inl ⟨_, _, _, v, rfl, rfl, hx, h1, q _ _ _ .refl hr h2⟩)
      · cases ef
    · rename_i ds
      split at ef
      · rename_i z ez
        cases ef
        cases rx with
        | fro hx rx' =>
          obtain ⟨v, h1, h2⟩ := getL_rep rx' ez
          exact .inl ⟨_, _, _, v, rfl, rfl, hx.sq, h1, q _ _ _ .refl hr h2⟩
      · cases ef
    · rename_i n
      split at ef
      · rename_i ds en
        split at ef
        · rename_i z ez
          cases ef
          cases rx with
          | ref e1 =>
            obtain ⟨xs, hx, rx'⟩ := hr.lst e1 en
            obtain ⟨v, h1, h2⟩ := getL_rep rx' ez
            exact .inl ⟨_, _, _, v, rfl, rfl, .of hx, h1, q _ _ _ .refl hr h2⟩
        · cases ef
      · cases ef
    · rename_i s
      split at ef
      · rename_i hc
        split at ef
        · rename_i j ej
          split at ef
          · rename_i c ec
            cases ef
            cases rx
            refine .inr (.inr ⟨_, _, c, rfl, rfl, cap_le hc, ?_, q _ _ _ .refl hr (.str _)⟩)
            unfold atI
            rw [ixD_eq _ _ ej]
            show s.cps.toList[j]? = some c
            rw [← at?_eq]
            exact ec
          · cases ef
        · cases ef
      · cases ef
    · cases ef
  · cases ef
theorem m_ix (ha : PE X a (TM (GO X tb) fa)) (hb : PE X b (TM (GO X tb) fb)) (hs : PlainIx b := by intro _ _; rfl) : PE X (.Subscript a b pos) (TM (GO X tb) (mBin ixF fa fb)) :=
  (pe_ix ix_M ha hb hs).imp fun _ _ _ => tm_bin

/-! ### slices -/
/-- an end of a slice, by the length -/
def sixD (n d : Nat) : Option Int → Nat
  | none => d
  | some (.ofNat i) => if Nat.ble i n then i else n
  | some (.negSucc i) => n - (i + 1)
theorem sixD_eq (n d : Nat) (o : Option Int) : sixD n d o = HT.sIx n d o := by
  cases o with
  | none => rfl
  | some v =>
    cases v with
    | ofNat i =>
      show (if Nat.ble i n = true then i else n) = if ((i : Nat) : Int) < 0 then (((i : Nat) : Int) + (n : Int)).toNat else min ((i : Nat) : Int).toNat n
      have h0 : ¬ (((i : Nat) : Int) < 0) := by omega
      rw [@ite_cond_eq_false Nat (((i : Nat) : Int) < 0) _ _ _ (eq_false h0), Int.toNat_natCast]
      by_cases h : i ≤ n
      · rw [if_pos (Nat.ble_eq.mpr h)]; omega
      · rw [if_neg (by rw [Nat.ble_eq]; exact h)]; omega
    | negSucc i =>
      show n - (i + 1) = if (Int.negSucc i : Int) < 0 then (Int.negSucc i + (n : Int)).toNat else min (Int.negSucc i : Int).toNat n
      have e : Int.negSucc i = -((i : Int) + 1) := rfl
      rw [if_pos (by rw [e]; omega), e]
      omega
def cutD {α : Type} (ds : List α) (lo hi : Option Int) : List α := (ds.drop (sixD ds.length 0 lo)).take (sixD ds.length ds.length hi - sixD ds.length 0 lo)
theorem cutD_rep {K : PySem.W.Frag} {H : Hp} {m : List Addr} {ds : List D} {xs : List V} (r : Reps K H m ds xs) (lo hi : Option Int) : Reps K H m (cutD ds lo hi) (cutV xs lo hi) := by
  unfold cutD cutV
  rw [sixD_eq, sixD_eq, r.length]
  exact (r.drop _).take _
abbrev F3 := D → Option Int → Option Int → Hs → Option (D × Hs)
def R3M (G : GX) (f : F3) : V → Option Int → Option Int → Hp → VK → Prop := fun x lo hi H Q => ∃ d hs m, HR G m hs H ∧ Rep G.K H m d x ∧ ∃ r hs', f d lo hi hs = some (r, hs') ∧ ∀ v H' m', Nx m H m' H' → HR G m' hs' H' → Rep G.K H' m' r v → Q v H'
theorem SlR.imp' {r r' : V → Option Int → Option Int → Hp → VK → Prop} (h : SlR X r) (i : ∀ x lo hi H Q, r' x lo hi H Q → r x lo hi H Q) : SlR X r' := fun pins s σ H x v vl vu lo hi sl Q I rx hs pl pu q => h pins s σ H x v vl vu lo hi sl Q I rx hs pl pu (i x lo hi H Q q)
def slF : F3 := fun d lo hi hs => match d with
  | .tup ds => some (.tup (cutD ds lo hi), hs)
  | .ref n => match at? hs n with
    | some (.lst ds) => some (.ref hs.length, hs ++ [.lst (cutD ds lo hi)])
    | _ => none
  | _ => none
theorem sl_M : SlR X (R3M (GO X tb) slF) := by
  refine SlR.imp' ((sl_tupA (X := X)).or sl_list) fun x lo hi H Q h => ?_
  obtain ⟨d, hs, m, hr, rx, r, hs', ef, q⟩ := h
  unfold slF at ef
  split at ef
  · rename_i ds
    cases ef
    cases rx with
    | tup hx rx' =>
      refine .inl ⟨_, _, rfl, hx, fun hw => ?_, fun _ p hp => fin_tup hr (cutD_rep rx' lo hi) hp q⟩
      have e : cutD ds lo hi = ds := by
        unfold cutD
        rw [sixD_eq, sixD_eq, rx'.length, hw.1, hw.2, List.drop_zero, Nat.sub_zero, ← rx'.length, List.take_length]
      rw [e] at q
      exact q _ _ _ .refl hr (.tup hx rx')
  · rename_i n
    split at ef
    · rename_i ds en
      cases ef
      cases rx with
      | ref e1 =>
        obtain ⟨xs, hx, rx'⟩ := hr.lst e1 en
        exact .inr ⟨_, _, rfl, .of hx, fun p hp => fin_lst hr (cutD_rep rx' lo hi) hp q⟩
    · cases ef
  · cases ef
abbrev OM := En → Hs → Option (Option Int × Hs)
def TOm (G : GX) (f : OM) : TO := fun σ H Q => ∃ ρ hs m, SL G H m ρ σ ∧ HR G m hs H ∧ ∃ o hs', f ρ hs = some (o, hs') ∧ ∀ H' m', Nx m H m' H' → HR G m' hs' H' → Q o H'
def mNoPart : OM := fun _ hs => some (none, hs)
def mPart (f : EM) : OM := fun ρ hs => match f ρ hs with
  | some (.int i, hs') => some (some i, hs')
  | _ => none
theorem PO.imp' {o : Option Expr} {t t' : TO} (h : PO X o t) (i : ∀ σ H Q, t' σ H Q → t σ H Q) : PO X o t' := ⟨fun pins s σ H Q I q => h.run pins s σ H Q I (i σ H Q q)⟩
theorem mo_none {G : GX} : PO X none (TOm G mNoPart) := PO.imp' po_none fun σ H Q ⟨ρ, hs, m, sl, hr, o, hs', e, q⟩ => by
  cases e
  exact q _ _ .refl hr
theorem mo_some {G : GX} (h : PE X e (TM G fe)) : PO X (some e) (TOm G (mPart fe)) := PO.imp' (po_some h) fun σ H Q ⟨ρ, hs, m, sl, hr, o, hs', ee, q⟩ => by
  unfold mPart at ee
  split at ee
  · rename_i i hs1 e1
    cases ee
    exact ⟨ρ, hs, m, sl, hr, _, _, e1, fun v H' m' n' hr' rv => ⟨i, by cases rv; rfl, q H' m' n' hr'⟩⟩
  · cases ee
def mSl (f3 : F3) (f : EM) (l u : OM) : EM := fun ρ hs => match f ρ hs with
  | some (d, hs1) => match l ρ hs1 with
    | some (lo, hs2) => match u ρ hs2 with
      | some (hi, hs3) => f3 d lo hi hs3
      | none => none
    | none => none
  | none => none
theorem m_slice {lo hi : Option Expr} {fl fh : OM} {p2 : Pos} (he : PE X e (TM (GO X tb) fe)) (hl : PO X lo (TOm (GO X tb) fl)) (hu : PO X hi (TOm (GO X tb) fh)) : PE X (.Subscript e (.Slice lo hi none p2) pos) (TM (GO X tb) (mSl slF fe fl fh)) := by
  refine (pe_slice (sl_M (tb := tb)) he hl hu).imp fun σ H Q ⟨ρ, hs, m, sl, hr, r, hs', ee, q⟩ => ?_
  unfold mSl at ee
  split at ee
  · rename_i d hs1 e1
    split at ee
    · rename_i lo hs2 e2
      split at ee
      · rename_i hi hs3 e3
        refine ⟨ρ, hs, m, sl, hr, _, _, e1, fun x H1 m1 n1 hr1 rx => ?_⟩
        refine ⟨ρ, hs1, m1, sl.nx hr n1, hr1, _, _, e2, fun H2 m2 n2 hr2 => ?_⟩
        refine ⟨ρ, hs2, m2, (sl.nx hr n1).nx hr1 n2, hr2, _, _, e3, fun H3 m3 n3 hr3 => ?_⟩
        exact ⟨d, hs3, m3, hr3, (rx.nx hr1 n2).nx hr2 n3, r, hs', ee, fun v H' m' n' => q v H' m' (((n1.trans n2).trans n3).trans n')⟩
      · cases ee
    · cases ee
  · cases ee
end
end Mir

/-! MirE: quiet mirrors, what they leave is dropped; calls of defs and of built-ins. -/
namespace Mir
open PySem PySem.Spec PyProof.Rows L2

/-! ### quiet: only new things behind the heap -/
def Grows (hs hs' : Hs) : Prop := ∃ r, hs' = hs ++ r
theorem Grows.refl {hs : Hs} : Grows hs hs := ⟨[], by simp⟩
theorem Grows.trans {a b c : Hs} (x : Grows a b) (y : Grows b c) : Grows a c := by
  obtain ⟨r, rfl⟩ := x
  obtain ⟨r', rfl⟩ := y
  exact ⟨r ++ r', by rw [List.append_assoc]⟩
theorem Grows.one {hs : Hs} {o : O} : Grows hs (hs ++ [o]) := ⟨[o], rfl⟩
class QE (f : EM) : Prop where
  q : ∀ ρ hs d hs', f ρ hs = some (d, hs') → Grows hs hs'
class QB (f : BM) : Prop where
  q : ∀ ρ hs d hs', f ρ hs = some (d, hs') → Grows hs hs'
class QA (f : AM) : Prop where
  q : ∀ ρ hs d hs', f ρ hs = some (d, hs') → Grows hs hs'
class QO (f : OM) : Prop where
  q : ∀ ρ hs d hs', f ρ hs = some (d, hs') → Grows hs hs'
class Q2 (f : F2) : Prop where
  q : ∀ d e hs r hs', f d e hs = some (r, hs') → Grows hs hs'
class Q1 (f : F1) : Prop where
  q : ∀ d hs r hs', f d hs = some (r, hs') → Grows hs hs'
class Q3 (f : F3) : Prop where
  q : ∀ d lo hi hs r hs', f d lo hi hs = some (r, hs') → Grows hs hs'
abbrev FM := List D → Hs → Option (D × Hs)
class QF (f : FM) : Prop where
  q : ∀ ds hs d hs', f ds hs = some (d, hs') → Grows hs hs'

instance {i : Nat} : QE (mVar i) := ⟨fun ρ hs d hs' h => by
  unfold mVar at h
  split at h
  · cases h; exact .refl
  · cases h⟩
instance {d : D} : QE (mC d) := ⟨fun ρ hs d' hs' h => by cases h; exact .refl⟩
instance {f2 : F2} {f g : EM} [a : QE f] [b : QE g] [c : Q2 f2] : QE (mBin f2 f g) := ⟨fun ρ hs d hs' h => by
  unfold mBin at h
  split at h
  · rename_i d1 h1 e1
    split at h
    · rename_i d2 h2 e2
      exact ((a.q _ _ _ _ e1).trans (b.q _ _ _ _ e2)).trans (c.q _ _ _ _ _ h)
    · cases h
  · cases h⟩
instance {f1 : F1} {f : EM} [a : QE f] [c : Q1 f1] : QE (mUn f1 f) := ⟨fun ρ hs d hs' h => by
  unfold mUn at h
  split at h
  · rename_i d1 h1 e1
    exact (a.q _ _ _ _ e1).trans (c.q _ _ _ _ h)
  · cases h⟩
instance : Q2 addD := ⟨fun d e hs r hs' h => by
  unfold addD at h
  split at h
  · cases h; exact .refl
  · split at h
    · cases h; exact .refl
    · cases h
  · split at h
    · split at h
      · cases h; exact .one
      · cases h
    · cases h
  · split at h
    · cases h; exact .refl
    · cases h
  · cases h⟩
instance : Q2 subD := ⟨fun d e hs r hs' h => by
  unfold subD at h
  split at h
  · cases h; exact .refl
  · cases h⟩
instance : Q2 mulI := ⟨fun d e hs r hs' h => by
  unfold mulI at h
  split at h
  · split at h
    · cases h; exact .refl
    · cases h
  · cases h⟩
instance : Q2 modD := ⟨fun d e hs r hs' h => by
  unfold modD at h
  split at h
  · split at h
    · cases h; exact .refl
    · cases h
  · cases h⟩
instance : Q2 fdivD := ⟨fun d e hs r hs' h => by
  unfold fdivD at h
  split at h
  · split at h
    · split at h
      · cases h; exact .refl
      · cases h
    · cases h
  · cases h⟩
instance : Q2 powD := ⟨fun d e hs r hs' h => by
  unfold powD at h
  split at h
  · split at h
    · cases h; exact .refl
    · cases h
  · cases h⟩
instance : Q1 negD := ⟨fun d hs r hs' h => by
  unfold negD at h
  split at h
  · cases h; exact .refl
  · cases h⟩
instance {p : Int → Int → Bool} : Q2 (cmpI p) := ⟨fun d e hs r hs' h => by
  unfold cmpI at h
  split at h
  · cases h; exact .refl
  · cases h⟩
instance : Q2 ltD := inferInstanceAs (Q2 (cmpI _))
instance : Q2 leD := inferInstanceAs (Q2 (cmpI _))
instance : Q2 gtD := inferInstanceAs (Q2 (cmpI _))
instance : Q2 geD := inferInstanceAs (Q2 (cmpI _))
instance : Q2 eqD := ⟨fun d e hs r hs' h => by
  unfold eqD at h
  split at h
  · cases h; exact .refl
  · split at h
    · split at h
      · cases h; exact .refl
      · cases h
    · cases h
  · split at h
    · cases h; exact .refl
    · cases h⟩
instance : Q2 inD := ⟨fun d e hs r hs' h => by
  unfold inD at h
  split at h
  · split at h
    · cases h; exact .refl
    · cases h
  · split at h
    · split at h
      · cases h; exact .refl
      · cases h
    · cases h
  · cases h⟩
instance {f : F2} [a : Q2 f] : Q2 (notF f) := ⟨fun d e hs r hs' h => by
  unfold notF at h
  split at h
  · rename_i e1; cases h; exact a.q _ _ _ _ _ e1
  · cases h⟩
instance : Q2 ixF := ⟨fun d e hs r hs' h => by
  unfold ixF at h
  split at h
  · split at h
    · split at h
      · cases h; exact .refl
      · cases h
    · split at h
      · cases h; exact .refl
      · cases h
    · split at h
      · split at h
        · cases h; exact .refl
        · cases h
      · cases h
    · split at h
      · split at h
        · split at h
          · cases h; exact .refl
          · cases h
        · cases h
      · cases h
    · cases h
  · cases h⟩
instance : Q3 slF := ⟨fun d lo hi hs r hs' h => by
  unfold slF at h
  split at h
  · cases h; exact .refl
  · split at h
    · cases h; exact .one
    · cases h
  · cases h⟩
instance : QO mNoPart := ⟨fun ρ hs d hs' h => by cases h; exact .refl⟩
instance {f : EM} [a : QE f] : QO (mPart f) := ⟨fun ρ hs d hs' h => by
  unfold mPart at h
  split at h
  · rename_i e1; cases h; exact a.q _ _ _ _ e1
  · cases h⟩
instance {f3 : F3} {f : EM} {l u : OM} [a : QE f] [b : QO l] [c : QO u] [e : Q3 f3] : QE (mSl f3 f l u) := ⟨fun ρ hs d hs' h => by
  unfold mSl at h
  split at h
  · rename_i e1
    split at h
    · rename_i e2
      split at h
      · rename_i e3
        exact (((a.q _ _ _ _ e1).trans (b.q _ _ _ _ e2)).trans (c.q _ _ _ _ e3)).trans (e.q _ _ _ _ _ _ h)
      · cases h
    · cases h
  · cases h⟩
instance {f2 f2' : F2} {f g k : EM} [a : QE f] [b : QE g] [c : QE k] [p : Q2 f2] [p' : Q2 f2'] : QE (mChain f2 f2' f g k) := ⟨fun ρ hs d hs' h => by
  unfold mChain at h
  split at h
  · rename_i e1
    split at h
    · rename_i e2
      split at h
      · rename_i e3
        split at h
        · rename_i e4
          exact ((((a.q _ _ _ _ e1).trans (b.q _ _ _ _ e2)).trans (p.q _ _ _ _ _ e3)).trans (c.q _ _ _ _ e4)).trans (p'.q _ _ _ _ _ h)
        · cases h
      · rename_i e3
        cases h
        exact ((a.q _ _ _ _ e1).trans (b.q _ _ _ _ e2)).trans (p.q _ _ _ _ _ e3)
      · cases h
    · cases h
  · cases h⟩
instance {f : EM} [a : QE f] : QB (mTest f) := ⟨fun ρ hs d hs' h => by
  unfold mTest at h
  split at h
  · rename_i e1; cases h; exact a.q _ _ _ _ e1
  · cases h⟩
instance {f : EM} [a : QE f] : QB (mTru f) := ⟨fun ρ hs d hs' h => by
  unfold mTru at h
  split at h
  · rename_i e1
    split at h
    · cases h; exact a.q _ _ _ _ e1
    · cases h
  · cases h⟩
instance {f g : BM} [a : QB f] [b : QB g] : QB (mAndB f g) := ⟨fun ρ hs d hs' h => by
  unfold mAndB at h
  split at h
  · rename_i e1; exact (a.q _ _ _ _ e1).trans (b.q _ _ _ _ h)
  · rename_i e1; cases h; exact a.q _ _ _ _ e1
  · cases h⟩
instance {f g : BM} [a : QB f] [b : QB g] : QB (mOrB f g) := ⟨fun ρ hs d hs' h => by
  unfold mOrB at h
  split at h
  · rename_i e1; exact (a.q _ _ _ _ e1).trans (b.q _ _ _ _ h)
  · rename_i e1; cases h; exact a.q _ _ _ _ e1
  · cases h⟩
instance {f : BM} [a : QB f] : QB (mNotB f) := ⟨fun ρ hs d hs' h => by
  unfold mNotB at h
  split at h
  · rename_i e1; cases h; exact a.q _ _ _ _ e1
  · cases h⟩
instance {f g : EM} [a : QE f] [b : QE g] : QE (mAndV f g) := ⟨fun ρ hs d hs' h => by
  unfold mAndV at h
  split at h
  · rename_i e1
    split at h
    · exact (a.q _ _ _ _ e1).trans (b.q _ _ _ _ h)
    · cases h; exact a.q _ _ _ _ e1
    · cases h
  · cases h⟩
instance {f g : EM} [a : QE f] [b : QE g] : QE (mOrV f g) := ⟨fun ρ hs d hs' h => by
  unfold mOrV at h
  split at h
  · rename_i e1
    split at h
    · exact (a.q _ _ _ _ e1).trans (b.q _ _ _ _ h)
    · cases h; exact a.q _ _ _ _ e1
    · cases h
  · cases h⟩
instance {f : EM} [a : QE f] : QE (mNotV f) := ⟨fun ρ hs d hs' h => by
  unfold mNotV at h
  split at h
  · rename_i e1
    split at h
    · cases h; exact a.q _ _ _ _ e1
    · cases h
  · cases h⟩
instance {c : BM} {f g : EM} [a : QB c] [b : QE f] [e : QE g] : QE (mIfE c f g) := ⟨fun ρ hs d hs' h => by
  unfold mIfE at h
  split at h
  · rename_i e1; exact (a.q _ _ _ _ e1).trans (b.q _ _ _ _ h)
  · rename_i e1; exact (a.q _ _ _ _ e1).trans (e.q _ _ _ _ h)
  · cases h⟩
instance : QA mNil := ⟨fun ρ hs d hs' h => by cases h; exact .refl⟩
instance {f : EM} {g : AM} [a : QE f] [b : QA g] : QA (mCons f g) := ⟨fun ρ hs d hs' h => by
  unfold mCons at h
  split at h
  · rename_i e1
    split at h
    · rename_i e2; cases h; exact (a.q _ _ _ _ e1).trans (b.q _ _ _ _ e2)
    · cases h
  · cases h⟩
instance {g : AM} [a : QA g] : QE (mTup g) := ⟨fun ρ hs d hs' h => by
  unfold mTup at h
  split at h
  · rename_i e1
    split at h
    · cases h; exact a.q _ _ _ _ e1
    · cases h
  · cases h⟩
instance {g : AM} [a : QA g] : QE (mLst g) := ⟨fun ρ hs d hs' h => by
  unfold mLst at h
  split at h
  · rename_i e1
    split at h
    · cases h; exact (a.q _ _ _ _ e1).trans .one
    · cases h
  · cases h⟩

/-! ### what a quiet mirror left is dropped -/
section
variable {G : GX} {K : PySem.W.Frag} {m m' : List Addr} {hs hs' r : Hs} {H H' : Hp}
mutual
theorem Rep.cut (hm : ∃ t, m' = m ++ t) : ∀ {d : D} {v v' : V}, Rep K H m d v → Rep K H' m' d v' → Rep K H' m d v'
  | _, _, _, .non, s => by cases s; exact .non
  | _, _, _, .bl b, s => by cases s; exact .bl b
  | _, _, _, .int i, s => by cases s; exact .int i
  | _, _, _, .str x, s => by cases s; exact .str x
  | _, _, _, .ref e, s => by
    cases s with
    | ref e' =>
      obtain ⟨t, rfl⟩ := hm
      obtain ⟨h, _⟩ := List.getElem?_eq_some_iff.mp e
      rw [List.getElem?_append_left h] at e'
      exact .ref e'
  | _, _, _, .tup _ q, s => by
    cases s with
    | tup h2 q2 => exact .tup h2 (Reps.cut hm q q2)
  | _, _, _, .fro _ q, s => by
    cases s with
    | fro h2 q2 => exact .fro h2 (Reps.cut hm q q2)
  | _, _, _, .tuf _ _ q, s => by
    cases s with
    | tuf h2 d2 q2 => exact .tuf h2 d2 (Reps.cut hm q q2)
theorem Reps.cut (hm : ∃ t, m' = m ++ t) : ∀ {ds : List D} {vs vs' : List V}, Reps K H m ds vs → Reps K H' m' ds vs' → Reps K H' m ds vs'
  | _, _, _, .nil, s => by cases s; exact .nil
  | _, _, _, .cons q t, s => by
    cases s with
    | cons q2 t2 => exact .cons (Rep.cut hm q q2) (Reps.cut hm t t2)
end
theorem Nx.cut (n : Nx m H m' H') : Nx m H m H' := ⟨⟨[], by simp⟩, fun a h z => absurd h z, n.keep, n.there⟩
theorem HR.cut (hr : HR G m hs H) (n : Nx m H m' H') (hr' : HR G m' (hs ++ r) H') : HR G m hs H' := by
  refine ⟨hr.len, hr.nd, fun i a o e1 e2 => ?_, hr'.tab⟩
  have e2' : (hs ++ r)[i]? = some o := by
    obtain ⟨h, _⟩ := List.getElem?_eq_some_iff.mp e2
    rw [List.getElem?_append_left h]; exact e2
  have q := hr.obj i a o e1 e2
  have q' := hr'.obj i a o (n.ix e1) e2'
  cases o with
  | lst ds =>
    obtain ⟨xs, _, r1⟩ := q
    obtain ⟨ys, h2, r2⟩ := q'
    exact ⟨ys, h2, r1.cut n.pre r2⟩
  | dK ds =>
    obtain ⟨xs, _, _, r1⟩ := q
    obtain ⟨ys, h2, k2, r2⟩ := q'
    exact ⟨ys, h2, k2, r1.cut n.pre r2⟩
  | dT ds =>
    obtain ⟨xs, _, _, r1⟩ := q
    obtain ⟨ys, h2, k2, r2⟩ := q'
    exact ⟨ys, h2, k2, r1.cut n.pre r2⟩
/-- a value without places stands over any heap -/
theorem pure_reps {n : Nat} (ih : ∀ (d : D) (v : V), shal n d = true → Rep K H m d v → ∀ m', Rep K H m' d v) : ∀ {ds : List D} {vs : List V}, allL (shal n) ds = true → Reps K H m ds vs → ∀ m', Reps K H m' ds vs
  | [], _, _, r, _ => by cases r; exact .nil
  | d :: ds, _, h, r, m' => by
    obtain ⟨h1, h2⟩ := allL_cons h
    cases r with
    | cons r t => exact .cons (ih _ _ h1 r m') (pure_reps ih h2 t m')
theorem Rep.pure : ∀ (n : Nat) (d : D) (v : V), shal n d = true → Rep K H m d v → ∀ m', Rep K H m' d v
  | n, .non, _, _, r, _ => by cases r; exact .non
  | n, .bl b, _, _, r, _ => by cases r; exact .bl b
  | n, .int i, _, _, r, _ => by cases r; exact .int i
  | n, .str s, _, _, r, _ => by cases r; exact .str s
  | n, .ref i, _, h, _, _ => by cases n <;> cases h
  | n, .tuf i, _, h, _, _ => by cases n <;> cases h
  | 0, .tup ds, _, h, _, _ => by cases h
  | 0, .fro ds, _, h, _, _ => by cases h
  | n + 1, .tup ds, _, h, r, m' => by
    cases r with
    | tup hx rx => exact .tup hx (pure_reps (Rep.pure n) h rx m')
  | n + 1, .fro ds, _, h, r, m' => by
    cases r with
    | fro hx rx => exact .fro hx (pure_reps (Rep.pure n) h rx m')
end
/-- the value, and the heap as it was if the value is without places -/
def mQ (f : EM) : EM := fun ρ hs => match f ρ hs with
  | some (d, hs') => match shal 12 d with
    | true => some (d, hs)
    | false => some (d, hs')
  | none => none
def mQB (f : BM) : BM := fun ρ hs => match f ρ hs with
  | some (b, _) => some (b, hs)
  | none => none
theorem tm_Q {G : GX} {f : EM} [qf : QE f] {σ : L2.St} {H : Hp} {Q : VK} (h : TM G (mQ f) σ H Q) : TM G f σ H Q := by
  obtain ⟨ρ, hs, m, sl, hr, r, hs', e, q⟩ := h
  unfold mQ at e
  split at e
  · rename_i d hs1 e1
    obtain ⟨t, rfl⟩ := qf.q _ _ _ _ e1
    split at e
    · rename_i sd
      cases e
      exact ⟨ρ, _, m, sl, hr, _, _, e1, fun v H' m' n' hr' rv => q v H' m n'.cut (hr.cut n' hr') (rv.pure 12 _ _ sd m)⟩
    · cases e
      exact ⟨ρ, _, m, sl, hr, _, _, e1, q⟩
  · cases e
theorem tb_Q {G : GX} {f : BM} [qf : QB f] {σ : L2.St} {H : Hp} {Q : Bool → Hp → Prop} (h : TB G (mQB f) σ H Q) : TB G f σ H Q := by
  obtain ⟨ρ, hs, m, sl, hr, r, hs', e, q⟩ := h
  unfold mQB at e
  split at e
  · rename_i d hs1 e1
    obtain ⟨t, rfl⟩ := qf.q _ _ _ _ e1
    cases e
    exact ⟨ρ, _, m, sl, hr, _, _, e1, fun H' m' n' hr' => q H' m n'.cut (hr.cut n' hr')⟩
  · cases e
instance {f : EM} [a : QE f] : QE (mQ f) := ⟨fun ρ hs d hs' h => by
  unfold mQ at h
  split at h
  · rename_i e1
    split at h
    · cases h; exact .refl
    · cases h; exact a.q _ _ _ _ e1
  · cases h⟩
instance {f : BM} : QB (mQB f) := ⟨fun ρ hs d hs' h => by
  unfold mQB at h
  split at h
  · cases h; exact .refl
  · cases h⟩
section
variable {X : Cx} {G : GX} {e : Expr} {f : EM} {b : BM}
theorem m_Q [QE f] (h : PE X e (TM G f)) : PE X e (TM G (mQ f)) := h.imp fun _ _ _ => tm_Q
theorem mt_Q [QB b] (h : PT X e (TB G b)) : PT X e (TB G (mQB b)) := h.imp fun _ _ _ => tb_Q
end

/-! ### promises of defs -/
def spM (G : GX) (n : Nat) (F : FM) : Sp := fun vs H Q _ => vs.length = n ∧ ∃ ds hs m, HR G m hs H ∧ Reps G.K H m ds vs ∧ ∃ d hs', F ds hs = some (d, hs') ∧ ∀ v H' m', Nx m H m' H' → HR G m' hs' H' → Rep G.K H' m' d v → Q v H'
/-- a def's body as a function of its arguments; k more slots -/
def mBody (f : SM) (k : Nat) : FM := fun ds hs => match f (ds.map some ++ List.replicate k none) hs with
  | some (.nx _ hs') => some (.non, hs')
  | some (.ret d hs') => some (d, hs')
  | _ => none
theorem body_of {G : GX} {f : SM} {k : Nat} {N : List Str} {n : Nat} (hN : N.length = n + k) {vs : List V} {H : Hp} {Q : VK} {E : XK} (h : spM G n (mBody f k) vs H Q E) :
    TSM G f { nx := fun _ H' => Q .non H', rt := Q } (L2.start N vs) H := by
  obtain ⟨hl, ds, hs, m, hr, r, d, hs', e, q⟩ := h
  have sl : SL G H m (ds.map some ++ List.replicate k none) (L2.start N vs) := by
    unfold L2.start
    have hd := r.length
    refine ⟨by simp only [List.length_append, List.length_map, List.length_replicate]; omega, fun i d' ei => ?_⟩
    by_cases hi : i < ds.length
    · rw [List.getElem?_append_left (by rw [List.length_map]; exact hi), List.getElem?_map] at ei
      rw [List.getElem?_append_left (by rw [List.length_map]; omega), List.getElem?_map]
      cases e1 : ds[i]? with
      | none => rw [e1] at ei; cases ei
      | some d2 =>
        rw [e1] at ei
        cases ei
        obtain ⟨v, h1, h2⟩ := r.get e1
        exact ⟨v, by rw [h1]; rfl, h2⟩
    · rw [List.getElem?_append_right (by rw [List.length_map]; omega), List.getElem?_replicate] at ei
      split at ei <;> cases ei
  unfold mBody at e
  split at e
  · rename_i ρ' hs1 e1
    cases e
    exact ⟨_, hs, m, sl, hr, _, e1, fun σ' H' m' n' hr' _ => q .non H' m' n' hr' .non⟩
  · rename_i d' hs1 e1
    cases e
    exact ⟨_, hs, m, sl, hr, _, e1, fun v H' m' n' hr' rv => q v H' m' n' hr' rv⟩
  · cases e

/-! ### a call whose arguments are without places: the callee begins with an empty heap -/
mutual
def shD (n : Nat) : D → D
  | .ref i => .ref (n + i)
  | .tup ds => .tup (shL n ds)
  | .fro ds => .fro (shL n ds)
  | .tuf ds => .tuf (shL n ds)
  | .non => .non
  | .bl b => .bl b
  | .int i => .int i
  | .str s => .str s
def shL (n : Nat) : List D → List D
  | [] => []
  | d :: ds => shD n d :: shL n ds
end
def shK (n : Nat) : List (D × D) → List (D × D)
  | [] => []
  | (k, d) :: r => (k, shD n d) :: shK n r
def shO (n : Nat) : O → O
  | .lst ds => .lst (shL n ds)
  | .dK kvs => .dK (shK n kvs)
  | .dT kvs => .dT (shK n kvs)
section
variable {G : GX} {K : PySem.W.Frag} {m m' : List Addr} {hs hs' : Hs} {H H' : Hp}
mutual
theorem Rep.sh : ∀ {d : D} {v : V}, Rep K H m' d v → Rep K H (m ++ m') (shD m.length d) v
  | _, _, .non => by unfold shD; exact .non
  | _, _, .bl b => by unfold shD; exact .bl b
  | _, _, .int i => by unfold shD; exact .int i
  | _, _, .str x => by unfold shD; exact .str x
  | _, _, .ref e => by
    unfold shD
    exact .ref (by rw [List.getElem?_append_right (by omega), Nat.add_sub_cancel_left]; exact e)
  | _, _, .tup h q => by unfold shD; exact .tup h (Reps.sh q)
  | _, _, .fro h q => by unfold shD; exact .fro h (Reps.sh q)
  | _, _, .tuf h d q => by unfold shD; exact .tuf h d (Reps.sh q)
theorem Reps.sh : ∀ {ds : List D} {vs : List V}, Reps K H m' ds vs → Reps K H (m ++ m') (shL m.length ds) vs
  | _, _, .nil => by unfold shL; exact .nil
  | _, _, .cons q t => by unfold shL; exact .cons (Rep.sh q) (Reps.sh t)
end
theorem shK_keys (n : Nat) : ∀ kvs : List (D × D), (shK n kvs).map (·.1) = kvs.map (·.1)
  | [] => rfl
  | (k, d) :: r => by simp only [shK, List.map_cons, shK_keys n r]
theorem shK_vals (n : Nat) : ∀ kvs : List (D × D), (shK n kvs).map (·.2) = shL n (kvs.map (·.2))
  | [] => rfl
  | (k, d) :: r => by simp only [shK, shL, List.map_cons, shK_vals n r]
theorem RepO.sh {a : Addr} {o : O} (h : RepO K H m' a o) : RepO K H (m ++ m') a (shO m.length o) := by
  cases o with
  | lst ds => obtain ⟨xs, e, r⟩ := h; exact ⟨xs, e, r.sh⟩
  | dK ds => obtain ⟨xs, e, k, r⟩ := h; exact ⟨xs, e, by rw [shK_keys]; exact k, by rw [shK_vals]; exact r.sh⟩
  | dT ds => obtain ⟨xs, e, k, r⟩ := h; exact ⟨xs, e, by rw [shK_keys]; exact k, by rw [shK_vals]; exact r.sh⟩
theorem HR.empty (hr : HR G m hs H) : HR G [] [] H := ⟨rfl, .nil, fun i a o e => by simp at e, hr.tab⟩
/-- behind a callee that began with nothing -/
theorem HR.join (hr : HR G m hs H) (n : Nx [] H m' H') (hr' : HR G m' hs' H') : Nx m H (m ++ m') H' ∧ HR G (m ++ m') (hs ++ hs'.map (shO m.length)) H' := by
  have dj : ∀ a ∈ m, a ∉ m' := fun a ha hb => hr.no_none (n.fresh a hb (by simp)) ha
  have nx : Nx m H (m ++ m') H' := ⟨⟨m', rfl⟩, fun a h z => by
      rcases List.mem_append.mp h with h | h
      · exact absurd h z
      · exact n.fresh a h (by simp), fun a o e _ nt => n.keep a o e (by simp) nt, n.there⟩
  refine ⟨nx, ⟨by rw [List.length_append, List.length_append, List.length_map, hr.len, hr'.len], ?_, fun i a o e1 e2 => ?_, hr'.tab⟩⟩
  · rw [List.nodup_append]
    exact ⟨hr.nd, hr'.nd, fun a ha b hb e => dj a ha (e ▸ hb)⟩
  · by_cases hi : i < m.length
    · rw [List.getElem?_append_left hi] at e1
      rw [List.getElem?_append_left (by rw [← hr.len]; exact hi)] at e2
      have q := hr.obj i a o e1 e2
      obtain ⟨w, hw, _, _, nt⟩ := q.some
      exact q.nx hr nx ((n.keep a w hw (by simp) nt).trans hw.symm)
    · rw [List.getElem?_append_right (by omega)] at e1
      rw [List.getElem?_append_right (by rw [← hr.len]; omega), List.getElem?_map, ← hr.len] at e2
      cases z : hs'[i - m.length]? with
      | none => rw [z] at e2; cases e2
      | some o' =>
        rw [z] at e2
        cases e2
        exact (hr'.obj _ a o' e1 z).sh
end
def FP (F : FM) : FM := fun ds hs => match allL (shal 12) ds with
  | true => match F ds [] with
    | some (d, hs') => match shal 12 d with
      | true => some (d, hs)
      | false => some (shD hs.length d, hs ++ hs'.map (shO hs.length))
    | none => none
  | false => none
instance {F : FM} : QF (FP F) := ⟨fun ds hs d hs' h => by
  unfold FP at h
  split at h
  · split at h
    · split at h
      · cases h; exact .refl
      · cases h; exact ⟨_, rfl⟩
    · cases h
  · cases h⟩
theorem spM_FP {G : GX} {n : Nat} {F : FM} {vs : List V} {H : Hp} {Q : VK} {E : XK} (h : spM G n (FP F) vs H Q E) : spM G n F vs H Q E := by
  obtain ⟨hl, ds, hs, m, hr, r, d, hs', e, q⟩ := h
  unfold FP at e
  split at e
  · rename_i sd
    split at e
    · rename_i d1 hs1 e1
      have r0 : Reps G.K H [] ds vs := pure_reps (Rep.pure 12) sd r []
      refine ⟨hl, ds, [], [], hr.empty, r0, d1, hs1, e1, fun v H' m' n' hr' rv => ?_⟩
      split at e
      · rename_i s1
        cases e
        obtain ⟨nx, hr2⟩ := hr.join n' hr'
        exact q v H' m nx.cut (hr.cut nx hr2) (rv.pure 12 _ _ s1 m)
      · cases e
        obtain ⟨nx, hr2⟩ := hr.join n' hr'
        rw [hr.len] at hr2
        have rv2 : Rep G.K H' (m ++ m') (shD m.length d1) v := rv.sh
        rw [hr.len] at rv2
        exact q v H' (m ++ m') nx hr2 rv2
    · cases e
  · cases e
def mCall (F : FM) (g : AM) : EM := fun ρ hs => match g ρ hs with
  | some (ds, hs1) => F ds hs1
  | none => none
instance {F : FM} {g : AM} [a : QA g] [b : QF F] : QE (mCall F g) := ⟨fun ρ hs d hs' h => by
  unfold mCall at h
  split at h
  · rename_i e1; exact (a.q _ _ _ _ e1).trans (b.q _ _ _ _ h)
  · cases h⟩
section
variable {X : Cx} {tb : List Addr} {CX : CXT} {k n : Nat} {f : Addr} {fd : FuncData} {ps : List Str} {F : FM} {g : AM} {E : XK} {x : Str} {p pos : Pos} {e : Expr} {es : List Expr}
theorem tm_call {G : GX} {F : FM} {g : AM} {n : Nat} {dvs : List V} {dds : List D} {E : XK} {σ : L2.St} {H : Hp} {Q : VK} (hd : ∀ H m, Reps G.K H m dds dvs) (hn : ∀ ρ hs ds hs', g ρ hs = some (ds, hs') → ds.length + dds.length = n)
    (h : TM G (mCall (fun ds => F (ds ++ dds)) g) σ H Q) : tCall (spM G n F) dvs E (TAm G g) σ H Q := by
  obtain ⟨ρ, hs, m, sl, hr, r, hs', ee, q⟩ := h
  unfold mCall at ee
  split at ee
  · rename_i ds hs1 e1
    refine ⟨ρ, hs, m, sl, hr, _, _, e1, fun vs H1 m1 n1 hr1 rv => ?_⟩
    have rd := hd H1 m1
    refine ⟨by rw [List.length_append, ← rv.length, ← rd.length]; exact hn _ _ _ _ e1, ds ++ dds, hs1, m1, hr1, rv.append rd, r, hs', ee, fun v H' m' n' => q v H' m' (n1.trans n')⟩
  · cases ee
/-- the number of the arguments -/
class AN (g : AM) (n : outParam Nat) : Prop where
  n : ∀ ρ hs ds hs', g ρ hs = some (ds, hs') → ds.length = n
instance : AN mNil 0 := ⟨fun ρ hs ds hs' h => by cases h; rfl⟩
instance {f : EM} {g : AM} {n : Nat} [a : AN g n] : AN (mCons f g) (n + 1) := ⟨fun ρ hs ds hs' h => by
  unfold mCons at h
  split at h
  · split at h
    · rename_i e2; cases h; rw [List.length_cons, a.n _ _ _ _ e2]
    · cases h
  · cases h⟩
theorem tm_call0 {G : GX} {F : FM} {g : AM} {n : Nat} [a : AN g n] {E : XK} {σ : L2.St} {H : Hp} {Q : VK} (h : TM G (mCall F g) σ H Q) : tCall (spM G n F) [] E (TAm G g) σ H Q := by
  refine tm_call (dds := []) (fun _ _ => .nil) (fun ρ hs ds hs' e => ?_) ?_
  · exact a.n _ _ _ _ e
  · have e : (fun ds : List D => F (ds ++ [])) = F := by funext ds; rw [List.append_nil]
    rw [e]; exact h
/-- f(e, ..) -/
theorem m_call {a : Nat} [AN g a] (FO : FnOk X.prog X.w X.K X.mg X.base CX0 k f fd ps (spM (GO X tb) a F)) (hr : Room k X.A) (hg : Gl X x) (hm : X.mg x = some (.ref f)) (hk : PySem.W.keepIn X.K (.ref f) = true) (hb : Binds X.K fd ps [])
    (ha : PA X (e :: es) (TAm (GO X tb) g)) (hdb : (x == ("__debug__" : Str)) = false := by decide) (he : starEach (e :: es) X.env = (false, eval e X.env) :: starEach es X.env := by rfl) (hpl : (backTo pos (starEach es X.env)).any (·.1) = false := by rfl) :
    PE X (.Call (.Name x p) (e :: es) [] pos) (TM (GO X tb) (mCall F g)) :=
  (pe_call FO hr hg hm hk hb .nil pass0 ha hdb he hpl).imp fun _ _ _ => tm_call0
/-- .. whose last parameters take their defaults -/
theorem m_callD {a : Nat} [an : AN g a] {dvs : List V} {ds : List Value} {dds : List D} {b : Nat} (FO : FnOk X.prog X.w X.K X.mg X.base CX0 k f fd ps (spM (GO X tb) b F)) (hr : Room k X.A) (hg : Gl X x) (hm : X.mg x = some (.ref f)) (hk : PySem.W.keepIn X.K (.ref f) = true) (hb : Binds X.K fd ps ds)
    (hd : Vals dvs ds) (hdd : ∀ H m, Reps X.K H m dds dvs) (hab : a + dds.length = b) (ha : PA X (e :: es) (TAm (GO X tb) g)) (hdb : (x == ("__debug__" : Str)) = false := by decide) (he : starEach (e :: es) X.env = (false, eval e X.env) :: starEach es X.env := by rfl) (hpl : (backTo pos (starEach es X.env)).any (·.1) = false := by rfl) :
    PE X (.Call (.Name x p) (e :: es) [] pos) (TM (GO X tb) (mCall (fun ds => F (ds ++ dds)) g)) :=
  (pe_call FO hr hg hm hk hb hd pass0 ha hdb he hpl).imp fun _ _ _ => tm_call hdd fun _ _ _ _ ee => by rw [an.n _ _ _ _ ee]; exact hab
end
instance {F : FM} {dds : List D} [b : QF F] : QF (fun ds => F (ds ++ dds)) := ⟨fun ds hs d hs' h => b.q _ _ _ _ h⟩

/-! ### calls of built-ins -/
def RLM (G : GX) (g : FM) : List V → Hp → VK → Prop := fun vs H Q => ∃ ds hs m, HR G m hs H ∧ Reps G.K H m ds vs ∧ ∃ d hs', g ds hs = some (d, hs') ∧ ∀ v H' m', Nx m H m' H' → HR G m' hs' H' → Rep G.K H' m' d v → Q v H'
theorem CallR.imp' {X : Cx} {f : Value} {r r' : List V → Hp → VK → Prop} (h : CallR X f r) (i : ∀ xs H Q, r' xs H Q → r xs H Q) : CallR X f r' := fun pins s σ H xs us Q I r q => h pins s σ H xs us Q I r (i xs H Q q)
theorem CallR.or' {X : Cx} {f : Value} {r r' : List V → Hp → VK → Prop} (h : CallR X f r) (h' : CallR X f r') : CallR X f (fun xs H Q => r xs H Q ∨ r' xs H Q) := fun pins s σ H xs us Q I rr q => q.elim (h pins s σ H xs us Q I rr) (h' pins s σ H xs us Q I rr)
theorem tm_callB {G : GX} {F : FM} {g : AM} {σ : L2.St} {H : Hp} {Q : VK} (h : TM G (mCall F g) σ H Q) : tCB (RLM G F) (TAm G g) σ H Q := by
  obtain ⟨ρ, hs, m, sl, hr, r, hs', ee, q⟩ := h
  unfold mCall at ee
  split at ee
  · rename_i ds hs1 e1
    exact ⟨ρ, hs, m, sl, hr, _, _, e1, fun vs H1 m1 n1 hr1 rv => ⟨ds, hs1, m1, hr1, rv, r, hs', ee, fun v H' m' n' => q v H' m' (n1.trans n')⟩⟩
  · cases ee
section
variable {X : Cx} {tb : List Addr} {F : FM} {g : AM} {x : Str} {id T : String} {p pos : Pos} {e : Expr} {es : List Expr}
theorem m_callB (hc : CallR X (.builtin id) (RLM (GO X tb) F)) (hg : Gl X x) (hm : X.mg x = none) (hv : bootBuiltins x = some (.builtin id)) (ha : PA X (e :: es) (TAm (GO X tb) g)) (hn : x ≠ "__name__" := by decide) (hdb : (x == ("__debug__" : Str)) = false := by decide)
    (he : starEach (e :: es) X.env = (false, eval e X.env) :: starEach es X.env := by rfl) (hpl : (backTo pos (starEach es X.env)).any (·.1) = false := by rfl) : PE X (.Call (.Name x p) (e :: es) [] pos) (TM (GO X tb) (mCall F g)) :=
  (pe_callB hc hg hm hv ha hn hdb he hpl).imp fun _ _ _ => tm_callB
theorem m_callTy (hc : CallR X (.type T) (RLM (GO X tb) F)) (hg : Gl X x) (hm : X.mg x = none) (hv : bootBuiltins x = some (.type T)) (ha : PA X (e :: es) (TAm (GO X tb) g)) (hn : x ≠ "__name__" := by decide) (hdb : (x == ("__debug__" : Str)) = false := by decide)
    (he : starEach (e :: es) X.env = (false, eval e X.env) :: starEach es X.env := by rfl) (hpl : (backTo pos (starEach es X.env)).any (·.1) = false := by rfl) : PE X (.Call (.Name x p) (e :: es) [] pos) (TM (GO X tb) (mCall F g)) :=
  (pe_callTy hc hg hm hv ha hn hdb he hpl).imp fun _ _ _ => tm_callB
end
def lenL : FM := fun ds hs => match ds with
  | [.tup a] => some (.int a.length, hs)
  | [.fro a] => some (.int a.length, hs)
  | [.str s] => if cap s.length then some (.int s.length, hs) else none
  | [.ref i] => match at? hs i with
    | some (.lst a) => some (.int a.length, hs)
    | some (.dT a) => some (.int a.length, hs)
    | _ => none
  | _ => none
instance : QF lenL := ⟨fun ds hs d hs' h => by
  unfold lenL at h
  split at h
  · cases h; exact .refl
  · cases h; exact .refl
  · split at h
    · cases h; exact .refl
    · cases h
  · split at h
    · cases h; exact .refl
    · cases h; exact .refl
    · cases h
  · cases h⟩
theorem reps1 {K : PySem.W.Frag} {H : Hp} {m : List Addr} {d : D} {vs : List V} (r : Reps K H m [d] vs) : ∃ v, vs = [v] ∧ Rep K H m d v := by
  cases r with
  | cons r t => cases t; exact ⟨_, rfl, r⟩
theorem reps2 {K : PySem.W.Frag} {H : Hp} {m : List Addr} {d e : D} {vs : List V} (r : Reps K H m [d, e] vs) : ∃ v w, vs = [v, w] ∧ Rep K H m d v ∧ Rep K H m e w := by
  cases r with
  | cons r t =>
    obtain ⟨w, rfl, r2⟩ := reps1 t
    exact ⟨_, w, rfl, r, r2⟩
theorem cr_len {X : Cx} {tb : List Addr} : CallR X (.builtin "len") (RLM (GO X tb) lenL) := by
  refine CallR.imp' (CallR.or' (call_len (X := X)) call_len_dT) fun vs H Q h => ?_
  obtain ⟨ds, hs, m, hr, r, d, hs', e, q⟩ := h
  unfold lenL at e
  split at e
  · cases e
    obtain ⟨v, rfl, rv⟩ := reps1 r
    cases rv with
    | tup hx rx => exact .inl ⟨_, _, rfl, .inr ⟨_, hx, rfl⟩, by rw [← rx.length]; exact q _ _ _ .refl hr (.int _)⟩
  · cases e
    obtain ⟨v, rfl, rv⟩ := reps1 r
    cases rv with
    | fro hx rx => exact .inl ⟨_, _, rfl, .inl ⟨_, hx.sq, rfl⟩, by rw [← rx.length]; exact q _ _ _ .refl hr (.int _)⟩
  · split at e
    · rename_i hc
      cases e
      obtain ⟨v, rfl, rv⟩ := reps1 r
      cases rv
      exact .inl ⟨_, _, rfl, ⟨cap_le hc, rfl⟩, q _ _ _ .refl hr (.int _)⟩
    · cases e
  · split at e
    · rename_i ei
      cases e
      obtain ⟨v, rfl, rv⟩ := reps1 r
      cases rv with
      | ref e1 =>
        obtain ⟨xs, hx, rx⟩ := hr.lst e1 ei
        exact .inl ⟨_, _, rfl, .inl ⟨_, .of hx, rfl⟩, by rw [← rx.length]; exact q _ _ _ .refl hr (.int _)⟩
    · rename_i a ei
      cases e
      obtain ⟨v, rfl, rv⟩ := reps1 r
      cases rv with
      | ref e1 =>
        obtain ⟨ks, hx, hk, rx⟩ := hr.dT e1 ei
        have hl := congrArg List.length hk
        rw [List.length_map, List.length_map] at hl
        exact .inr ⟨_, _, rfl, hx, by rw [← hl]; exact q _ _ _ .refl hr (.int _)⟩
    · cases e
  · cases e
/-- tuple(x), list(x) -/
def tupL : FM := fun ds hs => match ds with
  | [.tup a] => some (.tup a, hs)
  | [.fro a] => some (.tup a, hs)
  | [.ref i] => match at? hs i with
    | some (.lst a) => some (.tup a, hs)
    | _ => none
  | _ => none
def lstL : FM := fun ds hs => match ds with
  | [.tup a] => some (.ref hs.length, hs ++ [.lst a])
  | [.fro a] => some (.ref hs.length, hs ++ [.lst a])
  | [.ref i] => match at? hs i with
    | some (.lst a) => some (.ref hs.length, hs ++ [.lst a])
    | _ => none
  | _ => none
instance : QF tupL := ⟨fun ds hs d hs' h => by
  unfold tupL at h
  split at h
  · cases h; exact .refl
  · cases h; exact .refl
  · split at h
    · cases h; exact .refl
    · cases h
  · cases h⟩
instance : QF lstL := ⟨fun ds hs d hs' h => by
  unfold lstL at h
  split at h
  · cases h; exact .one
  · cases h; exact .one
  · split at h
    · cases h; exact .one
    · cases h
  · cases h⟩
theorem cr_tup {X : Cx} {tb : List Addr} : CallR X (.type "tuple") (RLM (GO X tb) tupL) := by
  refine CallR.imp' (call_tuple_of (X := X)) fun vs H Q h => ?_
  obtain ⟨ds, hs, m, hr, r, d, hs', e, q⟩ := h
  unfold tupL at e
  split at e
  · cases e
    obtain ⟨v, rfl, rv⟩ := reps1 r
    cases rv with
    | tup hx rx => exact ⟨_, _, rfl, .inr ⟨hx, q _ _ _ .refl hr (.tup hx rx)⟩⟩
  · cases e
    obtain ⟨v, rfl, rv⟩ := reps1 r
    cases rv with
    | fro hx rx => exact ⟨_, _, rfl, .inl ⟨hx.sq, fun p hp => fin_tup hr rx hp q⟩⟩
  · split at e
    · rename_i ei
      cases e
      obtain ⟨v, rfl, rv⟩ := reps1 r
      cases rv with
      | ref e1 =>
        obtain ⟨xs, hx, rx⟩ := hr.lst e1 ei
        exact ⟨_, _, rfl, .inl ⟨.of hx, fun p hp => fin_tup hr rx hp q⟩⟩
    · cases e
  · cases e
theorem cr_lst {X : Cx} {tb : List Addr} : CallR X (.type "list") (RLM (GO X tb) lstL) := by
  refine CallR.imp' (call_list_of (X := X)) fun vs H Q h => ?_
  obtain ⟨ds, hs, m, hr, r, d, hs', e, q⟩ := h
  unfold lstL at e
  split at e
  · cases e
    obtain ⟨v, rfl, rv⟩ := reps1 r
    cases rv with
    | tup hx rx => exact ⟨_, _, rfl, .inr hx, fun p hp => fin_lst hr rx hp q⟩
  · cases e
    obtain ⟨v, rfl, rv⟩ := reps1 r
    cases rv with
    | fro hx rx => exact ⟨_, _, rfl, .inl hx.sq, fun p hp => fin_lst hr rx hp q⟩
  · split at e
    · rename_i ei
      cases e
      obtain ⟨v, rfl, rv⟩ := reps1 r
      cases rv with
      | ref e1 =>
        obtain ⟨xs, hx, rx⟩ := hr.lst e1 ei
        exact ⟨_, _, rfl, .inl (.of hx), fun p hp => fin_lst hr rx hp q⟩
    · cases e
  · cases e
/-- ints of a list -/
def intsOf : List D → Option (List Int)
  | [] => some []
  | .int i :: r => match intsOf r with
    | some l => some (i :: l)
    | none => none
  | _ => none
theorem intsOf_eq : ∀ {ds : List D} {ns : List Int}, intsOf ds = some ns → ds = ns.map D.int
  | [], _, h => by cases h; rfl
  | .int i :: r, ns, h => by
    unfold intsOf at h
    split at h
    · rename_i l e
      cases h
      rw [intsOf_eq e]; rfl
    · cases h
  | .non :: _, _, h => by simp [intsOf] at h
  | .bl _ :: _, _, h => by simp [intsOf] at h
  | .str _ :: _, _, h => by simp [intsOf] at h
  | .tup _ :: _, _, h => by simp [intsOf] at h
  | .fro _ :: _, _, h => by simp [intsOf] at h
  | .tuf _ :: _, _, h => by simp [intsOf] at h
  | .ref _ :: _, _, h => by simp [intsOf] at h
def sumI : List Int → Int
  | [] => 0
  | i :: r => i + sumI r
theorem sumI_eq : ∀ l : List Int, sumI l = l.sum
  | [] => rfl
  | i :: r => by simp [sumI, sumI_eq r]
def sumL : FM := fun ds hs => match ds with
  | [.ref i] => match at? hs i with
    | some (.lst a) => match intsOf a with
      | some ns => some (.int (sumI ns), hs)
      | none => none
    | _ => none
  | _ => none
instance : QF sumL := ⟨fun ds hs d hs' h => by
  unfold sumL at h
  split at h
  · split at h
    · split at h
      · cases h; exact .refl
      · cases h
    · cases h
  · cases h⟩
theorem cr_sumM {X : Cx} {tb : List Addr} (hc : X.calm = true) : CallR X (.builtin "sum") (RLM (GO X tb) sumL) := by
  refine CallR.imp' (cr_sum hc) fun vs H Q h => ?_
  obtain ⟨ds, hs, m, hr, r, d, hs', e, q⟩ := h
  unfold sumL at e
  split at e
  · split at e
    · rename_i ei
      split at e
      · rename_i ns en
        cases e
        obtain ⟨v, rfl, rv⟩ := reps1 r
        cases rv with
        | ref e1 =>
          obtain ⟨xs, hx, rx⟩ := hr.lst e1 ei
          rw [intsOf_eq en] at rx
          have ex := rx.ints
          subst ex
          exact ⟨_, ns, rfl, .of hx, by rw [← sumI_eq]; exact q _ _ _ .refl hr (.int _)⟩
      · cases e
    · cases e
  · cases e
def abs1 : FM := fun ds hs => match ds with
  | [.int i] => some (.int (if i < 0 then -i else i), hs)
  | _ => none
def int1 : FM := fun ds hs => match ds with
  | [.int i] => some (.int i, hs)
  | [.bl b] => some (.int (if b then 1 else 0), hs)
  | _ => none
def max2 : FM := fun ds hs => match ds with
  | [.int i, .int j] => some (.int (if j > i then j else i), hs)
  | _ => none
def min2 : FM := fun ds hs => match ds with
  | [.int i, .int j] => some (.int (if j < i then j else i), hs)
  | _ => none
instance : QF abs1 := ⟨fun ds hs d hs' h => by
  unfold abs1 at h
  split at h
  · cases h; exact .refl
  · cases h⟩
instance : QF int1 := ⟨fun ds hs d hs' h => by
  unfold int1 at h
  split at h
  · cases h; exact .refl
  · cases h; exact .refl
  · cases h⟩
instance : QF max2 := ⟨fun ds hs d hs' h => by
  unfold max2 at h
  split at h
  · cases h; exact .refl
  · cases h⟩
instance : QF min2 := ⟨fun ds hs d hs' h => by
  unfold min2 at h
  split at h
  · cases h; exact .refl
  · cases h⟩
theorem cr_abs {X : Cx} {tb : List Addr} : CallR X (.builtin "abs") (RLM (GO X tb) abs1) := by
  refine CallR.imp' (call_abs (X := X)) fun vs H Q h => ?_
  obtain ⟨ds, hs, m, hr, r, d, hs', e, q⟩ := h
  unfold abs1 at e
  split at e
  · cases e
    obtain ⟨v, rfl, rv⟩ := reps1 r
    cases rv
    exact ⟨_, rfl, q _ _ _ .refl hr (.int _)⟩
  · cases e
theorem cr_int {X : Cx} {tb : List Addr} : CallR X (.type "int") (RLM (GO X tb) int1) := by
  refine CallR.imp' (call_int1 (X := X)) fun vs H Q h => ?_
  obtain ⟨ds, hs, m, hr, r, d, hs', e, q⟩ := h
  unfold int1 at e
  split at e
  · cases e
    obtain ⟨v, rfl, rv⟩ := reps1 r
    cases rv
    exact .inl ⟨_, rfl, q _ _ _ .refl hr (.int _)⟩
  · cases e
    obtain ⟨v, rfl, rv⟩ := reps1 r
    cases rv
    exact .inr ⟨_, rfl, q _ _ _ .refl hr (.int _)⟩
  · cases e
theorem cr_max2 {X : Cx} {tb : List Addr} (hc : X.calm = true) : CallR X (.builtin "max") (RLM (GO X tb) max2) := by
  refine CallR.imp' (call_max2 hc) fun vs H Q h => ?_
  obtain ⟨ds, hs, m, hr, r, d, hs', e, q⟩ := h
  unfold max2 at e
  split at e
  · cases e
    obtain ⟨v, w, rfl, rv, rw⟩ := reps2 r
    cases rv; cases rw
    exact ⟨_, _, rfl, q _ _ _ .refl hr (.int _)⟩
  · cases e
theorem cr_min2 {X : Cx} {tb : List Addr} (hc : X.calm = true) : CallR X (.builtin "min") (RLM (GO X tb) min2) := by
  refine CallR.imp' (call_min2 hc) fun vs H Q h => ?_
  obtain ⟨ds, hs, m, hr, r, d, hs', e, q⟩ := h
  unfold min2 at e
  split at e
  · cases e
    obtain ⟨v, w, rfl, rv, rw⟩ := reps2 r
    cases rv; cases rw
    exact ⟨_, _, rfl, q _ _ _ .refl hr (.int _)⟩
  · cases e
end Mir

/-! MirF: targets, what is walked, comprehensions, for. -/
namespace Mir
open PySem PySem.Spec PyProof.Rows L2

/-! ### targets -/
abbrev GM := D → En → Option En
/-- all slots but those at ts are as they were -/
structure Off (ts : List Nat) (σ σ' : L2.St) : Prop where
  len : σ'.length = σ.length
  same : ∀ i, i ∉ ts → σ'[i]? = σ[i]?
theorem Off.refl {ts : List Nat} {σ : L2.St} : Off ts σ σ := ⟨rfl, fun _ _ => rfl⟩
theorem Off.set {ts : List Nat} {σ : L2.St} {i : Nat} {v : Option V} (h : i ∈ ts) : Off ts σ (σ.set i v) :=
  ⟨by rw [List.length_set], fun j hj => List.getElem?_set_ne (fun e => hj (by rw [← e]; exact h))⟩
theorem Off.trans {ts : List Nat} {a b c : L2.St} (x : Off ts a b) (y : Off ts b c) : Off ts a c := ⟨y.len.trans x.len, fun i h => (y.same i h).trans (x.same i h)⟩
theorem Off.mono {ts us : List Nat} {a b : L2.St} (x : Off ts a b) (h : ∀ i ∈ ts, i ∈ us) : Off us a b := ⟨x.len, fun i hi => x.same i fun z => hi (h i z)⟩
def TGM (G : GX) (ts : List Nat) (g : GM) : TG := fun v σ H Q => ∃ d ρ hs m, SL G H m ρ σ ∧ HR G m hs H ∧ Rep G.K H m d v ∧ ∃ ρ', g d ρ = some ρ' ∧ ∀ σ', SL G H m ρ' σ' → Off ts σ σ' → Q σ' H
def setN (i : Nat) : GM := fun d ρ => some (put ρ i (some d))
def putAll : List Nat → List D → En → Option En
  | [], [], ρ => some ρ
  | i :: is, d :: ds, ρ => putAll is ds (put ρ i (some d))
  | _, _, _ => none
def setT (is : List Nat) : GM := fun d ρ => match d with
  | .tup ds => putAll is ds ρ
  | _ => none
theorem PG.imp' {X : Cx} {e : Expr} {t t' : TG} (h : PG X e t) (i : ∀ v σ H Q, t' v σ H Q → t v σ H Q) : PG X e t' := ⟨fun pins s σ H v u Q I r q => h.run pins s σ H v u Q I r (i v σ H Q q)⟩
theorem mg_name {X : Cx} {G : GX} {i : Nat} {x : Str} {pos : Pos} (hN : X.N.Nodup) (hi : X.N[i]? = some x) (hx : Loc X.env.scope x) (hf : X.fn x = true ∨ X.env.scope.names.lookup x = some .local := by first | exact .inl rfl | exact .inr rfl | assumption) : PG X (.Name x pos) (TGM G [i] (setN i)) :=
  PG.imp' (pg_name hN hi hx hf) fun v σ H Q ⟨d, ρ, hs, m, sl, hr, r, ρ', e, q⟩ => by
    cases e
    exact q _ (sl.set r i) (.set (by simp))
/-- the places of a tuple's targets -/
def gNs : List Nat → TGs
  | [] => gNil
  | i :: r => gCons (gName i) (gNs r)
theorem mgs_nil {X : Cx} : PGs X [] (gNs []) := pgs_nil
theorem mgs_cons {X : Cx} {i : Nat} {is : List Nat} {x : Str} {pos : Pos} {es : List Expr} (hN : X.N.Nodup) (hi : X.N[i]? = some x) (hx : Loc X.env.scope x) (h : PGs X es (gNs is)) (hf : X.fn x = true ∨ X.env.scope.names.lookup x = some .local := by first | exact .inl rfl | exact .inr rfl | assumption)
    (hs : (assignEach (.Name x pos :: es) X.env).map (·.2) = assign (.Name x pos) X.env :: (assignEach es X.env).map (·.2) := by rfl) : PGs X (.Name x pos :: es) (gNs (i :: is)) := pgs_cons (pg_name hN hi hx hf) h hs
theorem gNs_ok {G : GX} {H : Hp} {m : List Addr} {ts : List Nat} : ∀ {is : List Nat} {ds : List D} {xs : List V} {ρ ρ' : En} {σ : L2.St} {Q : L2.St → Hp → Prop}, (∀ i ∈ is, i ∈ ts) → SL G H m ρ σ → Reps G.K H m ds xs → putAll is ds ρ = some ρ' →
    (∀ σ', SL G H m ρ' σ' → Off ts σ σ' → Q σ' H) → gNs is xs σ H Q
  | [], [], _, _, _, _, _, _, sl, r, e, q => by
    cases r; cases e
    exact ⟨rfl, q _ sl .refl⟩
  | i :: is, d :: ds, _, ρ, ρ', σ, Q, hi, sl, r, e, q => by
    cases r with
    | cons r t =>
      rename_i v vs
      refine ⟨v, vs, rfl, ?_⟩
      exact gNs_ok (fun j hj => hi j (List.mem_cons_of_mem _ hj)) (sl.set r i) t e fun σ' sl' o' => q σ' sl' ((Off.set (hi i List.mem_cons_self)).trans o')
  | [], _ :: _, _, _, _, _, _, _, _, _, e, _ => by cases e
  | _ :: _, [], _, _, _, _, _, _, _, _, e, _ => by cases e
theorem putAll_len : ∀ {is : List Nat} {ds : List D} {ρ ρ' : En}, putAll is ds ρ = some ρ' → ds.length = is.length
  | [], [], _, _, _ => rfl
  | i :: is, d :: ds, ρ, ρ', e => congrArg (· + 1) (putAll_len (is := is) (ds := ds) (show putAll is ds (put ρ i (some d)) = some ρ' from e))
  | [], _ :: _, _, _, e => by cases e
  | _ :: _, [], _, _, e => by cases e
theorem mg_tup {X : Cx} {tb : List Addr} {es : List Expr} {k : Nat} {is : List Nat} {pos : Pos} (hc : X.calm = true) (h : PGs X es (gNs is)) (hn : (assignEach es X.env).length = is.length := by rfl) (hst : (assignEach es X.env).findIdx? (·.1) = none := by rfl) :
    PG X (.Tuple es k pos) (TGM (GO X tb) is (setT is)) :=
  PG.imp' (pg_tup hc h hn hst) fun v σ H Q ⟨d, ρ, hs, m, sl, hr, r, ρ', e, q⟩ => by
    unfold setT at e
    split at e
    · rename_i ds
      cases r with
      | tup hx rx =>
        exact ⟨_, _, rfl, hx, by rw [← rx.length]; exact putAll_len e, gNs_ok (fun i hi => hi) sl rx e q⟩
    · cases e
/-- target = e -/
def mAsgT (g : GM) (f : EM) : SM := fun ρ hs => match f ρ hs with
  | some (d, hs') => match g d ρ with
    | some ρ' => some (.nx ρ' hs')
    | none => none
  | none => none
theorem ms_asg {X : Cx} {G : GX} {tg e : Expr} {f : EM} {ts : List Nat} {g : GM} {pos : Pos} (he : PE X e (TM G f)) (hg : PG X tg (TGM G ts g)) (hs : swapsWithSole [tg] e pos.line X.env = pure false := by rfl) (hw : swappedStores [tg] e X.env = pure none := by rfl)
    (h1 : (assignEach [tg] X.env).map (·.2) = [assign tg X.env] := by rfl) : PS X (.Assign [tg] e pos) (TSM G (mAsgT g f)) := by
  refine (ps_asg he hg hs hw h1).imp fun D σ H ⟨ρ, hs, m, sl, hr, r, ee, q⟩ => ?_
  unfold mAsgT at ee
  split at ee
  · rename_i d hs1 e1
    split at ee
    · rename_i ρ' e2
      cases ee
      exact ⟨ρ, hs, m, sl, hr, _, _, e1, fun v H' m' n' hr' rv => ⟨d, ρ, hs1, m', sl.nx hr n', hr', rv, ρ', e2, fun σ' sl' _ => q σ' H' m' n' hr' sl'⟩⟩
    · cases ee
  · cases ee
/-- a, b = x, y -/
def mPar (i j : Nat) (g : AM) : SM := fun ρ hs => match g ρ hs with
  | some ([d, e], hs') => some (.nx (put (put ρ i (some d)) j (some e)) hs')
  | _ => none
theorem ms_par {X : Cx} {G : GX} {i j : Nat} {x y : Str} {a b : Expr} {g : AM} {px py pt pos : Pos} {kt k2 pt2} (hc : X.calm = true) (hN : X.N.Nodup) (hi : X.N[i]? = some x) (hj : X.N[j]? = some y) (hij : i ≠ j)
    (hx : X.env.scope.names.lookup x = some .local) (hy : X.env.scope.names.lookup y = some .local) (ha : PA X [a, b] (TAm G g))
    (hw : swappedStores [.Tuple [.Name x px, .Name y py] kt pt] (.Tuple [a, b] k2 pt2) X.env = pure (some [x, y]))
    (hs : swapsWithSole [.Tuple [.Name x px, .Name y py] kt pt] (.Tuple [a, b] k2 pt2) pos.line X.env = pure false := by rfl) :
    PS X (.Assign [.Tuple [.Name x px, .Name y py] kt pt] (.Tuple [a, b] k2 pt2) pos) (TSM G (mPar i j g)) := by
  refine (ps_par hc hN hi hj hij hx hy ha hw hs).imp fun D σ H ⟨ρ, hs, m, sl, hr, r, ee, q⟩ => ?_
  unfold mPar at ee
  split at ee
  · rename_i d e hs1 e1
    cases ee
    refine ⟨ρ, hs, m, sl, hr, _, _, e1, fun vs H' m' n' hr' rv => ?_⟩
    obtain ⟨v, w, rfl, r1, r2⟩ := reps2 rv
    exact ⟨v, w, rfl, q _ H' m' n' hr' (((sl.nx hr n').set r1 i).set r2 j)⟩
  · cases ee

/-! ### what is walked -/
abbrev IM := En → Hs → Option (List D × Hs)
/-- J yields just ds, as long as nothing that stood is changed (weak), whatever is changed (strong) -/
def JAt (G : GX) (J : It) (ds : List D) (m' : List Addr) (hs' : Hs) (H' : Hp) : Prop := ∀ i : Nat,
  (∀ d, ds[i]? = some d → J.go i H' ∧ ∀ x H2, J.yld i H' x H2 → Nx m' H' m' H2 ∧ HR G m' hs' H2 ∧ Rep G.K H2 m' d x) ∧ (ds.length ≤ i → J.stop i H')
def JW (G : GX) (J : It) (ds : List D) (m : List Addr) (hs : Hs) (H : Hp) : Prop := ∀ m' H' r, Nx m H m' H' → HR G m' (hs ++ r) H' → JAt G J ds m' (hs ++ r) H'
def JS (G : GX) (J : It) (ds : List D) (m : List Addr) (hs : Hs) (H : Hp) : Prop := ∀ m' H' hs', Nx m H m' H' → HR G m' hs' H' → JAt G J ds m' hs' H'
def TIW (G : GX) (f : IM) : TI := fun σ H R => ∃ ρ hs m, SL G H m ρ σ ∧ HR G m hs H ∧ ∃ ds hs', f ρ hs = some (ds, hs') ∧ ∀ J H' m', Nx m H m' H' → HR G m' hs' H' → JW G J ds m' hs' H' → R J H'
def TIS (G : GX) (f : IM) : TI := fun σ H R => ∃ ρ hs m, SL G H m ρ σ ∧ HR G m hs H ∧ ∃ ds hs', f ρ hs = some (ds, hs') ∧ ∀ J H' m', Nx m H m' H' → HR G m' hs' H' → JS G J ds m' hs' H' → R J H'
theorem JS.w {G : GX} {J : It} {ds : List D} {m : List Addr} {hs : Hs} {H : Hp} (h : JS G J ds m hs H) : JW G J ds m hs H := fun m' H' r n hr => h m' H' _ n hr
theorem PI.imp' {X : Cx} {tg e : Expr} {t t' : TI} (h : PI X tg e t) (i : ∀ σ H R, t' σ H R → t σ H R) : PI X tg e t' := ⟨fun pins s σ H R I q => h.run pins s σ H R I (i σ H R q)⟩
theorem mi_w {X : Cx} {G : GX} {tg e : Expr} {f : IM} (h : PI X tg e (TIS G f)) : PI X tg e (TIW G f) := PI.imp' h fun σ H R ⟨ρ, hs, m, sl, hr, ds, hs', e, q⟩ => ⟨ρ, hs, m, sl, hr, ds, hs', e, fun J H' m' n hr' j => q J H' m' n hr' j.w⟩

section
variable {G : GX} {m : List Addr} {hs : Hs} {H : Hp} {ds : List D} {xs : List V} {a : Addr}
theorem jat_list {J : It} {m' : List Addr} {hs' : Hs} {H' : Hp} (hJ : J = Itl G.K a ∨ False) (hx : SqL G.K H' a xs) (r : Reps G.K H' m' ds xs) (hr : HR G m' hs' H') : JAt G (Itl G.K a) ds m' hs' H' := fun i => by
  refine ⟨fun d e => ?_, fun h => ⟨xs, hx, by rw [← r.length]; exact h⟩⟩
  obtain ⟨v, h1, h2⟩ := r.get e
  refine ⟨⟨xs, v, hx, h1⟩, fun x H2 y => ?_⟩
  obtain ⟨rfl, y⟩ := y
  have e2 := y xs hx
  rw [h1] at e2; cases e2
  exact ⟨.refl, hr, h2⟩
theorem jat_tup {m' : List Addr} {hs' : Hs} {H' : Hp} (hx : SqT G.K H' a xs) (r : Reps G.K H' m' ds xs) (hr : HR G m' hs' H') : JAt G (Itt G.K a) ds m' hs' H' := fun i => by
  refine ⟨fun d e => ?_, fun h => ⟨xs, hx, by rw [← r.length]; exact h⟩⟩
  obtain ⟨v, h1, h2⟩ := r.get e
  refine ⟨⟨xs, v, hx, h1⟩, fun x H2 y => ?_⟩
  obtain ⟨rfl, y⟩ := y
  have e2 := y xs hx
  rw [h1] at e2; cases e2
  exact ⟨.refl, hr, h2⟩
theorem js_tup (hx : SqT G.K H a xs) (r : Reps G.K H m ds xs) (hr : HR G m hs H) : JS G (Itt G.K a) ds m hs H := fun m' H' hs' n hr' =>
  jat_tup (sqT_nx hr n hx) (r.nx hr n) hr'
theorem js_fro (hx : FrL G.K H a xs) (r : Reps G.K H m ds xs) (hr : HR G m hs H) : JS G (Itl G.K a) ds m hs H := fun m' H' hs' n hr' =>
  jat_list (.inl rfl) (frL_nx hr n hx).sq (r.nx hr n) hr'
/-- a list that the mirror's heap does not tell -/
theorem js_off (hx : H a = some (.lst xs)) (ha : a ∉ m) (r : Reps G.K H m ds xs) (hr : HR G m hs H) : JS G (Itl G.K a) ds m hs H := fun m' H' hs' n hr' =>
  jat_list (.inl rfl) (.of (n.keep a _ hx ha fun _ z => by cases z)) (r.nx hr n) hr'
theorem jw_lst {i : Nat} (e : m[i]? = some a) (h : at? hs i = some (.lst ds)) (hr : HR G m hs H) : JW G (Itl G.K a) ds m hs H := fun m' H' r n hr' => by
  have e2 : at? (hs ++ r) i = some (.lst ds) := by
    rw [at?_eq] at h ⊢
    obtain ⟨h1, _⟩ := List.getElem?_eq_some_iff.mp h
    rw [List.getElem?_append_left h1]; exact h
  obtain ⟨xs, hx, rx⟩ := hr'.lst (n.ix e) e2
  exact jat_list (.inl rfl) (.of hx) rx hr'
/-- lo, lo + 1, .. -/
def rngL (lo : Int) : Nat → List D
  | 0 => []
  | n + 1 => .int lo :: rngL (lo + 1) n
theorem rngL_length : ∀ (n : Nat) (lo : Int), (rngL lo n).length = n
  | 0, _ => rfl
  | n + 1, lo => congrArg (· + 1) (rngL_length n (lo + 1))
theorem rngL_get : ∀ (n : Nat) (lo : Int) (i : Nat) (d : D), (rngL lo n)[i]? = some d → i < n ∧ d = .int (lo + i)
  | 0, _, _, _, h => by simp [rngL] at h
  | n + 1, lo, 0, d, h => by
    simp [rngL] at h
    exact ⟨Nat.succ_pos n, by rw [← h]; simp⟩
  | n + 1, lo, i + 1, d, h => by
    simp [rngL] at h
    obtain ⟨h1, h2⟩ := rngL_get n (lo + 1) i d h
    exact ⟨Nat.succ_lt_succ h1, by rw [h2]; congr 1; omega⟩
theorem js_rng {lo : Int} {n : Nat} : JS G (Itr lo n) (rngL lo n) m hs H := fun m' H' hs' _ hr' i => by
  refine ⟨fun d e => ?_, fun h => by rw [rngL_length] at h; exact h⟩
  obtain ⟨h1, h2⟩ := rngL_get n lo i d e
  refine ⟨h1, fun x H2 y => ?_⟩
  obtain ⟨rfl, rfl⟩ := y
  rw [h2]
  exact ⟨.refl, hr', .int _⟩
/-- lo, lo + c, .. -/
def stpL (lo c : Int) : Nat → List D
  | 0 => []
  | n + 1 => .int lo :: stpL (lo + c) c n
theorem stpL_length : ∀ (n : Nat) (lo c : Int), (stpL lo c n).length = n
  | 0, _, _ => rfl
  | n + 1, lo, c => congrArg (· + 1) (stpL_length n (lo + c) c)
theorem stpL_get : ∀ (n : Nat) (lo c : Int) (i : Nat) (d : D), (stpL lo c n)[i]? = some d → i < n ∧ d = .int (lo + (i : Nat) * c)
  | 0, _, _, _, _, h => by simp [stpL] at h
  | n + 1, lo, c, 0, d, h => by
    simp [stpL] at h
    exact ⟨Nat.succ_pos n, by rw [← h]; simp⟩
  | n + 1, lo, c, i + 1, d, h => by
    simp [stpL] at h
    obtain ⟨h1, h2⟩ := stpL_get n (lo + c) c i d h
    refine ⟨Nat.succ_lt_succ h1, ?_⟩
    rw [h2]
    congr 1
    rw [show ((i + 1 : Nat) : Int) = (i : Int) + 1 from rfl, Int.add_mul, Int.one_mul]
    omega
theorem js_stp {lo c : Int} {n : Nat} : JS G (Itc lo c n) (stpL lo c n) m hs H := fun m' H' hs' _ hr' i => by
  refine ⟨fun d e => ?_, fun h => by rw [stpL_length] at h; exact h⟩
  obtain ⟨h1, h2⟩ := stpL_get n lo c i d e
  refine ⟨h1, fun x H2 y => ?_⟩
  obtain ⟨rfl, rfl⟩ := y
  rw [h2]
  exact ⟨.refl, hr', .int _⟩
end

/-- a list or a tuple, by what the value is -/
def iSeq (K : PySem.W.Frag) (tl : TE) : TI := fun σ H R => tl σ H fun x H1 => ∃ a, x = .ref a ∧ (((∃ xs, SqL K H1 a xs) ∧ R (Itl K a) H1) ∨ ((∃ xs, SqT K H1 a xs) ∧ R (Itt K a) H1))
theorem pi_seq {X : Cx} {tg l : Expr} {tl : TE} (hl : PE X l tl) : PI X tg l (iSeq X.K tl) := by
  refine ⟨fun pins s σ H R I h => ?_⟩
  refine thn (hl.run pins s σ H _ I h) fun v s1 ⟨x, H1, I1, r1, q1⟩ => ?_
  obtain ⟨a, e, q1⟩ := q1
  subst e
  cases r1
  rcases q1 with ⟨⟨xs, hq⟩, q⟩ | ⟨⟨xs, hq⟩, q⟩
  · obtain ⟨its, rv, p, hz⟩ := I1.list hq
    refine wpAny_pyIter_list p.isList ?_
    refine ⟨s1.heap.objs.size, [s1.heap.objs.size], _, _, H1, rfl, I1.kept (t' := s1.toks) fun b o e => Heap.get?_push_of_some _ e, turn_list a _, ⟨_, Heap.get?_push_size _ rfl, rfl, rfl⟩, fun b hb => ?_, q⟩
    have e : b = s1.heap.objs.size := by simpa using hb
    subst e
    exact I1.fpOk (Nat.le_refl _) (I1.hok.fresh (Nat.le_refl _))
  · obtain ⟨its, rv, p, hz⟩ := I1.tuple hq
    refine wpAny_pyIter_tuple (show s1.heap.IsTuple a its.toArray from p) ?_
    refine ⟨s1.heap.objs.size, [s1.heap.objs.size], _, _, H1, rfl, I1.kept (t' := s1.toks) fun b o e => Heap.get?_push_of_some _ e, turn_tuple a _, ⟨_, Heap.get?_push_size _ rfl, rfl, rfl⟩, fun b hb => ?_, q⟩
    have e : b = s1.heap.objs.size := by simpa using hb
    subst e
    exact I1.fpOk (Nat.le_refl _) (I1.hok.fresh (Nat.le_refl _))
/-- a tuple, or a list that nobody else holds -/
def mSeqS (f : EM) : IM := fun ρ hs => match f ρ hs with
  | some (.tup ds, hs') => some (ds, hs')
  | some (.fro ds, hs') => some (ds, hs')
  | some (.ref n, hs') => match Nat.ble hs.length n, at? hs' n with
    | true, some (.lst ds) => match allL (shal 12) ds with
      | true => some (ds, hs)
      | false => none
    | _, _ => none
  | _ => none
/-- a tuple or a list -/
def mSeqW (f : EM) : IM := fun ρ hs => match f ρ hs with
  | some (.tup ds, hs') => some (ds, hs')
  | some (.fro ds, hs') => some (ds, hs')
  | some (.ref n, hs') => match at? hs' n with
    | some (.lst ds) => some (ds, hs')
    | _ => none
  | _ => none
section
variable {X : Cx} {tb : List Addr} {tg e : Expr} {f : EM}
theorem mi_seqS [qf : QE f] (h : PE X e (TM (GO X tb) f)) : PI X tg e (TIS (GO X tb) (mSeqS f)) := PI.imp' (pi_seq h) fun σ H R ⟨ρ, hs, m, sl, hr, ds, hs', ee, q⟩ => by
  unfold mSeqS at ee
  split at ee
  · rename_i e1
    cases ee
    refine ⟨ρ, hs, m, sl, hr, _, _, e1, fun v H' m' n' hr' rv => ?_⟩
    cases rv with
    | tup hx rx => exact ⟨_, rfl, .inr ⟨⟨_, hx⟩, q _ H' m' n' hr' (js_tup hx rx hr')⟩⟩
  · rename_i e1
    cases ee
    refine ⟨ρ, hs, m, sl, hr, _, _, e1, fun v H' m' n' hr' rv => ?_⟩
    cases rv with
    | fro hx rx => exact ⟨_, rfl, .inl ⟨⟨_, hx.sq⟩, q _ H' m' n' hr' (js_fro hx rx hr')⟩⟩
  · rename_i n hs1 e1
    split at ee
    · rename_i hb ea
      split at ee
      · rename_i sd
        cases ee
        refine ⟨ρ, _, m, sl, hr, _, _, e1, fun v H' m' n' hr' rv => ?_⟩
        cases rv with
        | ref e2 =>
          rename_i a
          obtain ⟨t, rfl⟩ := qf.q _ _ _ _ e1
          obtain ⟨xs, hx, rx⟩ := hr'.lst e2 ea
          have hc := hr.cut n' hr'
          have ha : a ∉ m := fun z => by
            obtain ⟨j, hj, ej⟩ := List.getElem_of_mem z
            have e3 : m[j]? = some a := by rw [List.getElem?_eq_getElem hj, ej]
            have e4 := n'.ix e3
            obtain ⟨h1, q1⟩ := List.getElem?_eq_some_iff.mp e2
            obtain ⟨h2, q2⟩ := List.getElem?_eq_some_iff.mp e4
            have e5 := (List.getElem_inj hr'.nd).mp (q1.trans q2.symm)
            have hb' := Nat.le_of_ble_eq_true hb
            rw [← hr.len] at hb'
            omega
          exact ⟨_, rfl, .inl ⟨⟨_, .of hx⟩, q _ H' m n'.cut hc (js_off hx ha (pure_reps (Rep.pure 12) sd rx m) hc)⟩⟩
      · cases ee
    · cases ee
  · cases ee
theorem mi_seqW (h : PE X e (TM (GO X tb) f)) : PI X tg e (TIW (GO X tb) (mSeqW f)) := PI.imp' (pi_seq h) fun σ H R ⟨ρ, hs, m, sl, hr, ds, hs', ee, q⟩ => by
  unfold mSeqW at ee
  split at ee
  · rename_i e1
    cases ee
    refine ⟨ρ, hs, m, sl, hr, _, _, e1, fun v H' m' n' hr' rv => ?_⟩
    cases rv with
    | tup hx rx => exact ⟨_, rfl, .inr ⟨⟨_, hx⟩, q _ H' m' n' hr' (js_tup hx rx hr').w⟩⟩
  · rename_i e1
    cases ee
    refine ⟨ρ, hs, m, sl, hr, _, _, e1, fun v H' m' n' hr' rv => ?_⟩
    cases rv with
    | fro hx rx => exact ⟨_, rfl, .inl ⟨⟨_, hx.sq⟩, q _ H' m' n' hr' (js_fro hx rx hr').w⟩⟩
  · rename_i n hs1 e1
    split at ee
    · rename_i ea
      cases ee
      refine ⟨ρ, _, m, sl, hr, _, _, e1, fun v H' m' n' hr' rv => ?_⟩
      cases rv with
      | ref e2 =>
        obtain ⟨xs, hx, rx⟩ := hr'.lst e2 ea
        exact ⟨_, rfl, .inl ⟨⟨_, .of hx⟩, q _ H' m' n' hr' (jw_lst e2 ea hr')⟩⟩
    · cases ee
  · cases ee
def mRng1 (g : AM) : IM := fun ρ hs => match g ρ hs with
  | some ([.int j], hs') => if Nat.blt j.natAbs (2 ^ 62) then some (rngL 0 j.toNat, hs') else none
  | _ => none
def mRng2 (g : AM) : IM := fun ρ hs => match g ρ hs with
  | some ([.int i, .int j], hs') => if (Nat.blt i.natAbs (2 ^ 62) && Nat.blt j.natAbs (2 ^ 62)) = true then some (rngL i (j - i).toNat, hs') else none
  | _ => none
theorem blt_abs {j : Int} (h : Nat.blt j.natAbs (2 ^ 62) = true) : -(2 ^ 62) ≤ j ∧ j < 2 ^ 62 := by
  have h1 : j.natAbs < 2 ^ 62 := Nat.le_of_ble_eq_true h
  omega
variable {a b : Expr} {g : AM} {p pos : Pos}
theorem mi_range1 (hg : Gl X "range") (hm : X.mg "range" = none) (ha : PA X [a] (TAm (GO X tb) g)) (hs : starEach [a] X.env = [(false, eval a X.env)] := by rfl) : PI X tg (.Call (.Name "range" p) [a] [] pos) (TIS (GO X tb) (mRng1 g)) :=
  PI.imp' (pi_range1 hg hm ha hs) fun σ H R ⟨ρ, hs, m, sl, hr, ds, hs', ee, q⟩ => by
    unfold mRng1 at ee
    split at ee
    · rename_i j hs1 e1
      split at ee
      · rename_i hb
        cases ee
        obtain ⟨b1, b2⟩ := blt_abs hb
        refine ⟨ρ, hs, m, sl, hr, _, _, e1, fun vs H' m' n' hr' rv => ?_⟩
        obtain ⟨v, rfl, rw⟩ := reps1 rv
        obtain rfl := rw.int_inv
        exact ⟨j, rfl, b1, b2, q _ H' m' n' hr' js_rng⟩
      · cases ee
    · cases ee
theorem mi_range2 (hg : Gl X "range") (hm : X.mg "range" = none) (ha : PA X [a, b] (TAm (GO X tb) g)) (hs : starEach [a, b] X.env = [(false, eval a X.env), (false, eval b X.env)] := by rfl) (hs2 : starEach [b] X.env = [(false, eval b X.env)] := by rfl) : PI X tg (.Call (.Name "range" p) [a, b] [] pos) (TIS (GO X tb) (mRng2 g)) :=
  PI.imp' (pi_range2 hg hm ha hs hs2) fun σ H R ⟨ρ, hs, m, sl, hr, ds, hs', ee, q⟩ => by
    unfold mRng2 at ee
    split at ee
    · rename_i i j hs1 e1
      split at ee
      · rename_i hb
        rw [Bool.and_eq_true] at hb
        cases ee
        obtain ⟨b1, b2⟩ := blt_abs hb.1
        obtain ⟨b3, b4⟩ := blt_abs hb.2
        refine ⟨ρ, hs, m, sl, hr, _, _, e1, fun vs H' m' n' hr' rv => ?_⟩
        obtain ⟨v, w, rfl, r1, r2⟩ := reps2 rv
        obtain rfl := r1.int_inv
        obtain rfl := r2.int_inv
        exact ⟨i, j, rfl, ⟨b1, b2, b3, b4⟩, q _ H' m' n' hr' js_rng⟩
      · cases ee
    · cases ee
end
class QI (f : IM) : Prop where
  q : ∀ ρ hs ds hs', f ρ hs = some (ds, hs') → Grows hs hs'
instance {f : EM} [a : QE f] : QI (mSeqS f) := ⟨fun ρ hs d hs' h => by
  unfold mSeqS at h
  split at h
  · rename_i e1; cases h; exact a.q _ _ _ _ e1
  · rename_i e1; cases h; exact a.q _ _ _ _ e1
  · split at h
    · split at h
      · cases h; exact .refl
      · cases h
    · cases h
  · cases h⟩
instance {f : EM} [a : QE f] : QI (mSeqW f) := ⟨fun ρ hs d hs' h => by
  unfold mSeqW at h
  cases e1 : f ρ hs with
  | none => rw [e1] at h; cases h
  | some p =>
    obtain ⟨x, h1⟩ := p
    rw [e1] at h
    have g1 := a.q _ _ _ _ e1
    cases x with
    | tup ds => cases h; exact g1
    | fro ds => cases h; exact g1
    | ref n =>
      simp only at h
      split at h
      · cases h; exact g1
      · cases h
    | _ => cases h⟩
instance {g : AM} [a : QA g] : QI (mRng1 g) := ⟨fun ρ hs d hs' h => by
  unfold mRng1 at h
  split at h
  · rename_i e1
    split at h
    · cases h; exact a.q _ _ _ _ e1
    · cases h
  · cases h⟩
instance {g : AM} [a : QA g] : QI (mRng2 g) := ⟨fun ρ hs d hs' h => by
  unfold mRng2 at h
  split at h
  · rename_i e1
    split at h
    · cases h; exact a.q _ _ _ _ e1
    · cases h
  · cases h⟩

/-! ### for -/
def forGo (g : GM) (b : SM) : List D → En → Hs → Option Rs
  | [], ρ, hs => some (.nx ρ hs)
  | d :: ds, ρ, hs => match g d ρ with
    | some ρ' => match b ρ' hs with
      | some (.nx ρ2 hs2) => forGo g b ds ρ2 hs2
      | some (.ct ρ2 hs2) => forGo g b ds ρ2 hs2
      | some (.bk ρ2 hs2) => some (.nx ρ2 hs2)
      | some (.ret d hs2) => some (.ret d hs2)
      | none => none
    | none => none
def mFor (f : IM) (g : GM) (b : SM) : SM := fun ρ hs => match f ρ hs with
  | some (ds, hs1) => forGo g b ds ρ hs1
  | none => none
theorem ms_for {X : Cx} {G : GX} {tg iter : Expr} {body : List Stmt} {f : IM} {ts : List Nat} {g : GM} {b : SM} {pos : Pos} (hp : PassesOwn (model X.prog X.w) X.A X.env X.xe) (hc : X.calm = true) (hi : PI X tg iter (TIS G f)) (hg : PG X tg (TGM G ts g)) (hb : PSs X body (TSM G b))
    (hs : ∀ x, foldedSetIterable iter X.env x = pure x := by intro _; rfl) : PS X (.For tg iter body [] pos) (TSM G (mFor f g b)) := by
  refine (ps_for hp hc hi hg hb hs).imp fun D σ H ⟨ρ, hs, m, sl, hr, r, ee, q⟩ => ?_
  unfold mFor at ee
  split at ee
  · rename_i ds hs1 e1
    refine ⟨ρ, hs, m, sl, hr, ds, hs1, e1, fun J H1 m1 n1 hr1 js => ?_⟩
    refine ⟨fun i n σ H' => n = ds.length - i ∧ i ≤ ds.length ∧ ∃ ρ' hs' m', SL G H' m' ρ' σ ∧ Nx m1 H1 m' H' ∧ HR G m' hs' H' ∧ forGo g b (ds.drop i) ρ' hs' = some r, ⟨ds.length, by simp, Nat.zero_le _, ρ, hs1, m1, sl.nx hr n1, .refl, hr1, ee⟩, ?_⟩
    rintro i n σ' H' ⟨rfl, hi, ρ', hs', m', sl', nx', hr', er⟩
    have qj := js m' H' hs' nx' hr' i
    by_cases hlt : i < ds.length
    · have ed : ds[i]? = some ds[i] := List.getElem?_eq_getElem hlt
      obtain ⟨go, yl⟩ := qj.1 _ ed
      rw [List.drop_eq_getElem_cons hlt] at er
      unfold forGo at er
      refine .inr ⟨go, fun σ'' H'' => ∃ ρ'' hs'' m'', SL G H'' m'' ρ'' σ'' ∧ Nx m1 H1 m'' H'' ∧ HR G m'' hs'' H'' ∧ forGo g b (ds.drop (i + 1)) ρ'' hs'' = some r, fun σ'' H'' h => ⟨ds.length - (i + 1), by omega, rfl, hlt, h⟩, fun x H2 y => ?_⟩
      obtain ⟨n2, hr2, rx⟩ := yl x H2 y
      split at er
      · rename_i ρ2 e2
        refine ⟨ds[i], ρ', hs', m', sl'.nx hr' n2, hr2, rx, ρ2, e2, fun σ2 sl2 _ => ?_⟩
        refine ⟨ρ2, hs', m', sl2, hr2, ?_⟩
        have nb := nx'.trans n2
        split at er
        · rename_i ρ3 hs3 e3
          exact ⟨_, e3, fun σ4 H4 m4 n4 hr4 sl4 => ⟨ρ3, hs3, m4, sl4, nb.trans n4, hr4, er⟩⟩
        · rename_i ρ3 hs3 e3
          exact ⟨_, e3, fun σ4 H4 m4 n4 hr4 sl4 => ⟨ρ3, hs3, m4, sl4, nb.trans n4, hr4, er⟩⟩
        · rename_i ρ3 hs3 e3
          cases er
          exact ⟨_, e3, fun σ4 H4 m4 n4 hr4 sl4 => q σ4 H4 m4 ((n1.trans nb).trans n4) hr4 sl4⟩
        · rename_i d hs3 e3
          cases er
          exact ⟨_, e3, fun v H4 m4 n4 hr4 rv => q v H4 m4 ((n1.trans nb).trans n4) hr4 rv⟩
        · cases er
      · cases er
    · have ei : i = ds.length := by omega
      subst ei
      rw [List.drop_length] at er
      cases er
      exact .inl ⟨qj.2 (Nat.le_refl _), q σ' H' m' (n1.trans nx') hr' sl'⟩
  · cases ee
/-- over a list at its place, as it stands at each turn; N: a bound of the turns -/
def forGoL (n : Nat) (g : GM) (b : SM) : Nat → Nat → En → Hs → Option Rs
  | 0, _, _, _ => none
  | N + 1, i, ρ, hs => match at? hs n with
    | some (.lst ds) => match at? ds i with
      | none => some (.nx ρ hs)
      | some d => match g d ρ with
        | some ρ' => match b ρ' hs with
          | some (.nx ρ2 hs2) => forGoL n g b N (i + 1) ρ2 hs2
          | some (.ct ρ2 hs2) => forGoL n g b N (i + 1) ρ2 hs2
          | some (.bk ρ2 hs2) => some (.nx ρ2 hs2)
          | some (.ret d hs2) => some (.ret d hs2)
          | none => none
        | none => none
    | _ => none
def mForL (N : Nat) (f : EM) (g : GM) (b : SM) : SM := fun ρ hs => match f ρ hs with
  | some (.ref n, hs1) => forGoL n g b N 0 ρ hs1
  | _ => none
theorem ms_forL (N : Nat) {X : Cx} {tb : List Addr} {tg iter : Expr} {body : List Stmt} {f : EM} {ts : List Nat} {g : GM} {b : SM} {pos : Pos} (hp : PassesOwn (model X.prog X.w) X.A X.env X.xe) (hc : X.calm = true) (hi : PE X iter (TM (GO X tb) f)) (hg : PG X tg (TGM (GO X tb) ts g)) (hb : PSs X body (TSM (GO X tb) b))
    (hs : ∀ x, foldedSetIterable iter X.env x = pure x := by intro _; rfl) : PS X (.For tg iter body [] pos) (TSM (GO X tb) (mForL N f g b)) := by
  refine (ps_for hp hc (pi_list hi) hg hb hs).imp fun D σ H ⟨ρ, hs, m, sl, hr, r, ee, q⟩ => ?_
  unfold mForL at ee
  split at ee
  · rename_i k hs1 e1
    refine ⟨ρ, hs, m, sl, hr, _, _, e1, fun v H1 m1 n1 hr1 rv => ?_⟩
    cases rv with
    | ref e2 =>
      rename_i a
      refine ⟨a, rfl, ?_, ?_⟩
      · cases N with
        | zero => cases ee
        | succ N =>
          unfold forGoL at ee
          split at ee
          · rename_i ds ed
            obtain ⟨xs, hx, rx⟩ := hr1.lst e2 ed
            exact ⟨xs, .of hx⟩
          · cases ee
      · refine ⟨fun i n σ H' => ∃ ρ' hs' m', SL (GO X tb) H' m' ρ' σ ∧ Nx m1 H1 m' H' ∧ HR (GO X tb) m' hs' H' ∧ forGoL k g b n i ρ' hs' = some r, ⟨N, ρ, hs1, m1, sl.nx hr n1, .refl, hr1, ee⟩, ?_⟩
        rintro i n σ' H' ⟨ρ', hs', m', sl', nx', hr', er⟩
        cases n with
        | zero => cases er
        | succ n =>
          unfold forGoL at er
          split at er
          · rename_i ds ed
            obtain ⟨xs, hx, rx⟩ := hr'.lst (nx'.ix e2) ed
            split at er
            · rename_i ei
              cases er
              rw [at?_eq] at ei
              refine .inl ⟨⟨xs, .of hx, ?_⟩, q σ' H' m' (n1.trans nx') hr' sl'⟩
              rw [← rx.length]
              exact List.getElem?_eq_none_iff.mp ei
            · rename_i d ei
              rw [at?_eq] at ei
              obtain ⟨v, h1, h2⟩ := rx.get ei
              refine .inr ⟨⟨xs, v, .of hx, h1⟩, fun σ'' H'' => ∃ ρ'' hs'' m'', SL (GO X tb) H'' m'' ρ'' σ'' ∧ Nx m1 H1 m'' H'' ∧ HR (GO X tb) m'' hs'' H'' ∧ forGoL k g b n (i + 1) ρ'' hs'' = some r, fun σ'' H'' h => ⟨n, Nat.lt_succ_self n, h⟩, fun x H2 y => ?_⟩
              obtain ⟨rfl, y⟩ := y
              have ex := y xs (.of hx)
              rw [h1] at ex; cases ex
              split at er
              · rename_i ρ2 e3
                refine ⟨d, ρ', hs', m', sl', hr', h2, ρ2, e3, fun σ2 sl2 _ => ?_⟩
                refine ⟨ρ2, hs', m', sl2, hr', ?_⟩
                split at er
                · rename_i ρ3 hs3 e3
                  exact ⟨_, e3, fun σ4 H4 m4 n4 hr4 sl4 => ⟨ρ3, hs3, m4, sl4, nx'.trans n4, hr4, er⟩⟩
                · rename_i ρ3 hs3 e3
                  exact ⟨_, e3, fun σ4 H4 m4 n4 hr4 sl4 => ⟨ρ3, hs3, m4, sl4, nx'.trans n4, hr4, er⟩⟩
                · rename_i ρ3 hs3 e3
                  cases er
                  exact ⟨_, e3, fun σ4 H4 m4 n4 hr4 sl4 => q σ4 H4 m4 ((n1.trans nx').trans n4) hr4 sl4⟩
                · rename_i d hs3 e3
                  cases er
                  exact ⟨_, e3, fun v H4 m4 n4 hr4 rv => q v H4 m4 ((n1.trans nx').trans n4) hr4 rv⟩
                · cases er
              · cases er
          · cases er
  · cases ee

/-! ### list comprehensions -/
def wipeE (ρ : En) : List Nat → En
  | [] => ρ
  | v :: vs => put (wipeE ρ vs) v none
theorem wipe_get (σ : L2.St) (i : Nat) : ∀ vs : List Nat, (wipe σ vs)[i]? = if i ∈ vs ∧ i < σ.length then some none else σ[i]?
  | [] => by simp [wipe]
  | v :: vs => by
    unfold wipe
    by_cases hv : v = i
    · subst hv
      by_cases hl : v < σ.length
      · rw [List.getElem?_set_self (by rw [wipe_length]; exact hl), if_pos ⟨List.mem_cons_self, hl⟩]
      · rw [List.set_eq_of_length_le (by rw [wipe_length]; omega), wipe_get σ v vs, if_neg (fun z => hl z.2), if_neg (fun z => hl z.2)]
    · rw [List.getElem?_set_ne hv, wipe_get σ i vs]
      by_cases h1 : i ∈ vs ∧ i < σ.length
      · rw [if_pos h1, if_pos ⟨List.mem_cons_of_mem _ h1.1, h1.2⟩]
      · rw [if_neg h1, if_neg]
        rintro ⟨z1, z2⟩
        rcases List.mem_cons.mp z1 with z | z
        · exact hv z.symm
        · exact h1 ⟨z, z2⟩
theorem wipeE_len (ρ : En) : ∀ vs : List Nat, (wipeE ρ vs).length = ρ.length
  | [] => rfl
  | v :: vs => by unfold wipeE; rw [put_length, wipeE_len ρ vs]
theorem SL.wipe {G : GX} {H : Hp} {m : List Addr} {ρ : En} {σ : L2.St} (s : SL G H m ρ σ) : ∀ vs : List Nat, SL G H m (wipeE ρ vs) (L2.wipe σ vs)
  | [] => s
  | v :: vs => by
    have ih := s.wipe vs
    unfold wipeE L2.wipe
    refine ⟨by rw [put_length, List.length_set]; exact ih.len, fun i d e => ?_⟩
    rw [put_eq] at e
    by_cases hv : v = i
    · subst hv
      by_cases hl : v < (wipeE ρ vs).length
      · rw [List.getElem?_set_self hl] at e; cases e
      · rw [List.getElem?_eq_none (by simpa using hl)] at e; cases e
    · rw [List.getElem?_set_ne hv] at e
      rw [List.getElem?_set_ne hv]
      exact ih.at_ i d e
theorem Off.wipe {ts vs : List Nat} {σ σ' : L2.St} (o : Off ts (L2.wipe σ vs) σ') (h : ∀ i ∈ ts, i ∈ vs) : L2.wipe σ' vs = L2.wipe σ vs := by
  have hl : σ'.length = σ.length := o.len.trans (wipe_length σ vs)
  refine List.ext_getElem? fun i => ?_
  rw [wipe_get, wipe_get]
  by_cases hi : i ∈ vs ∧ i < σ.length
  · rw [if_pos hi, if_pos ⟨hi.1, by rw [hl]; exact hi.2⟩]
  · rw [if_neg hi, if_neg (fun z => hi ⟨z.1, by rw [← hl]; exact z.2⟩)]
    by_cases hv : i ∈ vs
    · have h1 : σ.length ≤ i := Nat.le_of_not_lt fun z => hi ⟨hv, z⟩
      rw [List.getElem?_eq_none h1, List.getElem?_eq_none (by omega)]
    · rw [o.same i (fun z => hv (h i z)), wipe_get, if_neg (fun z => hv z.1)]

/-- a list beside the mirror's heap -/
theorem HR.aside {G : GX} {m : List Addr} {hs : Hs} {H : Hp} {L : Addr} {xs ys : List V} (hr : HR G m hs H) (hL : H L = some (.lst xs)) (hn : L ∉ m) : HR G m hs (upd H L (.lst ys)) ∧ (∀ d v, Rep G.K H m d v → Rep G.K (upd H L (.lst ys)) m d v) := by
  have hp : ∀ b u, H b = some u → (∀ zs, u ≠ .lst zs) → b ≠ L := fun b u e h z => by rw [z, hL] at e; exact h xs (Option.some.inj e).symm
  have sq : ∀ {a : Addr} {zs : List V}, SqT G.K H a zs → SqT G.K (upd H L (.lst ys)) a zs := fun {a zs} h => by
    rcases h with (h | ⟨o, h⟩) | h
    · exact .inl (.inl (by rw [upd_ne (hp a _ h fun _ z => by cases z)]; exact h))
    · exact .inl (.inr ⟨o, by rw [upd_ne (hp a _ h fun _ z => by cases z)]; exact h⟩)
    · exact .inr h
  have fr : ∀ {a : Addr} {zs : List V}, FrL G.K H a zs → FrL G.K (upd H L (.lst ys)) a zs := fun {a zs} h => by
    rcases h with ⟨o, h⟩ | h
    · exact .inl ⟨o, by rw [upd_ne (hp a _ h fun _ z => by cases z)]; exact h⟩
    · exact .inr h
  have go : ∀ (d : D) (v : V), Rep G.K H m d v → Rep G.K (upd H L (.lst ys)) m d v := fun d v h =>
    Rep.rec (motive_1 := fun d v _ => Rep G.K (upd H L (.lst ys)) m d v) (motive_2 := fun ds vs _ => Reps G.K (upd H L (.lst ys)) m ds vs)
      .non .bl .int .str (fun e => .ref e) (fun h _ ih => .tup (sq h) ih) (fun h _ ih => .fro (fr h) ih) (fun h d _ ih => .tuf (by rw [upd_ne (hp _ _ h fun _ z => by cases z)]; exact h) d ih) .nil (fun _ _ a b => .cons a b) h
  have gos : ∀ (ds : List D) (vs : List V), Reps G.K H m ds vs → Reps G.K (upd H L (.lst ys)) m ds vs := fun ds => by
    induction ds with
    | nil => intro vs r; cases r; exact .nil
    | cons d ds ih => intro vs r; cases r with | cons r t => exact .cons (go _ _ r) (ih _ t)
  refine ⟨⟨hr.len, hr.nd, fun i a o e1 e2 => ?_, fun P hP => ?_⟩, go⟩
  · have q := hr.obj i a o e1 e2
    have na : a ≠ L := fun z => hn (z ▸ List.mem_of_getElem? e1)
    cases o with
    | lst ds => obtain ⟨zs, h1, r⟩ := q; exact ⟨zs, by rw [upd_ne na]; exact h1, gos _ _ r⟩
    | dK ds => obtain ⟨zs, h1, k, r⟩ := q; exact ⟨zs, by rw [upd_ne na]; exact h1, k, gos _ _ r⟩
    | dT ds => obtain ⟨zs, h1, k, r⟩ := q; exact ⟨zs, by rw [upd_ne na]; exact h1, k, gos _ _ r⟩
  · obtain ⟨ps, h1, h2⟩ := hr.tab P hP
    exact ⟨ps, by rw [upd_ne (hp P _ h1 fun _ z => by cases z)]; exact h1, h2⟩
theorem Nx.aside {m m' : List Addr} {H H' : Hp} {L : Addr} {u : HO} (n : Nx m H m' H') (h0 : H L = none) : Nx m H m' (upd H' L u) :=
  ⟨n.pre, n.fresh, fun a o e h t => by rw [upd_ne (ne_of_none e h0)]; exact n.keep a o e h t, fun a e => by
    by_cases h : a = L
    · rw [h, upd_same]; simp
    · rw [upd_ne h]; exact n.there a e⟩
/-- .. is told by it -/
theorem Rep.widen {K : PySem.W.Frag} {H : Hp} {m t : List Addr} {d : D} {v : V} (h : Rep K H m d v) : Rep K H (m ++ t) d v :=
  Rep.rec (motive_1 := fun d v _ => Rep K H (m ++ t) d v) (motive_2 := fun ds vs _ => Reps K H (m ++ t) ds vs)
    .non .bl .int .str (fun e => .ref (by rw [List.getElem?_append_left (List.getElem?_eq_some_iff.mp e).1]; exact e)) (fun h _ ih => .tup h ih) (fun h _ ih => .fro h ih) (fun h d _ ih => .tuf h d ih) .nil (fun _ _ a b => .cons a b) h
theorem Reps.widen {K : PySem.W.Frag} {H : Hp} {m t : List Addr} : ∀ {ds : List D} {vs : List V}, Reps K H m ds vs → Reps K H (m ++ t) ds vs
  | _, _, .nil => .nil
  | _, _, .cons r q => .cons r.widen q.widen
theorem HR.adopt {G : GX} {m : List Addr} {hs : Hs} {H : Hp} {L : Addr} {xs : List V} {ds : List D} (hr : HR G m hs H) (hL : H L = some (.lst xs)) (hn : L ∉ m) (r : Reps G.K H m ds xs) : HR G (m ++ [L]) (hs ++ [.lst ds]) H := by
  refine ⟨by rw [List.length_append, List.length_append, hr.len]; rfl, ?_, fun i a o' e1 e2 => ?_, hr.tab⟩
  · rw [List.nodup_append]
    refine ⟨hr.nd, by simp, fun a ha b hb => ?_⟩
    rw [List.mem_singleton.mp hb]
    intro e; rw [e] at ha; exact hn ha
  · by_cases hi : i < m.length
    · rw [List.getElem?_append_left hi] at e1
      rw [List.getElem?_append_left (by rw [← hr.len]; exact hi)] at e2
      have q := hr.obj i a o' e1 e2
      cases o' with
      | lst ds => obtain ⟨zs, h1, r⟩ := q; exact ⟨zs, h1, r.widen⟩
      | dK ds => obtain ⟨zs, h1, k, r⟩ := q; exact ⟨zs, h1, k, r.widen⟩
      | dT ds => obtain ⟨zs, h1, k, r⟩ := q; exact ⟨zs, h1, k, r.widen⟩
    · rw [List.getElem?_append_right (by omega)] at e1
      rw [List.getElem?_append_right (by rw [← hr.len]; omega)] at e2
      have h0 : i - m.length = 0 := by
        obtain ⟨z, _⟩ := List.getElem?_eq_some_iff.mp e1
        simp at z; omega
      rw [h0] at e1
      rw [← hr.len, h0] at e2
      cases e1; cases e2
      exact ⟨xs, hL, r.widen⟩

def lcGo (g : GM) (c : BM) (f : EM) (ρ : En) : List D → Hs → List D → Option (List D × Hs)
  | [], hs, acc => some (acc.reverse, hs)
  | d :: ds, hs, acc => match g d ρ with
    | some ρ' => match c ρ' hs with
      | some (true, hs1) => match f ρ' hs1 with
        | some (x, hs2) => lcGo g c f ρ ds hs2 (x :: acc)
        | none => none
      | some (false, hs1) => lcGo g c f ρ ds hs1 acc
      | none => none
    | none => none
def mLc (s : IM) (g : GM) (c : BM) (f : EM) (vs : List Nat) : EM := fun ρ hs => match s ρ hs with
  | some (ds, hs1) => if cap (ds.length + 1) then match lcGo g c f (wipeE ρ vs) ds hs1 [] with
    | some (xs, hs2) => some (.ref hs2.length, hs2 ++ [.lst xs])
    | none => none else none
  | none => none
def mYes : BM := fun _ hs => some (true, hs)
instance : QB mYes := ⟨fun ρ hs d hs' h => by cases h; exact .refl⟩
theorem lcGo_grows {g : GM} {c : BM} {f : EM} [qc : QB c] [qf : QE f] {ρ : En} : ∀ {ds : List D} {hs : Hs} {acc : List D} {r : List D × Hs}, lcGo g c f ρ ds hs acc = some r → Grows hs r.2
  | [], hs, acc, r, h => by cases h; exact .refl
  | d :: ds, hs, acc, r, h => by
    unfold lcGo at h
    split at h
    · split at h
      · rename_i e1
        split at h
        · rename_i e2
          exact ((qc.q _ _ _ _ e1).trans (qf.q _ _ _ _ e2)).trans (lcGo_grows h)
        · cases h
      · rename_i e1
        exact (qc.q _ _ _ _ e1).trans (lcGo_grows h)
      · cases h
    · cases h
instance {s : IM} {g : GM} {c : BM} {f : EM} {vs : List Nat} [a : QI s] [qc : QB c] [qf : QE f] : QE (mLc s g c f vs) := ⟨fun ρ hs d hs' h => by
  unfold mLc at h
  split at h
  · rename_i e1
    split at h
    · split at h
      · rename_i e2
        cases h
        exact ((a.q _ _ _ _ e1).trans (lcGo_grows e2)).trans .one
      · cases h
    · cases h
  · cases h⟩
/-- the reading of a comprehension -/
theorem tm_lc {G : GX} {s : IM} {ts vs : List Nat} {g : GM} {c : BM} {f : EM} [qc : QB c] [qf : QE f] (hts : ∀ i ∈ ts, i ∈ vs) {σ : L2.St} {H : Hp} {Q : VK} (h : TM G (mLc s g c f vs) σ H Q) : tLc (TIW G s) (TGM G ts g) (TB G c) (TM G f) vs σ H Q := by
  obtain ⟨ρ, hs, m, sl, hr, r, hs', ee, q⟩ := h
  unfold mLc at ee
  split at ee
  · rename_i ds hs1 e1
    split at ee
    · rename_i hcap
      have hcap := cap_le hcap
      split at ee
      · rename_i xs hs2 eg
        cases ee
        refine ⟨ρ, hs, m, sl, hr, ds, hs1, e1, fun J H1 m1 n1 hr1 jw L hL => ?_⟩
        have sl1 := sl.nx hr n1
        have nL1 : L ∉ m1 := hr1.no_none hL
        refine ⟨fun i k H' => k = ds.length - i ∧ i ≤ ds.length ∧ ∃ m' r acc ys, Nx m1 H1 m' H' ∧ HR G m' (hs1 ++ r) H' ∧ L ∉ m' ∧ H' L = some (.lst ys) ∧ Reps G.K H' m' acc.reverse ys ∧ acc.length ≤ i ∧ lcGo g c f (wipeE ρ vs) (ds.drop i) (hs1 ++ r) acc = some (xs, hs2),
          ⟨ds.length, by simp, Nat.zero_le _, m1, [], [], [], (Nx.refl).aside hL, ?_, nL1, upd_same, .nil, Nat.zero_le _, by rw [List.append_nil]; exact eg⟩, ?_⟩
        · rw [List.append_nil]; exact hr1.more hL
        rintro i k H' ⟨rfl, hi, m', t, acc, ys, n', hr', nL, eL, racc, lacc, er⟩
        have qj := jw m' H' t n' hr' i
        by_cases hlt : i < ds.length
        · have ed : ds[i]? = some ds[i] := List.getElem?_eq_getElem hlt
          obtain ⟨go, yl⟩ := qj.1 _ ed
          rw [List.drop_eq_getElem_cons hlt] at er
          unfold lcGo at er
          refine .inr ⟨go, fun H'' => ∃ m' r acc ys, Nx m1 H1 m' H'' ∧ HR G m' (hs1 ++ r) H'' ∧ L ∉ m' ∧ H'' L = some (.lst ys) ∧ Reps G.K H'' m' acc.reverse ys ∧ acc.length ≤ i + 1 ∧ lcGo g c f (wipeE ρ vs) (ds.drop (i + 1)) (hs1 ++ r) acc = some (xs, hs2),
            fun H'' h => ⟨ds.length - (i + 1), by omega, rfl, hlt, h⟩, fun x H2 y => ?_⟩
          obtain ⟨n2, hr2, rx⟩ := yl x H2 y
          -- what stays of the new list
          have keepL : ∀ {H3 : Hp} {m3 : List Addr}, Nx m' H2 m3 H3 → H3 L = some (.lst ys) ∧ L ∉ m3 := fun {H3 m3} n3 => by
            have e2 : H2 L = some (.lst ys) := n2.keep L _ eL nL fun _ z => by cases z
            refine ⟨n3.keep L _ e2 nL (fun _ z => by cases z), fun z => ?_⟩
            have := n3.fresh L z nL
            rw [e2] at this; cases this
          split at er
          · rename_i ρ2 e2
            refine ⟨ds[i], wipeE ρ vs, hs1 ++ t, m', (((sl1.nx hr1 n').nx hr' n2).wipe vs), hr2, rx, ρ2, e2, fun σ2 sl2 off => ?_⟩
            refine ⟨off.wipe hts, ?_⟩
            refine ⟨ρ2, hs1 ++ t, m', sl2, hr2, ?_⟩
            split at er
            · rename_i hs3 e3
              obtain ⟨t3, rfl⟩ := qc.q _ _ _ _ e3
              refine ⟨true, _, e3, fun H3 m3 n3 hr3 => iteT ⟨ρ2, _, m3, sl2.nx hr2 n3, hr3, ?_⟩⟩
              split at er
              · rename_i x1 hs4 e4
                obtain ⟨t4, rfl⟩ := qf.q _ _ _ _ e4
                refine ⟨x1, _, e4, fun yv H4 m4 n4 hr4 ry => ?_⟩
                have n24 := n3.trans n4
                obtain ⟨eL4, nL4⟩ := keepL n24
                have racc4 := (racc.nx hr' n2).nx hr2 n24
                have la := racc4.length
                rw [List.length_reverse] at la
                refine ⟨ys, eL4, by omega, m4, t ++ t3 ++ t4, x1 :: acc, ys ++ [yv], ((n'.trans n2).trans n24).aside hL, ?_, nL4, upd_same, ?_, by simp; omega, ?_⟩
                · have e5 : hs1 ++ (t ++ t3 ++ t4) = hs1 ++ t ++ t3 ++ t4 := by simp only [List.append_assoc]
                  rw [e5]
                  exact (hr4.aside eL4 nL4).1
                · rw [List.reverse_cons]
                  have ra := (hr4.aside (ys := ys ++ [yv]) eL4 nL4).2
                  have rs : ∀ (ds : List D) (vs : List V), Reps G.K H4 m4 ds vs → Reps G.K (upd H4 L (.lst (ys ++ [yv]))) m4 ds vs := fun ds => by
                    induction ds with
                    | nil => intro vs r; cases r; exact .nil
                    | cons d ds ih => intro vs r; cases r with | cons r t => exact .cons (ra _ _ r) (ih _ t)
                  exact (rs _ _ racc4).append (.cons (ra _ _ ry) .nil)
                · have e5 : hs1 ++ (t ++ t3 ++ t4) = hs1 ++ t ++ t3 ++ t4 := by simp only [List.append_assoc]
                  rw [e5]; exact er
              · cases er
            · rename_i hs3 e3
              obtain ⟨t3, rfl⟩ := qc.q _ _ _ _ e3
              refine ⟨false, _, e3, fun H3 m3 n3 hr3 => iteF ?_⟩
              obtain ⟨eL3, nL3⟩ := keepL n3
              refine ⟨m3, t ++ t3, acc, ys, (n'.trans n2).trans n3, ?_, nL3, eL3, (racc.nx hr' n2).nx hr2 n3, by omega, ?_⟩
              · rw [← List.append_assoc]; exact hr3
              · rw [← List.append_assoc]; exact er
            · cases er
          · cases er
        · have ei : i = ds.length := by omega
          subst ei
          rw [List.drop_length] at er
          cases er
          refine .inl ⟨qj.2 (Nat.le_refl _), ?_⟩
          have ha := hr'.adopt eL nL racc
          refine q _ H' (m' ++ [L]) ⟨?_, fun a h1 h2 => ?_, (n1.trans n').keep, (n1.trans n').there⟩ ha (.ref ?_)
          · obtain ⟨t2, e2⟩ := (n1.trans n').pre
            exact ⟨t2 ++ [L], by rw [e2, List.append_assoc]⟩
          · rcases List.mem_append.mp h1 with h1 | h1
            · exact (n1.trans n').fresh a h1 h2
            · rw [List.mem_singleton.mp h1]
              cases z : H L with
              | none => rfl
              | some o => exact absurd hL (n1.there L (by rw [z]; simp))
          · rw [← hr'.len, List.getElem?_append_right (Nat.le_refl _), Nat.sub_self]; rfl
      · cases ee
    · cases ee
  · cases ee
section
variable {X : Cx} {tb : List Addr} {elt tg iter : Expr} {ifs : List Expr} {scope : Scope} {own : List (Str × Nat)} {pos : Pos} {s : IM} {ts : List Nat} {g : GM} {c : BM} {f : EM}
/-- [elt for tg in iter if ..] -/
theorem m_lc [qc : QB c] [qf : QE f] (hc : X.calm = true) (hN : X.N.Nodup) (hi : PI X tg iter (TIW (GO X tb) s)) (ok : BlkOk X.N X.env.scope scope own)
    (hg : ∀ (s : Shared) (H : Hp) (C : Addr) (cl : List (Str × Addr)) (fp : List Addr), PG (X.blk s H scope (compEnvC scope cl C X.env) fp) tg (TGM (GO X tb) ts g)) (ht : ∀ (s : Shared) (H : Hp) (C : Addr) (cl : List (Str × Addr)) (fp : List Addr), PTs (X.blk s H scope (compEnvC scope cl C X.env) fp) ifs (TB (GO X tb) c))
    (he : ∀ (s : Shared) (H : Hp) (C : Addr) (cl : List (Str × Addr)) (fp : List Addr), PE (X.blk s H scope (compEnvC scope cl C X.env) fp) elt (TM (GO X tb) f)) (hts : ∀ i ∈ ts, i ∈ own.map (·.2) := by decide) (hs : ∀ x, foldedSetIterable iter X.env x = pure x := by intro _; rfl) :
    PE X (.ListComp elt [⟨tg, iter, ifs, 0⟩] scope pos) (TM (GO X tb) (mLc s g c f (own.map (·.2)))) :=
  (pe_lc hc hN hi ok hg ht he hs).imp fun _ _ _ => tm_lc hts
theorem ms_setLc [qc : QB c] [qf : QE f] {i : Nat} {y : Str} {py spos : Pos} (hc : X.calm = true) (hN : X.N.Nodup) (hy : X.N[i]? = some y) (hyl : X.env.scope.names.lookup y = some .local)
    (hsw : swapsWith (.ListComp elt [⟨tg, iter, ifs, 0⟩] scope pos) (some (.Name y py)) spos.line X.env = pure true) (hi : PI X tg iter (TIW (GO X tb) s)) (ok : BlkOk X.N X.env.scope scope own)
    (hg : ∀ (s : Shared) (H : Hp) (C : Addr) (cl : List (Str × Addr)) (fp : List Addr), PG (X.blk s H scope (compEnvC scope cl C X.env) fp) tg (TGM (GO X tb) ts g)) (ht : ∀ (s : Shared) (H : Hp) (C : Addr) (cl : List (Str × Addr)) (fp : List Addr), PTs (X.blk s H scope (compEnvC scope cl C X.env) fp) ifs (TB (GO X tb) c))
    (he : ∀ (s : Shared) (H : Hp) (C : Addr) (cl : List (Str × Addr)) (fp : List Addr), PE (X.blk s H scope (compEnvC scope cl C X.env) fp) elt (TM (GO X tb) f)) (hts : ∀ i ∈ ts, i ∈ own.map (·.2) := by decide) (hs : ∀ x, foldedSetIterable iter X.env x = pure x := by intro _; rfl) :
    PS X (.Assign [.Name y py] (.ListComp elt [⟨tg, iter, ifs, 0⟩] scope pos) spos) (TSM (GO X tb) (mSet i (mLc s g c f (own.map (·.2))))) := by
  refine (ps_setLc hc hN hy hyl hsw hi ok hg ht he hs).imp fun D σ H ⟨ρ, hs, m, sl, hr, r, ee, q⟩ => ?_
  unfold mSet at ee
  split at ee
  · rename_i d hs' e'
    cases ee
    exact tm_lc hts ⟨ρ, hs, m, sl, hr, d, hs', e', fun v H' m' n' hr' rv => q _ H' m' n' hr' ((sl.nx hr n').set rv i)⟩
  · cases ee
theorem mts_nil {G : GX} : PTs X [] (TB G mYes) := ⟨fun pins s σ H Q I ⟨ρ, hs, m, sl, hr, b, hs', e, q⟩ => by
  cases e
  exact pts_nil.run pins s σ H Q I (q H m .refl hr)⟩
theorem mts_one {G : GX} {e : Expr} (h : PT X e (TB G c)) : PTs X [e] (TB G c) := pts_one h
end
end Mir

/-! MirG: any, all of a generator expression. -/
namespace L2
open PySem PySem.Spec PyProof.Rows GenW

theorem Inv.same {X : Cx} {pins : List (Addr × Obj)} {σ : St} {H : Hp} {s s' : Shared} (I : Inv X pins σ H s) (h : s'.heap = s.heap) (o : s'.os = s.os) (g : AllBare s'.gens) : Inv X pins σ H s' :=
  ⟨I.ok, o.trans I.os, g, by rw [h]; exact I.base, by rw [h]; exact I.loc, fun x c e => by rw [h]; exact I.cell x c e, I.free, I.freeC, fun p hp => by rw [h]; exact I.pin p hp, by rw [h]; exact I.hok, I.len⟩

/-- the context of a generator expression's frame -/
abbrev Cx.gx (X : Cx) (s : Shared) (H : Hp) (cenv : Env) (fp : List Addr) (A : Around) : Cx :=
  { X with s_0 := s, H_0 := H, env := cenv, outer := X.stack, stack := cenv :: X.stack, ex := fp, fn := fun _ => false, pn := [], A := A, xe := fun _ _ => False }

section
variable {X : Cx} {pins : List (Addr × Obj)} {σ : St} {H : Hp} {s s' : Shared}
theorem gx_start {scope : Scope} {own : List (Str × Nat)} {fp : List Addr} {C a : Addr} {code : Value} {A' : Around} {m : Str → Option Value} {o : Obj} (I : Inv X pins σ H s) (ok : BlkOk X.N X.env.scope scope own) (hcell : ∀ y ∈ scope.names, y.2 ≠ .cell) (hN : X.N.Nodup)
    (hfp : ∀ b ∈ fp, FpOk X pins H b ∧ b < s.heap.objs.size) (hC : C = s.heap.objs.size) (hA : A'.handled = none) (hfr : A'.frames = some (genEnv scope (cloFrom X.env.cells scope.names []) C code builtinsNs X.env :: X.stack))
    (kp : ∀ b u, s.heap.get? b = some u → s'.heap.get? b = some u) (hn : s'.heap.Ns C m) (hos : s'.os = s.os) (hb : AllBare s'.gens) (ha : s.heap.objs.size < a) (hao : s'.heap.get? a = some o) (hod : ∀ v, o.data ≠ .cell v) :
    Inv (X.gx s H (genEnv scope (cloFrom X.env.cells scope.names []) C code builtinsNs X.env) fp A') [(a, o)] (wipe σ (own.map (·.2))) H s' := by
  have hfree : ∀ y ∈ scope.names, y.2 = .free → ∃ c, X.env.cells.lookup y.1 = some c := fun y hy e => by
    rcases ok.free y hy e with k | k
    · exact I.ok.has _ (.inl k)
    · exact I.ok.has _ (.inr k)
  have cm : ∀ {y c}, (cloFrom X.env.cells scope.names []).lookup y = some c → X.env.cells.lookup y = some c ∧ c < s.heap.objs.size := fun {y c} hm => by
    rcases cloFrom_mem (PySem.mem_of_lookup hm) with hm | ⟨h1, rfl⟩
    · cases hm
    · obtain ⟨c, hc⟩ := hfree _ h1 rfl
      rw [hc]
      obtain ⟨w, z⟩ := I.cell _ _ hc
      exact ⟨rfl, z.lt⟩
  have look : ∀ {y}, scope.names.lookup y = some .free → ∃ c, (cloFrom X.env.cells scope.names []).lookup y = some c ∧ X.env.cells.lookup y = some c := fun {y} hl => by
    obtain ⟨c', e'⟩ := mem_lookup (cloFrom_has (cells := X.env.cells) (acc := []) (PySem.mem_of_lookup hl))
    exact ⟨c', e', (cm e').1⟩
  have okB : (X.gx s H (genEnv scope (cloFrom X.env.cells scope.names []) C code builtinsNs X.env) fp A').Ok := by
    refine ⟨I.ok.mod, ok.kind, I.ok.glob, rfl, by show s.heap.objs.size ≤ C; rw [hC]; exact Nat.le_refl _,
      fun y z c e1 e2 => I.ok.inj y z c (cm e1).1 (cm e2).1, fun y hy => ?_, fun y c z e => ?_, fun _ => hA, hfr, .inr ⟨rfl, rfl⟩, fun b hb => ⟨?_, fun y c e z => ?_⟩, I.bs, Nat.le_trans I.ok.bsz I.sz, fun b o e hb => ?_, fun b hb z => ?_, I.stack, I.stkFree⟩
    · rcases hy with hy | hy
      · have hy : scope.names.lookup y = some .cell := hy
        exact absurd rfl (hcell _ (PySem.mem_of_lookup hy))
      · have hy : scope.names.lookup y = some .free := hy
        obtain ⟨c, h1, _⟩ := look hy
        exact ⟨c, h1⟩
    · exact absurd z Bool.false_ne_true
    · show b ≠ C
      rw [hC]; exact Nat.ne_of_lt (hfp b hb).2
    · exact (hfp b hb).1.2.2.2.2.1 y c (cm e).1 z
    · rcases (hfp b hb).1.2.2.2.1 with z | z
      · exact I.ok.noex b o e z
      · exact absurd (Nat.lt_of_lt_of_le (Heap.lt_size e) (Nat.le_trans I.ok.bsz z)) (Nat.lt_irrefl _)
    · rcases List.mem_cons.mp (I.stkSub b z) with z | z
      · exact (hfp b hb).1.2.1 z
      · exact (hfp b hb).1.2.2.1 z
  refine ⟨okB, hos, hb, Un.kept kp, ⟨m, hn, fun i y av e1 e2 e3 => ?_⟩, fun y c e => ?_, ?_, fun y c e => ?_, fun p hp => ?_, I.hok.kept kp, by rw [wipe_length]; exact I.len⟩
  · obtain ⟨e2, hne⟩ := wipe_some e2
    have e3 : Vis scope y := e3
    have no : ∀ k, scope.names.lookup y = some k → ¬ (k = .local ∨ k = .cell) := fun k e hh => by
      rcases ok.own _ (PySem.mem_of_lookup e) hh with e' | e'
      · obtain ⟨p, hp, hpy⟩ := List.mem_map.mp e'
        have e3 := ok.ix p hp
        have : p.1 = y := hpy
        rw [this] at e3
        exact hne (List.mem_map.mpr ⟨p, hp, nodup_ix hN e3 e1⟩)
      · exact e' (List.mem_of_getElem? e1)
    have hfr : scope.names.lookup y = some .free := by
      rcases e3 with e3 | e3 | e3
      · exact absurd (.inl rfl) (no _ e3)
      · exact absurd (.inr rfl) (no _ e3)
      · exact e3
    obtain ⟨m, hn, hl⟩ := I.loc
    have hvis : Vis X.env.scope y := (ok.free _ (PySem.mem_of_lookup hfr) rfl).elim (fun k => .inr (.inl k)) (fun k => .inr (.inr k))
    obtain ⟨w, r, q⟩ := hl i y av e1 e2 hvis
    refine ⟨w, r, .inr ⟨.inr hfr, ?_⟩⟩
    obtain ⟨c, h1, h2⟩ := look hfr
    rcases q with ⟨k, _⟩ | ⟨_, c', e', z⟩
    · have k : X.env.scope.names.lookup y = some .local := k
      rcases ok.free _ (PySem.mem_of_lookup hfr) rfl with k' | k' <;> rw [show X.env.scope.names.lookup y = _ from k'] at k <;> cases k
    · rw [h2] at e'; cases e'
      exact ⟨c, h1, z.keeps kp⟩
  · obtain ⟨w, z⟩ := I.cell y c (cm e).1
    exact ⟨w, z.keeps kp⟩
  · show H C = none
    rw [hC]; exact I.hok.fresh (Nat.le_refl _)
  · exact I.freeC y c (cm e).1
  · have e : p = (a, o) := by
      have hp : p ∈ ([] : List (Addr × Obj)) ++ [(a, o)] := hp
      simpa using hp
    subst e
    refine ⟨hao, I.hok.fresh (Nat.le_of_lt ha), ?_, ?_, hod⟩
    · show a ≠ C
      rw [hC]; exact Nat.ne_of_gt ha
    · show a ∉ frs X.stack
      intro z
      rcases List.mem_cons.mp (I.stkSub a z) with z | z
      · have := I.lt
        rw [← z] at this
        exact absurd (Nat.lt_trans ha this) (Nat.lt_irrefl _)
      · exact I.nofs (Nat.le_of_lt ha) z
end

/-- any, all: stop is the value that ends the walk -/
def tAnyG (P : Addr) (stop : Bool) (wi : TI) (g : TG) (tt : TT) (te : TE) (vs : List Nat) : TE := fun σ H Q => wi σ H fun J H1 => Mir.TabG H1 P ∧ ∀ H2, GxR.Tabbed P H1 H2 → ∃ W : Nat → Nat → Hp → Prop, (∃ k, W 0 k H2) ∧ ∀ i k H', W i k H' →
  (J.stop i H' ∧ Q (.bl (!stop)) H') ∨ (J.go i H' ∧ ∃ Nx : Hp → Prop, (∀ H'', Nx H'' → ∃ k', k' < k ∧ W (i + 1) k' H'') ∧ ∀ x H'', J.yld i H' x H'' → g x (wipe σ vs) H'' fun σ3 H3 => wipe σ3 vs = wipe σ vs ∧ tt σ3 H3 fun b H4 =>
    if b = true then te σ3 H4 fun y H5 => ∃ b' : Bool, y = .bl b' ∧ (b' = stop → Q (.bl stop) H5) ∧ (b' ≠ stop → Nx H5) else Nx H4)

section
variable {X : Cx} {pins : List (Addr × Obj)} {σ : St} {H : Hp} {s : Shared}
/-- the ends of the generator's run -/
abbrev RG (Xg : Cx) (pg : List (Addr × Obj)) (stop : Bool) (Q : VK) : Nat → Shared → Shared → Prop := fun _ _ s1 => ∃ σ' H', Inv Xg pg σ' H' s1 ∧ Q (.bl (!stop)) H'
/-- its yields -/
abbrev YG (Xg : Cx) (pg : List (Addr × Obj)) (stop : Bool) (Q : VK) : Protocol := fun _ _ v s1 kap => ∃ b σ' H', v = .bool b ∧ Inv Xg pg σ' H' s1 ∧ (b = stop → Q (.bl stop) H') ∧ (b ≠ stop → ∀ s'' : Shared, s''.heap = s1.heap → s''.os = s1.os → AllBare s''.gens → kap (.send .none) s'')

theorem seg_anyG {Xg : Cx} {pg : List (Addr × Obj)} {stop : Bool} {Q : VK} {A : Around} {elt tg iter : Expr} {ifs : List Expr} {scope : Scope} {pos : Pos} {it : Addr} {fp : List Addr} {tn : Nat → Heap → Prop} {J : It} {g : TG} {tt : TT} {te : TE} {σw : St} {W : Nat → Nat → Hp → Prop} {vs : List Nat} {σ₀ : St}
    (hσ : σw = wipe σ₀ vs) (hco : Xg.env.scope.isCoroutine = false) (hc : Xg.calm = true) (hXA : Xg.A = A.over (.compLoop (.GeneratorExp elt [⟨tg, iter, ifs, 0⟩] scope pos) 0 (.ref it) .none Xg.env) []) (hxe : Xg.xe = fun _ _ => False)
    (T : Turn Xg.prog Xg.w Xg.K tg J fp it tn) (hfx : ∀ b ∈ fp, b ∈ Xg.ex) (hpg : ∀ p ∈ Xg.pn ++ pg, ∀ b ∈ fp, p.1 ≠ b) (pg_ : PG Xg tg g) (pt : PTs Xg ifs tt) (pe : PE Xg elt te)
    (turn : ∀ i k H', W i k H' → (J.stop i H' ∧ Q (.bl (!stop)) H') ∨ (J.go i H' ∧ ∃ Nx : Hp → Prop, (∀ H'', Nx H'' → ∃ k', k' < k ∧ W (i + 1) k' H'') ∧ ∀ x H'', J.yld i H' x H'' → g x σw H'' fun σ3 H3 => wipe σ3 vs = σw ∧ tt σ3 H3 fun b H4 =>
      if b = true then te σ3 H4 fun y H5 => ∃ b' : Bool, y = .bl b' ∧ (b' = stop → Q (.bl stop) H5) ∧ (b' ≠ stop → Nx H5) else Nx H4)) :
    ∀ (k n i : Nat) (s₀ s : Shared) (H : Hp), k < n → Inv Xg pg σw H s → tn i s.heap → (∀ b ∈ fp, H b = none) → W i k H →
      Seg (model Xg.prog Xg.w) A (fun n s₀ r s1 => r = .ok .next ∧ RG Xg pg stop Q n s₀ s1) (YG Xg pg stop Q) n s₀
        (.compLoop (.GeneratorExp elt [⟨tg, iter, ifs, 0⟩] scope pos) 0 (.ref it) .none Xg.env)
        ((model Xg.prog Xg.w).den (.compLoop (.GeneratorExp elt [⟨tg, iter, ifs, 0⟩] scope pos) 0 (.ref it) .none Xg.env)) [] s := by
  intro k
  induction k using Nat.strongRecOn with
  | ind k ih =>
  intro n i s₀ s H hkn I st nf w
  have stat : ∀ {σ' : St} {H' : Hp} {s' : Shared}, Inv Xg pg σ' H' s' → (∀ b ∈ fp, H' b = none) → ∀ b ∈ fp, FpOk Xg pg H' b := fun {σ' H' s'} I' hn b hb =>
    ⟨hn b hb, (I'.ok.exf b (hfx b hb)).1, I'.ok.exfs b (hfx b hb), .inl (hfx b hb), fun x c e => (I'.ok.exf b (hfx b hb)).2 x c e, fun p hp => hpg p hp b hb⟩
  show Seg _ A _ _ _ s₀ _ ((compTurn (.GeneratorExp elt [⟨tg, iter, ifs, 0⟩] scope pos) 0 (.ref it) .none Xg.env).onRaise (leaving Xg.env)) [] s
  rw [compTurn_gen, Sem.onRaise_eq_wrap]
  refine seg_bind_wrap (wpAny_standAt ?_)
  rcases turn i k H w with ⟨stp, hq⟩ | ⟨go, Nx, hNx, step⟩
  · have td := T.done Xg rfl rfl rfl hc i pg s σw H (fun _ _ => False) I (stat I nf) st stp
    rw [hXA] at td
    refine seg_bind_wrap (thnF td fun r s1 ⟨hr, I1⟩ => ?_)
    subst hr
    exact seg_end (.ok .next) ⟨rfl, σw, H, I1, hq⟩
  · have ti := T.item Xg rfl rfl rfl hc i pg s σw H (fun _ _ => False) I (stat I nf) st go
    rw [hXA] at ti
    refine seg_bind_wrap (thnF ti fun r s1 ⟨u, hr, h1⟩ => ?_)
    subst hr
    refine seg_bind_wrap (thnF h1 fun _ s2 ⟨x, H2, I2, r2, y2, st2, n2⟩ => ?_)
    have I2' := I2.pinned (stat I2 n2) (T.obj _ _ st2)
    have qg := pg_.run _ s2 σw H2 x u _ I2' r2 (step x H2 y2)
    rw [hXA, hxe] at qg
    refine seg_bind_wrap (thnF qg fun _ s3 ⟨σ3, H3, I3, hw3, q3⟩ => ?_)
    have qt := pt.run _ s3 σ3 H3 _ I3 q3
    rw [hXA, hxe] at qt
    refine seg_bind_wrap (thnF qt fun b s4 ⟨H4, I4, q4⟩ => ?_)
    have fin : ∀ {s' : Shared} {H' : Hp}, Inv Xg (pg ++ pinsAt fp s2.heap) σ3 H' s' → Nx H' → ∃ k', k' < k ∧ Inv Xg pg σw H' s' ∧ tn (i + 1) s'.heap ∧ (∀ b ∈ fp, H' b = none) ∧ W (i + 1) k' H' := fun {s' H'} I' nx => by
      obtain ⟨k', hk, w'⟩ := hNx H' nx
      have pin' : ∀ b ∈ fp, ∀ o, s2.heap.get? b = some o → s'.heap.get? b = some o ∧ H' b = none := fun b hb o e =>
        let z := I'.pin (b, o) (List.mem_append_right _ (List.mem_append_right _ (mem_pinsAt hb e)))
        ⟨z.1, z.2.1⟩
      refine ⟨k', hk, (I'.unpinned (pins := pg)).weak (by rw [← hw3, wipe_length]) (fun j v e => ?_), T.keep _ _ _ st2 fun b hb o e => (pin' b hb o e).1, fun b hb => ?_, w'⟩
      · rw [← hw3] at e
        exact (wipe_some e).1
      · obtain ⟨o, e, _⟩ := T.obj _ _ st2 b hb
        exact (pin' b hb o e).2
    cases b with
    | false =>
      simp only [Bool.false_eq_true, if_false] at q4 ⊢
      obtain ⟨k', hk, I5, st5, n5, w5⟩ := fin I4 q4
      exact seg_again rfl (ih k' hk n (i + 1) s₀ s4 H4 (Nat.lt_trans hk hkn) I5 st5 n5 w5)
    | true =>
      simp only [if_true] at q4 ⊢
      have qe := pe.run _ s4 σ3 H4 _ I4 q4
      rw [hXA, hxe] at qe
      have hy : ∀ v, yieldOut Xg.env v = yieldValue v := fun v => by simp only [yieldOut, hco, Bool.false_eq_true, if_false]
      simp only [hy]
      rw [Sem.bind_eq_wrap', Sem.bind_eq_wrap', Sem.wrap_wrap, Sem.wrap_wrap]
      refine seg_wrap (thnF qe fun y s5 ⟨yv, H5, I5, r5, b', e5, q5, nx5⟩ => ?_)
      subst e5
      cases r5
      obtain ⟨n', rfl⟩ : ∃ n', n = n' + 1 := ⟨n - 1, by omega⟩
      refine seg_at (seg_yield rfl rfl rfl ⟨b', σ3, H5, rfl, I5.unpinned (pins := pg), q5, fun hb s'' h1 h2 h3 => ?_⟩)
      obtain ⟨k', hk, I6, st6, n6, w6⟩ := fin (I5.same h1 h2 h3) (nx5 hb)
      exact seg_again rfl (ih k' hk n' (i + 1) s'' s'' H5 (by omega) I6 st6 n6 w6)

theorem seg_anyStart {Xg : Cx} {pg : List (Addr × Obj)} {stop : Bool} {Q : VK} {A : Around} {elt tg iter : Expr} {ifs : List Expr} {scope : Scope} {pos : Pos} {it : Addr} {fp : List Addr} {tn : Nat → Heap → Prop} {J : It} {n : Nat} {s₀ s : Shared}
    (hc : Xg.calm = true) (T : Turn Xg.prog Xg.w Xg.K tg J fp it tn) (st : tn 0 s.heap)
    (loop : Seg (model Xg.prog Xg.w) A (fun n s₀ r s1 => r = .ok .next ∧ RG Xg pg stop Q n s₀ s1) (YG Xg pg stop Q) n s₀
        (.compLoop (.GeneratorExp elt [⟨tg, iter, ifs, 0⟩] scope pos) 0 (.ref it) .none Xg.env)
        ((model Xg.prog Xg.w).den (.compLoop (.GeneratorExp elt [⟨tg, iter, ifs, 0⟩] scope pos) 0 (.ref it) .none Xg.env)) [] s) :
      Seg (model Xg.prog Xg.w) A (fun n s₀ r s1 => r = .ok .next ∧ RG Xg pg stop Q n s₀ s1) (YG Xg pg stop Q) n s₀
        (.compStart (.GeneratorExp elt [⟨tg, iter, ifs, 0⟩] scope pos) 0 (.ref it) .none Xg.env)
        ((model Xg.prog Xg.w).den (.compStart (.GeneratorExp elt [⟨tg, iter, ifs, 0⟩] scope pos) 0 (.ref it) .none Xg.env)) [] s := by
  show Seg _ A _ _ _ s₀ _ ((compStart (.GeneratorExp elt [⟨tg, iter, ifs, 0⟩] scope pos) 0 (.ref it) .none Xg.env).onRaise (leaving Xg.env)) [] s
  unfold compStart
  rw [Sem.onRaise_eq_wrap]
  show Seg _ A _ _ _ s₀ _ ((ask >>= _).wrap _ _ _ _) [] s
  refine seg_bind_wrap (wpAny_askSetting ?_)
  split
  · exact seg_again rfl loop
  · refine seg_bind_wrap (wpAny_rule ?_)
    show Seg _ A _ _ _ s₀ _ ((standAt iter.pos >>= _).wrap _ _ _ _) [] s
    exact seg_bind_wrap (wpAny_standAt (seg_bind_wrap (T.self _ 0 s _ _ st (seg_again rfl loop))))

/-- the consumer's loop -/
theorem codeAny_allG {Xg : Cx} {pg : List (Addr × Obj)} {Q : VK} {A : Around} {a : Addr} {g : Nat} {R : Result → Shared → Prop} (hh : A.handled = none) (hroom : A.depth < recursionLimit) (hpg : ∀ {σ : St} {H : Hp} {s : Shared}, Inv Xg pg σ H s → s.heap.IsGen a g)
    (hR : ∀ σ' H' s' b, Inv Xg pg σ' H' s' → Q (.bl b) H' → R (.ok (.ret (.bool b))) s') :
    ∀ (n : Nat) (s : Shared) (σ : St) (H : Hp), Inv Xg pg σ H s → (∃ gs, s.gens[g]? = some gs ∧ gs.Goes (model Xg.prog Xg.w) A.in1.in1 (fun n s₀ r s1 => r = .ok .next ∧ RG Xg pg false Q n s₀ s1) (YG Xg pg false Q) n (.send .none) (s.setGen g .running)) →
      codeAny (model Xg.prog Xg.w) A (.builtin "all.loop" ⟨[.ref a], []⟩) R s := by
  intro n
  induction n with
  | zero =>
    intro s σ H I ⟨gs, hgs, hgo⟩
    refine codeAny_builtin F.entry_all_loop ?_
    rw [Around.under_plainId F.plain_all_loop _]
    show wpAny _ A.in1 (pyNext (.ref a) >>= _) _ _ s
    refine wpAny_bind (wpAny_pyNext_genexpQ (A := A.in1) hh I.nolimit hroom (hpg I) hgs hgo (fun v s1 gs' hb hv => ?_) fun s1 hp h' hk => ?_)
    · obtain ⟨b, σ1, H1, rfl, I1, q1, q2⟩ := hv
      have I2 : Inv Xg pg σ1 H1 (s1.setGen g gs') := I1.same rfl rfl (allBare_setGen I1.bare hb)
      refine wpAny_bind (wpAny_holding (wpAny_truthy_bool ?_))
      refine wpAny_bind (wpAny_letGo ?_)
      cases b with
      | false =>
        simp only [Bool.false_eq_true, if_false]
        exact wpAny_bind (wpAny_rule (wpAny_pure (hR _ _ _ _ I2 (q1 rfl))))
      | true => exact False.elim (q2 (by simp) s1 rfl rfl I1.bare)
    · obtain ⟨σ1, H1, I1, q1⟩ := hp
      have I2 : Inv Xg pg σ1 H1 { s1.setGen g .finished with heap := h' } := (I1.same (s' := s1.setGen g .finished) rfl rfl (allBare_setGen I1.bare rfl)).kept (t' := s1.toks) hk
      exact wpAny_bind (wpAny_rule (wpAny_pure (hR _ _ _ _ I2 q1)))
  | succ n ih =>
    intro s σ H I ⟨gs, hgs, hgo⟩
    have hgl : g < s.gens.size := (Array.getElem?_eq_some_iff.mp hgs).1
    refine codeAny_builtin F.entry_all_loop ?_
    rw [Around.under_plainId F.plain_all_loop _]
    show wpAny _ A.in1 (pyNext (.ref a) >>= _) _ _ s
    refine wpAny_bind (wpAny_gsz (n := g + 1) hgl (wpAny_pyNext_genexpQ (A := A.in1) hh I.nolimit hroom (hpg I) hgs hgo (fun v s1 gs' hb hv => ?_) fun s1 hp h' hk => ?_))
    · intro hsz
      obtain ⟨b, σ1, H1, rfl, I1, q1, q2⟩ := hv
      have I2 : Inv Xg pg σ1 H1 (s1.setGen g gs') := I1.same rfl rfl (allBare_setGen I1.bare hb)
      refine wpAny_bind (wpAny_holding (wpAny_truthy_bool ?_))
      refine wpAny_bind (wpAny_letGo ?_)
      cases b with
      | false =>
        simp only [Bool.false_eq_true, if_false]
        exact wpAny_bind (wpAny_rule (wpAny_pure (hR _ _ _ _ I2 (q1 rfl))))
      | true =>
        simp only [if_true]
        have hsz1 : g < s1.gens.size := by
          have q : (s1.setGen g gs').gens.size = s1.gens.size := setGen_size _ _ _
          have hsz' : g + 1 ≤ (s1.setGen g gs').gens.size := hsz
          omega
        exact wpAny_pure ⟨plainId_quiet F.plain_all_loop _, ih _ σ1 H1 I2 ⟨gs', setGen_at hsz1, q2 (by simp) _ rfl rfl (allBare_setGen I2.bare rfl)⟩⟩
    · intro hsz
      obtain ⟨σ1, H1, I1, q1⟩ := hp
      have I2 : Inv Xg pg σ1 H1 { s1.setGen g .finished with heap := h' } := (I1.same (s' := s1.setGen g .finished) rfl rfl (allBare_setGen I1.bare rfl)).kept (t' := s1.toks) hk
      exact wpAny_bind (wpAny_rule (wpAny_pure (hR _ _ _ _ I2 q1)))
theorem codeAny_anyG {Xg : Cx} {pg : List (Addr × Obj)} {Q : VK} {A : Around} {a : Addr} {g : Nat} {R : Result → Shared → Prop} (hh : A.handled = none) (hroom : A.depth < recursionLimit) (hpg : ∀ {σ : St} {H : Hp} {s : Shared}, Inv Xg pg σ H s → s.heap.IsGen a g)
    (hR : ∀ σ' H' s' b, Inv Xg pg σ' H' s' → Q (.bl b) H' → R (.ok (.ret (.bool b))) s') :
    ∀ (n : Nat) (s : Shared) (σ : St) (H : Hp), Inv Xg pg σ H s → (∃ gs, s.gens[g]? = some gs ∧ gs.Goes (model Xg.prog Xg.w) A.in1.in1 (fun n s₀ r s1 => r = .ok .next ∧ RG Xg pg true Q n s₀ s1) (YG Xg pg true Q) n (.send .none) (s.setGen g .running)) →
      codeAny (model Xg.prog Xg.w) A (.builtin "any.loop" ⟨[.ref a], []⟩) R s := by
  intro n
  induction n with
  | zero =>
    intro s σ H I ⟨gs, hgs, hgo⟩
    refine codeAny_builtin F.entry_any_loop ?_
    rw [Around.under_plainId F.plain_any_loop _]
    show wpAny _ A.in1 (pyNext (.ref a) >>= _) _ _ s
    refine wpAny_bind (wpAny_pyNext_genexpQ (A := A.in1) hh I.nolimit hroom (hpg I) hgs hgo (fun v s1 gs' hb hv => ?_) fun s1 hp h' hk => ?_)
    · obtain ⟨b, σ1, H1, rfl, I1, q1, q2⟩ := hv
      have I2 : Inv Xg pg σ1 H1 (s1.setGen g gs') := I1.same rfl rfl (allBare_setGen I1.bare hb)
      refine wpAny_bind (wpAny_holding (wpAny_truthy_bool ?_))
      refine wpAny_bind (wpAny_letGo ?_)
      cases b with
      | true =>
        simp only [if_true]
        exact wpAny_bind (wpAny_rule (wpAny_pure (hR _ _ _ _ I2 (q1 rfl))))
      | false => exact False.elim (q2 (by simp) s1 rfl rfl I1.bare)
    · obtain ⟨σ1, H1, I1, q1⟩ := hp
      have I2 : Inv Xg pg σ1 H1 { s1.setGen g .finished with heap := h' } := (I1.same (s' := s1.setGen g .finished) rfl rfl (allBare_setGen I1.bare rfl)).kept (t' := s1.toks) hk
      exact wpAny_bind (wpAny_rule (wpAny_pure (hR _ _ _ _ I2 q1)))
  | succ n ih =>
    intro s σ H I ⟨gs, hgs, hgo⟩
    have hgl : g < s.gens.size := (Array.getElem?_eq_some_iff.mp hgs).1
    refine codeAny_builtin F.entry_any_loop ?_
    rw [Around.under_plainId F.plain_any_loop _]
    show wpAny _ A.in1 (pyNext (.ref a) >>= _) _ _ s
    refine wpAny_bind (wpAny_gsz (n := g + 1) hgl (wpAny_pyNext_genexpQ (A := A.in1) hh I.nolimit hroom (hpg I) hgs hgo (fun v s1 gs' hb hv => ?_) fun s1 hp h' hk => ?_))
    · intro hsz
      obtain ⟨b, σ1, H1, rfl, I1, q1, q2⟩ := hv
      have I2 : Inv Xg pg σ1 H1 (s1.setGen g gs') := I1.same rfl rfl (allBare_setGen I1.bare hb)
      refine wpAny_bind (wpAny_holding (wpAny_truthy_bool ?_))
      refine wpAny_bind (wpAny_letGo ?_)
      cases b with
      | true =>
        simp only [if_true]
        exact wpAny_bind (wpAny_rule (wpAny_pure (hR _ _ _ _ I2 (q1 rfl))))
      | false =>
        simp only [Bool.false_eq_true, if_false]
        have hsz1 : g < s1.gens.size := by
          have q : (s1.setGen g gs').gens.size = s1.gens.size := setGen_size _ _ _
          have hsz' : g + 1 ≤ (s1.setGen g gs').gens.size := hsz
          omega
        exact wpAny_pure ⟨plainId_quiet F.plain_any_loop _, ih _ σ1 H1 I2 ⟨gs', setGen_at hsz1, q2 (by simp) _ rfl rfl (allBare_setGen I2.bare rfl)⟩⟩
    · intro hsz
      obtain ⟨σ1, H1, I1, q1⟩ := hp
      have I2 : Inv Xg pg σ1 H1 { s1.setGen g .finished with heap := h' } := (I1.same (s' := s1.setGen g .finished) rfl rfl (allBare_setGen I1.bare rfl)).kept (t' := s1.toks) hk
      exact wpAny_bind (wpAny_rule (wpAny_pure (hR _ _ _ _ I2 q1)))

theorem over_gx_frames {A : Around} {l : List Env} {elt tg iter : Expr} {ifs : List Expr} {scope : Scope} {pos : Pos} {it : Value} {cenv : Env} (h : A.frames = some l) :
    (A.in1.in1.over (.compLoop (.GeneratorExp elt [⟨tg, iter, ifs, 0⟩] scope pos) 0 it .none cenv) []).frames = some (cenv :: l) := by
  have e : (A.in1.in1.over (.compLoop (.GeneratorExp elt [⟨tg, iter, ifs, 0⟩] scope pos) 0 it .none cenv) []).frames = pushEnvs [cenv] A.frames := rfl
  rw [e, h]; rfl
/-- a generator made for any, all -/
def GMk (X : Cx) (pins : List (Addr × Obj)) (σ : St) (stop : Bool) (Q : VK) (a : Addr) (s5 : Shared) : Prop := ∃ (s4 : Shared) (H4 : Hp) (cenv : Env) (fp : List Addr) (A' : Around) (g : Nat) (o : Obj) (σ' : St) (H' : Hp) (n : Nat),
  Inv (X.gx s4 H4 cenv fp A') [(a, o)] σ' H' s5 ∧ (∀ {σ : St} {H : Hp} {s : Shared}, Inv (X.gx s4 H4 cenv fp A') [(a, o)] σ H s → s.heap.IsGen a g) ∧
  (∃ gs, s5.gens[g]? = some gs ∧ ∀ s'' : Shared, s''.heap = s5.heap → s''.os = s5.os → AllBare s''.gens → gs.Goes (model X.prog X.w) X.A.in1.in1 (fun n s₀ r s1 => r = .ok .next ∧ RG (X.gx s4 H4 cenv fp A') [(a, o)] stop Q n s₀ s1) (YG (X.gx s4 H4 cenv fp A') [(a, o)] stop Q) n (.send .none) s'') ∧
  ∀ σ' H' s', Inv (X.gx s4 H4 cenv fp A') [(a, o)] σ' H' s' → Inv X pins σ H' s'

theorem gen_any {c P : Addr} {elt tg iter : Expr} {ifs : List Expr} {gpos : Pos} {scope : Scope} {own : List (Str × Nat)} {wi : TI} {g : TG} {tt : TT} {te : TE} {k : Nat} {stop : Bool} {Q : VK} {Q' : Value → Shared → Prop}
    (hr : Room (k + 1) X.A) (hc : X.calm = true) (hN : X.N.Nodup) (TB : GxR.TabB X.base X.mg c P) (hcode : X.env.code = .ref c) (hco : scope.isCoroutine = false) (hcell : ∀ y ∈ scope.names, y.2 ≠ .cell) (hdot : scope.names.lookup (".0" : Str) = some NameKind.local)
    (ok : BlkOk X.N X.env.scope scope own) (hi : PI X tg iter wi)
    (hg : ∀ (s : Shared) (H : Hp) (C : Addr) (cl : List (Str × Addr)) (fp : List Addr) (code : Value) (A' : Around), Room k A' → PG (X.gx s H (genEnv scope cl C code builtinsNs X.env) fp A') tg g)
    (ht : ∀ (s : Shared) (H : Hp) (C : Addr) (cl : List (Str × Addr)) (fp : List Addr) (code : Value) (A' : Around), Room k A' → PTs (X.gx s H (genEnv scope cl C code builtinsNs X.env) fp A') ifs tt)
    (he : ∀ (s : Shared) (H : Hp) (C : Addr) (cl : List (Str × Addr)) (fp : List Addr) (code : Value) (A' : Around), Room k A' → PE (X.gx s H (genEnv scope cl C code builtinsNs X.env) fp A') elt te)
    (hs : ∀ v, genFold iter X.env v = pure v) (I : Inv X pins σ H s) (h : tAnyG P stop wi g tt te (own.map (·.2)) σ H Q) (hQ : ∀ a s5, GMk X pins σ stop Q a s5 → Q' (.ref a) s5) :
    wpAny (model X.prog X.w) X.A (eval (.GeneratorExp elt [⟨tg, iter, ifs, 0⟩] scope gpos) X.env) Q' X.xe s := by
  have hfree : ∀ y ∈ scope.names, y.2 = .free → ∃ c, X.env.cells.lookup y.1 = some c := fun y hy e => by
    rcases ok.free y hy e with k | k
    · exact I.ok.has _ (.inl k)
    · exact I.ok.has _ (.inr k)
  refine wpAny_GeneratorExp_make hco (closure_ok hfree) hcell hdot ok.kind (by have := hr.dp; omega) ?_ hs
  refine thn (hi.run pins s σ H _ I h) fun xv s1 h1 => thn h1 fun itv s2 h2 => ?_
  obtain ⟨it, fp, tn, J, H1, e, I1, T, st1, f1, ⟨ps, hP, htr⟩, q1⟩ := h2
  subst e
  have hPs : s2.heap.get? P = some { cls := .none, data := .fields ps } := I1.hok P _ hP
  have fpP : ∀ b ∈ fp, b ≠ P := fun b hb e => by
    have z := (f1 b hb).1
    rw [e, hP] at z; cases z
  have cd : PySem.W.CodeHd s2.heap c P := TB.code.keeps fun b u e => I1.bk b u e
  have cont : ∀ (code : Value) (h3 : Heap) (tk : Nat) (ps' : Array Value), Heap.ExtBut P s2.heap h3 → s2.heap.objs.size ≤ h3.objs.size → h3.get? P = some { cls := .none, data := .fields ps' } → (∃ more, ps' = ps ++ more) → TriplesOk ps'.toList →
      wpAny (model X.prog X.w) X.A (builtinsFor X.env.globals X.env.builtins) (fun bi s₄ =>
        ∀ h', h'.Ns s₄.heap.objs.size (fun y => if y = ".0" then some (.ref it) else none) → Heap.SameBut s₄.heap.objs.size (s₄.heap.push { cls := .type "frame", data := .dict #[] }) h' →
          Q' (.ref h'.objs.size) { s₄ with
            gens := s₄.gens.push (.fresh (.compStart (.GeneratorExp elt [⟨tg, iter, ifs, 0⟩] scope gpos) 0 (.ref it) .none (genEnv scope (cloFrom X.env.cells scope.names []) s₄.heap.objs.size code bi X.env))),
            toks := s₄.toks + 1 + 1 + 1,
            heap := h'.push { cls := .type "generator", data := .fields #[.int s₄.gens.size 0, .str "<genexpr>" (s₄.toks + 1), .str (X.env.qual ++ "<genexpr>") (s₄.toks + 1 + 1)] } }) X.xe { s2 with heap := h3, toks := tk } := by
    intro code h3 tk ps' hx hsz hP3 hmore ht3
    obtain ⟨bm, ob, e1, e2, e3, e4, e5, e6, e7, e8⟩ := TB.bm
    obtain ⟨more, rfl⟩ := hmore
    refine wpAny_builtinsFor (m := X.mg) (by rw [I1.ok.glob]; exact (I1.mod.glob.keeps I1.bk).extBut hx TB.gP) e1 e2 (hx _ _ e4 (I1.bk _ _ e5)) e6 e7 e8 ?_
    intro h' hn' hs'
    have I3 := GxR.inv_tab (h' := h3) (g' := s2.gens) (d' := s2.drawn) (t' := tk) I1 hP (fun b u hb e => hx b u hb e) hP3 I1.bare
    have hT : GxR.Tabbed P H1 (upd H1 P (.tbl (ps ++ more))) := ⟨⟨ps ++ more, upd_same, ht3⟩, fun b hb => upd_ne hb⟩
    obtain ⟨W, ⟨k0, w0⟩, turn⟩ := q1 _ hT
    generalize hH3 : upd H1 P (.tbl (ps ++ more)) = H3 at I3 w0
    generalize hs3 : ({ s2 with heap := h3, gens := s2.gens, drawn := s2.drawn, toks := tk } : Shared) = s3 at I3
    have hs3h : s3.heap = h3 := by rw [← hs3]
    have st3 : tn 0 s3.heap := T.keep _ _ _ st1 fun b hb o e => by rw [hs3h]; exact hx b o (fpP b hb) e
    have f3 : ∀ b ∈ fp, FpOk X pins H3 b ∧ b < s3.heap.objs.size := fun b hb => by
      refine ⟨⟨?_, (f1 b hb).2⟩, ?_⟩
      · rw [← hH3, upd_ne (fpP b hb)]; exact (f1 b hb).1
      · obtain ⟨o, e, _⟩ := T.obj _ _ st3 b hb
        exact Heap.lt_size e
    have hn' : h'.Ns s3.heap.objs.size (fun y => if y = ".0" then some (.ref it) else none) := by rw [hs3h]; exact hn'
    have hs' : Heap.SameBut s3.heap.objs.size (s3.heap.push { cls := .type "frame", data := .dict #[] }) h' := by rw [hs3h]; exact hs'
    have hsz' : h'.objs.size = s3.heap.objs.size + 1 := by rw [hs'.1, Heap.size_push]
    have keep' : ∀ b o, s3.heap.get? b = some o → h'.get? b = some o := fun b o e => hs'.extBut b o (Nat.ne_of_lt (Heap.lt_size e)) (Heap.get?_push_of_some _ e)
    generalize hcenv : genEnv scope (cloFrom X.env.cells scope.names []) s3.heap.objs.size code builtinsNs X.env = cenv
    generalize ho : ({ cls := .type "generator", data := .fields #[.int s3.gens.size 0, .str "<genexpr>" (s3.toks + 1), .str (X.env.qual ++ "<genexpr>") (s3.toks + 1 + 1)] } : Obj) = o
    generalize hs5 : ({ heap := h'.push o, gens := s3.gens.push (.fresh (.compStart (.GeneratorExp elt [⟨tg, iter, ifs, 0⟩] scope gpos) 0 (.ref it) .none cenv)), drawn := s3.drawn, toks := s3.toks + 1 + 1 + 1, os := s3.os } : Shared) = s5
    have h5h : s5.heap = h'.push o := by rw [← hs5]
    have hao : s5.heap.get? h'.objs.size = some o := by rw [h5h]; exact Heap.get?_push_size _ (by rw [← ho]; rfl)
    have keep5 : ∀ b u, s3.heap.get? b = some u → s5.heap.get? b = some u := fun b u e => by rw [h5h]; exact Heap.get?_push_of_some _ (keep' b u e)
    generalize hA' : X.A.in1.in1.over (.compLoop (.GeneratorExp elt [⟨tg, iter, ifs, 0⟩] scope gpos) 0 (.ref it) .none cenv) [] = A'
    have hfr : A'.frames = some (cenv :: X.stack) := by rw [← hA']; exact over_gx_frames I1.ok.frames
    have hrk : Room k A' := by
      rw [← hA']
      refine ⟨hr.hd, ?_, ?_⟩
      · have := hr.dp
        show X.A.depth + 0 + 1 + 3 * k + 5 < _
        omega
      · have := hr.un
        show X.A.units + 1 + 1 + 0 + 3 + 16 * k + 200 < _
        omega
    have I4 := gx_start (C := s3.heap.objs.size) (a := h'.objs.size) (code := code) (A' := A') (s' := s5) (o := o)
      I3 ok hcell hN f3 rfl hrk.hd (by rw [hcenv]; exact hfr) keep5 (by rw [h5h]; exact hn'.push _) (by rw [← hs5]) (by rw [← hs5]; exact I3.bare.push rfl) (by rw [hsz']; exact Nat.lt_succ_self _) hao (fun v z => by rw [← ho] at z; cases z)
    rw [hcenv] at I4
    have pg_ := hg s3 H3 s3.heap.objs.size (cloFrom X.env.cells scope.names []) fp code _ hrk
    have pt := ht s3 H3 s3.heap.objs.size (cloFrom X.env.cells scope.names []) fp code _ hrk
    have pe := he s3 H3 s3.heap.objs.size (cloFrom X.env.cells scope.names []) fp code _ hrk
    rw [hcenv] at pg_ pt pe
    have hsc : cenv.scope.isCoroutine = false := by rw [← hcenv]; exact hco
    have hneq : ∀ b ∈ fp, h'.objs.size ≠ b := fun b hb e => by
      have q : b < s3.heap.objs.size := (f3 b hb).2
      have e' : s3.heap.objs.size + 1 = b := hsz'.symm.trans e
      rw [← e'] at q
      exact absurd q (Nat.not_lt.mpr (Nat.le_succ _))
    have loop := seg_anyG (Xg := X.gx s3 H3 cenv fp A') (pg := [(h'.objs.size, o)]) (Q := Q) (scope := scope) (pos := gpos)
      (W := W) (σ₀ := σ) (vs := own.map (·.2)) (A := X.A.in1.in1) rfl hsc hc hA'.symm rfl T (fun b hb => hb) (fun p hp b hb => by
        have hp : p ∈ ([] : List (Addr × Obj)) ++ [(h'.objs.size, o)] := hp
        rw [List.nil_append, List.mem_singleton] at hp
        rw [hp]; exact hneq b hb) pg_ pt pe turn
    refine hQ _ _ ⟨s3, H3, cenv, fp, A', s3.gens.size, o, _, _, k0 + 1, I4, fun {σ H s} I' => ?_, ⟨.fresh (.compStart (.GeneratorExp elt [⟨tg, iter, ifs, 0⟩] scope gpos) 0 (.ref it) .none cenv), ?_, fun s'' h1 h2 h3 => ⟨rfl, ?_⟩⟩, fun σ' H' s' I' => ?_⟩
    · rw [← ho] at I'
      exact ⟨_, _, _, (I'.pin _ (List.mem_append_right _ List.mem_cons_self)).1, rfl, rfl, rfl⟩
    · rw [← hs5]; exact Array.getElem?_push_size ..
    · have I5 := I4.same h1 h2 h3
      have st5 : tn 0 s''.heap := by
        rw [h1]
        exact T.keep _ _ _ st3 fun b hb o e => keep5 b o e
      have lp := loop k0 (k0 + 1) 0 s'' s'' H3 (Nat.lt_succ_self _) I5 st5 (fun b hb => (f3 b hb).1.1) w0
      exact seg_anyStart (Xg := X.gx s3 H3 cenv fp A') hc T st5 lp
    · refine I3.call' (ch := fp) I'.os I'.base I'.hok I'.bare fun b hb => ⟨(f3 b hb).1.2.2.2.1, (f3 b hb).1.2.1, (f3 b hb).1.2.2.2.2.1, (f3 b hb).1.2.2.2.2.2⟩
  refine ⟨I1.nolimit, ?_⟩
  cases hf : codeAmong gpos ps.toList with
  | none =>
    refine wpAny_genexprCodeX hcode (cd.code hPs htr) (cd.tab hPs) hf fun c' h' tk hx hge hlt hco' _ htab' _ => ?_
    obtain ⟨o1, vs, f1, tf, fl, tg, inF, tx, tt, op, _, _, _, _, _, _, _, _, _, htr, _⟩ := hco'
    exact cont _ h' tk _ hx (Nat.le_trans hge (Nat.le_of_lt hlt)) htab'.2 ⟨_, rfl⟩ htr
  | some cv =>
    refine wpAny_genexprCode_hit hcode (cd.code hPs htr) hf ?_
    exact cont cv s2.heap s2.toks ps (Heap.ExtBut.refl _ _) (Nat.le_refl _) hPs ⟨#[], by simp⟩ htr

theorem pe_allG {c P : Addr} {elt tg iter : Expr} {ifs : List Expr} {p pos gpos : Pos} {scope : Scope} {own : List (Str × Nat)} {wi : TI} {g : TG} {tt : TT} {te : TE} {k : Nat}
    (hr : Room (k + 1) X.A) (hG : Gl X "all") (hm : X.mg "all" = none) (hc : X.calm = true) (hN : X.N.Nodup) (TB : GxR.TabB X.base X.mg c P) (hcode : X.env.code = .ref c) (hco : scope.isCoroutine = false) (hcell : ∀ y ∈ scope.names, y.2 ≠ .cell) (hdot : scope.names.lookup (".0" : Str) = some NameKind.local)
    (ok : BlkOk X.N X.env.scope scope own) (hi : PI X tg iter wi)
    (hg : ∀ (s : Shared) (H : Hp) (C : Addr) (cl : List (Str × Addr)) (fp : List Addr) (code : Value) (A' : Around), Room k A' → PG (X.gx s H (genEnv scope cl C code builtinsNs X.env) fp A') tg g)
    (ht : ∀ (s : Shared) (H : Hp) (C : Addr) (cl : List (Str × Addr)) (fp : List Addr) (code : Value) (A' : Around), Room k A' → PTs (X.gx s H (genEnv scope cl C code builtinsNs X.env) fp A') ifs tt)
    (hel : ∀ (s : Shared) (H : Hp) (C : Addr) (cl : List (Str × Addr)) (fp : List Addr) (code : Value) (A' : Around), Room k A' → PE (X.gx s H (genEnv scope cl C code builtinsNs X.env) fp A') elt te)
    (hs : ∀ v, genFold iter X.env v = pure v)
    (he : starEach [.GeneratorExp elt [⟨tg, iter, ifs, 0⟩] scope gpos] X.env = (false, eval (.GeneratorExp elt [⟨tg, iter, ifs, 0⟩] scope gpos) X.env) :: starEach [] X.env := by rfl)
    (hb : bootBuiltins "all" = some (.builtin "all") := by rfl) :
    PE X (.Call (.Name "all" p) [.GeneratorExp elt [⟨tg, iter, ifs, 0⟩] scope gpos] [] pos) (tAnyG P false wi g tt te (own.map (·.2))) := by
  refine ⟨fun pins s σ H Q I h => ?_⟩
  refine wpAny_Call_Name_kw (ld_blt I hG hm hb ?_)
  refine PyProof.Rows.callWith_builtin1 ?_ he (by rfl)
  rw [he]
  show wpAny _ _ (spliced ((false, eval (.GeneratorExp elt [⟨tg, iter, ifs, 0⟩] scope gpos) X.env) :: backTo pos (starEach [] X.env))) _ _ s
  refine Calls.spliced_cons (gen_any hr hc hN TB hcode hco hcell hdot ok hi hg ht hel hs I h fun a s5 hG => ?_)
  obtain ⟨s4, H4, cenv, fp, A', g, o, σ', H', n, I5, hgen, ⟨gs, hgs, hgo⟩, back⟩ := hG
  refine Calls.spliced_nil ?_
  refine call_function_tree F.kind_all F.plain_all F.entry_all (F.args_all1 _) ?_
  unfold Builtin.«all»
  refine wpAny_bind (m := oneArg "all" _) (wpAny_pure ?_)
  refine wpAny_bind (wpAny_pyIter_gen (hgen I5) ?_)
  exact wpAny_pure ⟨plainId_quiet F.plain_all_loop _, codeAny_allG (Xg := X.gx s4 H4 cenv fp A') (Q := Q) hr.hd (by have := hr.dp; omega) hgen (fun σ1 H1 s1 b I1 q => ⟨.bl b, H1, back σ1 H1 s1 I1, rfl, q⟩) n s5 σ' H' I5 ⟨gs, hgs, hgo _ rfl rfl (allBare_setGen I5.bare rfl)⟩⟩
theorem pe_anyG {c P : Addr} {elt tg iter : Expr} {ifs : List Expr} {p pos gpos : Pos} {scope : Scope} {own : List (Str × Nat)} {wi : TI} {g : TG} {tt : TT} {te : TE} {k : Nat}
    (hr : Room (k + 1) X.A) (hG : Gl X "any") (hm : X.mg "any" = none) (hc : X.calm = true) (hN : X.N.Nodup) (TB : GxR.TabB X.base X.mg c P) (hcode : X.env.code = .ref c) (hco : scope.isCoroutine = false) (hcell : ∀ y ∈ scope.names, y.2 ≠ .cell) (hdot : scope.names.lookup (".0" : Str) = some NameKind.local)
    (ok : BlkOk X.N X.env.scope scope own) (hi : PI X tg iter wi)
    (hg : ∀ (s : Shared) (H : Hp) (C : Addr) (cl : List (Str × Addr)) (fp : List Addr) (code : Value) (A' : Around), Room k A' → PG (X.gx s H (genEnv scope cl C code builtinsNs X.env) fp A') tg g)
    (ht : ∀ (s : Shared) (H : Hp) (C : Addr) (cl : List (Str × Addr)) (fp : List Addr) (code : Value) (A' : Around), Room k A' → PTs (X.gx s H (genEnv scope cl C code builtinsNs X.env) fp A') ifs tt)
    (hel : ∀ (s : Shared) (H : Hp) (C : Addr) (cl : List (Str × Addr)) (fp : List Addr) (code : Value) (A' : Around), Room k A' → PE (X.gx s H (genEnv scope cl C code builtinsNs X.env) fp A') elt te)
    (hs : ∀ v, genFold iter X.env v = pure v)
    (he : starEach [.GeneratorExp elt [⟨tg, iter, ifs, 0⟩] scope gpos] X.env = (false, eval (.GeneratorExp elt [⟨tg, iter, ifs, 0⟩] scope gpos) X.env) :: starEach [] X.env := by rfl)
    (hb : bootBuiltins "any" = some (.builtin "any") := by rfl) :
    PE X (.Call (.Name "any" p) [.GeneratorExp elt [⟨tg, iter, ifs, 0⟩] scope gpos] [] pos) (tAnyG P true wi g tt te (own.map (·.2))) := by
  refine ⟨fun pins s σ H Q I h => ?_⟩
  refine wpAny_Call_Name_kw (ld_blt I hG hm hb ?_)
  refine PyProof.Rows.callWith_builtin1 ?_ he (by rfl)
  rw [he]
  show wpAny _ _ (spliced ((false, eval (.GeneratorExp elt [⟨tg, iter, ifs, 0⟩] scope gpos) X.env) :: backTo pos (starEach [] X.env))) _ _ s
  refine Calls.spliced_cons (gen_any hr hc hN TB hcode hco hcell hdot ok hi hg ht hel hs I h fun a s5 hG => ?_)
  obtain ⟨s4, H4, cenv, fp, A', g, o, σ', H', n, I5, hgen, ⟨gs, hgs, hgo⟩, back⟩ := hG
  refine Calls.spliced_nil ?_
  refine call_function_tree F.kind_any F.plain_any F.entry_any (F.args_any1 _) ?_
  unfold Builtin.«any»
  refine wpAny_bind (m := oneArg "any" _) (wpAny_pure ?_)
  refine wpAny_bind (wpAny_pyIter_gen (hgen I5) ?_)
  exact wpAny_pure ⟨plainId_quiet F.plain_any_loop _, codeAny_anyG (Xg := X.gx s4 H4 cenv fp A') (Q := Q) hr.hd (by have := hr.dp; omega) hgen (fun σ1 H1 s1 b I1 q => ⟨.bl b, H1, back σ1 H1 s1 I1, rfl, q⟩) n s5 σ' H' I5 ⟨gs, hgs, hgo _ rfl rfl (allBare_setGen I5.bare rfl)⟩⟩
end
end L2
namespace Mir
open PySem PySem.Spec PyProof.Rows L2
/-- any (stop = true), all (stop = false) -/
def agGo (stop : Bool) (g : GM) (c : BM) (f : EM) (ρ : En) (hs : Hs) : List D → Option Bool
  | [] => some (!stop)
  | d :: ds => match g d ρ with
    | some ρ' => match c ρ' hs with
      | some (true, h1) => match f ρ' h1 with
        | some (.bl b, _) => match b, stop with
          | true, true => some true
          | false, false => some false
          | _, _ => agGo stop g c f ρ hs ds
        | _ => none
      | some (false, _) => agGo stop g c f ρ hs ds
      | none => none
    | none => none
def mAg (stop : Bool) (s : IM) (g : GM) (c : BM) (f : EM) (vs : List Nat) : EM := fun ρ hs => match s ρ hs with
  | some (ds, hs1) => match agGo stop g c f (wipeE ρ vs) hs1 ds with
    | some b => some (.bl b, hs1)
    | none => none
  | none => none
instance {stop : Bool} {s : IM} {g : GM} {c : BM} {f : EM} {vs : List Nat} [a : QI s] : QE (mAg stop s g c f vs) := ⟨fun ρ hs d hs' h => by
  unfold mAg at h
  split at h
  · rename_i e1
    split at h
    · cases h; exact a.q _ _ _ _ e1
    · cases h
  · cases h⟩
/-- a code table has grown -/
theorem nx_tabbed {G : GX} {m : List Addr} {hs : Hs} {H H2 : Hp} {P : Addr} (hP : TabG H P) (h : GxR.Tabbed P H H2) (hr : HR G m hs H) : Nx m H m H2 ∧ HR G m hs H2 := by
  obtain ⟨ps, eP, _⟩ := hP
  have n : Nx m H m H2 := ⟨⟨[], by simp⟩, fun a h z => absurd h z, fun a o e hm ht => by
    have : a ≠ P := fun z => by rw [z, eP] at e; cases e; exact ht _ rfl
    rw [h.2 a this]; exact e, fun a e => by
    by_cases z : a = P
    · obtain ⟨⟨qs, q, _⟩, _⟩ := h
      rw [z, q]; simp
    · rw [h.2 a z]; exact e⟩
  refine ⟨n, hr.len, hr.nd, fun i a o e1 e2 => ?_, fun Q hQ => ?_⟩
  · have q := hr.obj i a o e1 e2
    have hne : a ≠ P := fun z => by
      obtain ⟨u, e, _, _, ht⟩ := q.some
      rw [z, eP] at e; cases e; exact ht _ rfl
    cases o with
    | lst ds => obtain ⟨xs, h1, r⟩ := q; exact ⟨xs, by rw [h.2 a hne]; exact h1, r.nx hr n⟩
    | dK ds => obtain ⟨xs, h1, k, r⟩ := q; exact ⟨xs, by rw [h.2 a hne]; exact h1, k, r.nx hr n⟩
    | dT ds => obtain ⟨xs, h1, k, r⟩ := q; exact ⟨xs, by rw [h.2 a hne]; exact h1, k, r.nx hr n⟩
  · by_cases z : Q = P
    · rw [z]; exact h.1
    · obtain ⟨qs, q, t⟩ := hr.tab Q hQ
      exact ⟨qs, by rw [h.2 Q z]; exact q, t⟩
theorem tm_ag {G : GX} {P : Addr} {stop : Bool} {s : IM} {ts vs : List Nat} {g : GM} {c : BM} {f : EM} [qc : QB c] [qf : QE f] (hP : P ∈ G.tb) (hts : ∀ i ∈ ts, i ∈ vs) {σ : L2.St} {H : Hp} {Q : VK} (h : TM G (mAg stop s g c f vs) σ H Q) :
    tAnyG P stop (TIW G s) (TGM G ts g) (TB G c) (TM G f) vs σ H Q := by
  obtain ⟨ρ, hs, m, sl, hr, r, hs', ee, q⟩ := h
  unfold mAg at ee
  split at ee
  · rename_i ds hs1 e1
    split at ee
    · rename_i b eg
      cases ee
      refine ⟨ρ, hs, m, sl, hr, ds, hs', e1, fun J H1 m1 n1 hr1 jw => ⟨hr1.tab P hP, fun H2 hT => ?_⟩⟩
      have sl1 := sl.nx hr n1
      obtain ⟨n2, hr2⟩ := nx_tabbed (hr1.tab P hP) hT hr1
      refine ⟨fun i k H' => k = ds.length - i ∧ i ≤ ds.length ∧ Nx m1 H1 m1 H' ∧ HR G m1 hs' H' ∧ agGo stop g c f (wipeE ρ vs) hs' (ds.drop i) = some b, ⟨ds.length, by simp, Nat.zero_le _, n2, hr2, eg⟩, ?_⟩
      rintro i k H' ⟨rfl, hi, n', hr', er⟩
      have qj := jw m1 H' [] n' (by rw [List.append_nil]; exact hr') i
      rw [List.append_nil] at qj
      by_cases hlt : i < ds.length
      · have ed : ds[i]? = some ds[i] := List.getElem?_eq_getElem hlt
        obtain ⟨go, yl⟩ := qj.1 _ ed
        rw [List.drop_eq_getElem_cons hlt] at er
        unfold agGo at er
        refine .inr ⟨go, fun H'' => Nx m1 H1 m1 H'' ∧ HR G m1 hs' H'' ∧ agGo stop g c f (wipeE ρ vs) hs' (ds.drop (i + 1)) = some b,
          fun H'' h => ⟨ds.length - (i + 1), by omega, rfl, hlt, h⟩, fun x H3 y => ?_⟩
        obtain ⟨n3, hr3, rx⟩ := yl x H3 y
        split at er
        · rename_i ρ2 e2
          refine ⟨ds[i], wipeE ρ vs, hs', m1, (((sl1.nx hr1 n').nx hr' n3).wipe vs), hr3, rx, ρ2, e2, fun σ2 sl2 off => ?_⟩
          refine ⟨off.wipe hts, ?_⟩
          refine ⟨ρ2, hs', m1, sl2, hr3, ?_⟩
          split at er
          · rename_i hs3 e3
            obtain ⟨t3, rfl⟩ := qc.q _ _ _ _ e3
            refine ⟨true, _, e3, fun H4 m4 n4 hr4 => iteT ⟨ρ2, _, m4, sl2.nx hr3 n4, hr4, ?_⟩⟩
            split at er
            · rename_i b1 hs4 e4
              obtain ⟨t4, rfl⟩ := qf.q _ _ _ _ e4
              refine ⟨.bl b1, _, e4, fun yv H5 m5 n5 hr5 ry => ?_⟩
              cases ry
              have n15 : Nx m1 H3 m5 H5 := n4.trans n5
              have cut := hr3.cut n15 (r := t3 ++ t4) (by rw [← List.append_assoc]; exact hr5)
              have nx1 : Nx m1 H1 m1 H5 := (n'.trans n3).trans n15.cut
              refine ⟨b1, rfl, fun hb => ?_, fun hb => ⟨nx1, cut, ?_⟩⟩
              · subst hb
                have e5 : b = b1 := by
                  cases b1 <;> (cases er; rfl)
                subst e5
                exact q _ H5 m1 (n1.trans nx1) cut (.bl _)
              · cases b1 <;> cases stop
                · exact absurd rfl hb
                · exact er
                · exact er
                · exact absurd rfl hb
            · cases er
          · rename_i hs3 e3
            obtain ⟨t3, rfl⟩ := qc.q _ _ _ _ e3
            refine ⟨false, _, e3, fun H4 m4 n4 hr4 => iteF ⟨(n'.trans n3).trans n4.cut, hr3.cut n4 hr4, er⟩⟩
          · cases er
        · cases er
      · have ei : i = ds.length := by omega
        subst ei
        rw [List.drop_length] at er
        cases er
        exact .inl ⟨qj.2 (Nat.le_refl _), q _ H' m1 (n1.trans n') hr' (.bl _)⟩
    · cases ee
  · cases ee
section
variable {X : Cx} {tb : List Addr} {elt tg iter : Expr} {ifs : List Expr} {scope : Scope} {own : List (Str × Nat)} {pos p gpos : Pos} {s : IM} {ts : List Nat} {g : GM} {c : BM} {f : EM} {cA P : Addr} {k : Nat}
/-- what a generator expression's own scope keeps -/
structure GxOk (scope : Scope) : Prop where
  co : scope.isCoroutine = false
  cell : ∀ y ∈ scope.names, y.2 ≠ .cell
  dot : scope.names.lookup (".0" : Str) = some NameKind.local
theorem m_all [qc : QB c] [qf : QE f] (hr : Room (k + 1) X.A) (hG : Gl X "all") (hm : X.mg "all" = none) (hc : X.calm = true) (hN : X.N.Nodup) (TBq : GxR.TabB X.base X.mg cA P) (hcode : X.env.code = .ref cA) (hP : P ∈ tb) (gk : GxOk scope)
    (ok : BlkOk X.N X.env.scope scope own) (hi : PI X tg iter (TIW (GO X tb) s))
    (hg : ∀ (s : Shared) (H : Hp) (C : Addr) (cl : List (Str × Addr)) (fp : List Addr) (code : Value) (A' : Around), Room k A' → PG (X.gx s H (genEnv scope cl C code builtinsNs X.env) fp A') tg (TGM (GO X tb) ts g))
    (ht : ∀ (s : Shared) (H : Hp) (C : Addr) (cl : List (Str × Addr)) (fp : List Addr) (code : Value) (A' : Around), Room k A' → PTs (X.gx s H (genEnv scope cl C code builtinsNs X.env) fp A') ifs (TB (GO X tb) c))
    (hel : ∀ (s : Shared) (H : Hp) (C : Addr) (cl : List (Str × Addr)) (fp : List Addr) (code : Value) (A' : Around), Room k A' → PE (X.gx s H (genEnv scope cl C code builtinsNs X.env) fp A') elt (TM (GO X tb) f))
    (hts : ∀ i ∈ ts, i ∈ own.map (·.2) := by decide) (hs : ∀ v, genFold iter X.env v = pure v := by intro _; rfl)
    (he : starEach [.GeneratorExp elt [⟨tg, iter, ifs, 0⟩] scope gpos] X.env = (false, eval (.GeneratorExp elt [⟨tg, iter, ifs, 0⟩] scope gpos) X.env) :: starEach [] X.env := by rfl) :
    PE X (.Call (.Name "all" p) [.GeneratorExp elt [⟨tg, iter, ifs, 0⟩] scope gpos] [] pos) (TM (GO X tb) (mAg false s g c f (own.map (·.2)))) :=
  (pe_allG hr hG hm hc hN TBq hcode gk.co gk.cell gk.dot ok hi hg ht hel hs he).imp fun _ _ _ => tm_ag hP hts
theorem m_any [qc : QB c] [qf : QE f] (hr : Room (k + 1) X.A) (hG : Gl X "any") (hm : X.mg "any" = none) (hc : X.calm = true) (hN : X.N.Nodup) (TBq : GxR.TabB X.base X.mg cA P) (hcode : X.env.code = .ref cA) (hP : P ∈ tb) (gk : GxOk scope)
    (ok : BlkOk X.N X.env.scope scope own) (hi : PI X tg iter (TIW (GO X tb) s))
    (hg : ∀ (s : Shared) (H : Hp) (C : Addr) (cl : List (Str × Addr)) (fp : List Addr) (code : Value) (A' : Around), Room k A' → PG (X.gx s H (genEnv scope cl C code builtinsNs X.env) fp A') tg (TGM (GO X tb) ts g))
    (ht : ∀ (s : Shared) (H : Hp) (C : Addr) (cl : List (Str × Addr)) (fp : List Addr) (code : Value) (A' : Around), Room k A' → PTs (X.gx s H (genEnv scope cl C code builtinsNs X.env) fp A') ifs (TB (GO X tb) c))
    (hel : ∀ (s : Shared) (H : Hp) (C : Addr) (cl : List (Str × Addr)) (fp : List Addr) (code : Value) (A' : Around), Room k A' → PE (X.gx s H (genEnv scope cl C code builtinsNs X.env) fp A') elt (TM (GO X tb) f))
    (hts : ∀ i ∈ ts, i ∈ own.map (·.2) := by decide) (hs : ∀ v, genFold iter X.env v = pure v := by intro _; rfl)
    (he : starEach [.GeneratorExp elt [⟨tg, iter, ifs, 0⟩] scope gpos] X.env = (false, eval (.GeneratorExp elt [⟨tg, iter, ifs, 0⟩] scope gpos) X.env) :: starEach [] X.env := by rfl) :
    PE X (.Call (.Name "any" p) [.GeneratorExp elt [⟨tg, iter, ifs, 0⟩] scope gpos] [] pos) (TM (GO X tb) (mAg true s g c f (own.map (·.2)))) :=
  (pe_anyG hr hG hm hc hN TBq hcode gk.co gk.cell gk.dot ok hi hg ht hel hs he).imp fun _ _ _ => tm_ag hP hts
end
end Mir

/-! MirH: a def's rule; isinstance, is, +=, append, min and max of a list, index of a tuple, tests by dicts. -/
namespace Mir
open PySem PySem.Spec PyProof.Rows L2

/-! ### a def -/
theorem fun_okM {P : Program} {w : World} {K : PySem.W.Frag} {mg : Str → Option Value} {base : Heap} {x qual : Str} {params : Arguments} {body : List Stmt} {scope : Scope} {dvs : List V} {kws : List (Str × V)} {p : He.Defn} {fd : FuncData} {N ps : List Str} {k n j : Nat} {f : SM} {tb : List Addr}
    (F : FunD K x qual params body scope dvs kws (He.fAd K p) fd) (S : FnScope N ps scope) (hp : ps.length = n) (hN : N.length = n + j)
    (hb : ∀ (A : Around) (outer : List Env) (s : Shared) (H : Hp) (E : XK), Room k (A.deeper (envOfC qual scope s.heap.objs.size (He.fAd K p) (.ref (He.codeOf K p)))) →
      PSs (cxOf CX0 P w K mg base N qual scope (He.fAd K p) (.ref (He.codeOf K p)) A outer s H E).nox body (TSM ⟨K, tb⟩ f)) :
    FnOk P w K mg base CX0 (k + 1) (He.fAd K p) fd ps (spM ⟨K, tb⟩ n (mBody f j)) := by
  obtain ⟨oc, od, dV, kV, doc, pm, an, cdv, ct, osl, rfl, lk, hcd, _⟩ := F.ex
  obtain ⟨c, rfl⟩ := He.codeIn_ref hcd
  have ec : He.codeOf K p = c := He.codeOf_eq lk rfl
  rw [ec] at hb
  refine fn_of lk hcd S (fun vs H Q E h => ?_) fun A outer s H vs Q E hr hsp => ⟨_, (hb A outer s H E hr).nox, body_of hN hsp⟩
  obtain ⟨h1, _⟩ := h
  rw [hp]; exact h1

/-! ### the value of a name whose tuple is known -/
def nrm : D → D
  | .tuf ds => .tup ds
  | d => d
theorem Rep.nrm {K : PySem.W.Frag} {H : Hp} {m : List Addr} {d : D} {v : V} (r : Rep K H m d v) : Rep K H m (nrm d) v := by
  cases r with
  | tuf h hd r => exact .tup (.inl (.inr ⟨_, h⟩)) r
  | non => exact .non
  | bl b => exact .bl b
  | int i => exact .int i
  | str z => exact .str z
  | ref e => exact .ref e
  | tup h r => exact .tup h r
  | fro h r => exact .fro h r
def mNrm (f : EM) : EM := fun ρ hs => match f ρ hs with
  | some (d, hs') => some (nrm d, hs')
  | none => none
instance {f : EM} [a : QE f] : QE (mNrm f) := ⟨fun ρ hs d hs' h => by
  unfold mNrm at h
  split at h
  · rename_i e; cases h; exact a.q _ _ _ _ e
  · cases h⟩
theorem m_nrm {X : Cx} {G : GX} {e : Expr} {f : EM} (h : PE X e (TM G f)) : PE X e (TM G (mNrm f)) := h.imp fun σ H Q ⟨ρ, hs, m, sl, hr, d, hs', ee, q⟩ => by
  unfold mNrm at ee
  split at ee
  · rename_i e1
    cases ee
    exact ⟨ρ, hs, m, sl, hr, _, _, e1, fun v H' m' n' hr' rv => q v H' m' n' hr' rv.nrm⟩
  · cases ee

/-! ### isinstance(x, T), T a built-in class -/
def isiF (b : D → Option Bool) : F1 := fun d hs => match b d with
  | some c => some (.bl c, hs)
  | none => none
def isInt : D → Option Bool
  | .int _ => some true
  | .bl _ => some true
  | .tup _ => some false
  | .str _ => some false
  | .non => some false
  | _ => none
def isTup : D → Option Bool
  | .int _ => some false
  | .bl _ => some false
  | .tup _ => some true
  | .str _ => some false
  | .non => some false
  | _ => none
def isStr : D → Option Bool
  | .int _ => some false
  | .bl _ => some false
  | .tup _ => some false
  | .str _ => some true
  | .non => some false
  | _ => none
instance {b : D → Option Bool} : Q1 (isiF b) := ⟨fun d hs r hs' h => by
  unfold isiF at h
  split at h
  · cases h; exact .refl
  · cases h⟩
/-- T tells b -/
def IsiT (T : String) (b : D → Option Bool) : Prop := ∀ (K : PySem.W.Frag) (H : Hp) (m : List Addr) (d : D) (v : V) (c : Bool), Rep K H m d v → b d = some c → ∃ t, TyX K H v t ∧ PySem.W.kitOne K t (.type T) = some c
theorem tyx_tup {K : PySem.W.Frag} {H : Hp} {a : Addr} {xs : List V} (h : SqT K H a xs) : TyX K H (.ref a) (.type "tuple") := by
  rcases h with (h | ⟨o, h⟩) | ⟨o, its, n, h1, h2, _⟩
  · exact .base (.tup h)
  · exact .fTuple h
  · exact .kTuple h1 h2
theorem isi_int : IsiT "int" isInt := fun K H m d v c r e => by
  cases r <;> cases e
  · exact ⟨_, .base .non, kit_ty (by decide +kernel)⟩
  · exact ⟨_, .base (.bl _), kit_ty (by decide +kernel)⟩
  · exact ⟨_, .base (.int _), kit_ty (by decide +kernel)⟩
  · exact ⟨_, .base (.str _), kit_ty (by decide +kernel)⟩
  · rename_i h _
    exact ⟨_, tyx_tup h, kit_ty (by decide +kernel)⟩
theorem isi_tup : IsiT "tuple" isTup := fun K H m d v c r e => by
  cases r <;> cases e
  · exact ⟨_, .base .non, kit_ty (by decide +kernel)⟩
  · exact ⟨_, .base (.bl _), kit_ty (by decide +kernel)⟩
  · exact ⟨_, .base (.int _), kit_ty (by decide +kernel)⟩
  · exact ⟨_, .base (.str _), kit_ty (by decide +kernel)⟩
  · rename_i h _
    exact ⟨_, tyx_tup h, kit_ty (by decide +kernel)⟩
theorem isi_str : IsiT "str" isStr := fun K H m d v c r e => by
  cases r <;> cases e
  · exact ⟨_, .base .non, kit_ty (by decide +kernel)⟩
  · exact ⟨_, .base (.bl _), kit_ty (by decide +kernel)⟩
  · exact ⟨_, .base (.int _), kit_ty (by decide +kernel)⟩
  · exact ⟨_, .base (.str _), kit_ty (by decide +kernel)⟩
  · rename_i h _
    exact ⟨_, tyx_tup h, kit_ty (by decide +kernel)⟩
section
variable {X : Cx} {tb : List Addr} {a b e : Expr} {fa fb fe : EM} {pos : Pos}
theorem pe_tyB {T : String} {x : Str} {p : Pos} (hg : Gl X x) (hm : X.mg x = none) (hv : bootBuiltins x = some (.type T)) (hn : x ≠ "__name__") (hdb : (x == ("__debug__" : Str)) = false) : PE X (.Name x p) (tC (.ty T)) :=
  ⟨fun pins s σ H Q I h => ld_blt I hg hm hv ⟨.ty T, H, I, rfl, h⟩ hn hdb⟩
theorem m_isi {T : String} {x : Str} {t : D → Option Bool} {p p2 : Pos} (hT : IsiT T t) (hg : Gl X "isinstance") (hm : X.mg "isinstance" = none) (hgT : Gl X x) (hmT : X.mg x = none) (hv : bootBuiltins x = some (.type T)) (ha : PE X a (TM (GO X tb) fa)) (hn : x ≠ "__name__" := by decide) (hdb : (x == ("__debug__" : Str)) = false := by decide)
    (he : starEach [a, .Name x p2] X.env = (false, eval a X.env) :: starEach [.Name x p2] X.env := by rfl) (hpl : (backTo pos (starEach [.Name x p2] X.env)).any (·.1) = false := by rfl) :
    PE X (.Call (.Name "isinstance" p) [a, .Name x p2] [] pos) (TM (GO X tb) (mUn (isiF t) fa)) := by
  refine PE.imp (pe_callB (r := rIsi X.K) call_isi hg hm (by rfl) (pa_cons ha (pa_cons (pe_tyB hgT hmT hv hn hdb) pa_nil) he) (he := he) (hpl := hpl)) fun σ H Q ⟨ρ, hs, m, sl, hr, d, hs', ee, q⟩ => ?_
  unfold mUn at ee
  split at ee
  · rename_i d1 h1 e1
    unfold isiF at ee
    split at ee
    · rename_i c ec
      cases ee
      refine ⟨ρ, hs, m, sl, hr, _, _, e1, fun v H' m' n' hr' rv => ?_⟩
      obtain ⟨ty, k1, k2⟩ := hT _ _ _ _ _ _ rv ec
      exact ⟨v, .ty T, ty, .type T, c, rfl, .ty T, k1, k2, q _ H' m' n' hr' (.bl c)⟩
    · cases ee
  · cases ee
end
end Mir

/-! MirI: is, +=, append, min and max of a list, a tuple that is known, index. -/
namespace Mir
open PySem PySem.Spec PyProof.Rows L2

/-! ### is, is not: against None, True, False -/
def bb : Bool → Bool → Bool
  | true, true => true
  | false, false => true
  | _, _ => false
theorem bb_eq (a b : Bool) : bb a b = decide (a = b) := by cases a <;> cases b <;> rfl
def isD : F2 := fun d e hs => match e with
  | .non => match d with
    | .non => some (.bl true, hs)
    | _ => some (.bl false, hs)
  | .bl b => match d with
    | .int _ => some (.bl false, hs)
    | .bl a => some (.bl (bb a b), hs)
    | _ => none
  | _ => none
instance : Q2 isD := ⟨fun d e hs r hs' h => by
  unfold isD at h
  split at h
  · split at h <;> (cases h; exact .refl)
  · split at h
    · cases h; exact .refl
    · cases h; exact .refl
    · cases h
  · cases h⟩
section
variable {X : Cx} {tb : List Addr}
theorem not_non {K : PySem.W.Frag} {H : Hp} {m : List Addr} {d : D} {v : V} (r : Rep K H m d v) (h : d ≠ .non) : v ≠ .non := fun z => by
  subst z
  cases r
  exact h rfl
theorem isD_cases {K : PySem.W.Frag} {m : List Addr} {hs hs' : Hs} {H : Hp} {d e r : D} {x y : V} (rx : Rep K H m d x) (ry : Rep K H m e y) (h : isD d e hs = some (r, hs')) :
    hs' = hs ∧ ((y = .non ∧ r = .bl (decide (x = .non))) ∨ (∃ i b, x = .int i ∧ y = .bl b ∧ r = .bl false) ∨ ∃ a b, x = .bl a ∧ y = .bl b ∧ r = .bl (decide (a = b))) := by
  unfold isD at h
  split at h
  · cases ry
    split at h
    · cases h; cases rx
      exact ⟨rfl, .inl ⟨rfl, by simp⟩⟩
    · rename_i hn
      cases h
      have : x ≠ .non := not_non rx (fun z => hn z)
      exact ⟨rfl, .inl ⟨rfl, by simp [this]⟩⟩
  · cases ry
    split at h
    · cases h; cases rx
      exact ⟨rfl, .inr (.inl ⟨_, _, rfl, rfl, rfl⟩)⟩
    · rename_i b a
      cases h; cases rx
      exact ⟨rfl, .inr (.inr ⟨_, _, rfl, rfl, congrArg D.bl (bb_eq _ _)⟩)⟩
    · cases h
  · cases h
theorem op_isM : OpR X (compareOp .Is) (R2M (GO X tb) isD) := by
  intro pins s σ H x y v u Q I rx ry h
  obtain ⟨d, e, hs, m, hr, r1, r2, r, hs', ee, q⟩ := h
  obtain ⟨rfl, h⟩ := isD_cases r1 r2 ee
  rcases h with ⟨rfl, rfl⟩ | ⟨i, b, rfl, rfl, rfl⟩ | ⟨a, b, rfl, rfl, rfl⟩
  · exact op_isN (X := X) pins s σ H x .non v u Q I rx ry ⟨rfl, q _ _ _ .refl hr (.bl _)⟩
  · obtain ⟨t, rfl⟩ := (show ∃ t, v = Value.int i t from rx)
    cases (show u = Value.bool b from ry)
    exact wpAny_is_other rfl (fun z => nomatch z) ⟨.bl false, H, I, rfl, q _ _ _ .refl hr (.bl _)⟩
  · exact op_isBl (X := X) pins s σ H _ _ v u Q I rx ry ⟨a, b, rfl, rfl, q _ _ _ .refl hr (.bl _)⟩
theorem op_isNotM : OpR X (compareOp .IsNot) (R2M (GO X tb) (notF isD)) := by
  intro pins s σ H x y v u Q I rx ry h
  obtain ⟨d, e, hs, m, hr, r1, r2, r, hs', ee, q⟩ := h
  unfold notF at ee
  split at ee
  · rename_i c hs2 e2
    cases ee
    obtain ⟨rfl, h⟩ := isD_cases r1 r2 e2
    rcases h with ⟨rfl, e3⟩ | ⟨i, b, rfl, rfl, e3⟩ | ⟨a, b, rfl, rfl, e3⟩
    · cases e3
      exact op_notN (X := X) pins s σ H x .non v u Q I rx ry ⟨rfl, q _ _ _ .refl hr (.bl _)⟩
    · cases e3
      obtain ⟨t, rfl⟩ := (show ∃ t, v = Value.int i t from rx)
      cases (show u = Value.bool b from ry)
      exact wpAny_isNot_other rfl (fun z => nomatch z) ⟨.bl true, H, I, rfl, q _ _ _ .refl hr (.bl _)⟩
    · cases e3
      exact op_notBl (X := X) pins s σ H _ _ v u Q I rx ry ⟨a, b, rfl, rfl, q _ _ _ .refl hr (.bl _)⟩
  · cases ee

/-! ### x += e, ints -/
def mAug (i : Nat) (p : Int → Int → Int) (f : EM) : SM := fun ρ hs => match at? ρ i with
  | some (some (.int a)) => match f ρ hs with
    | some (.int b, hs') => some (.nx (put ρ i (some (.int (p a b)))) hs')
    | _ => none
  | _ => none
theorem ms_aug {G : GX} {i : Nat} {x : Str} {e : Expr} {op : Operator} {p : Int → Int → Int} {pos pos' : Pos} {fe : EM} (he : PE X e (TM G fe)) (hN : X.N.Nodup) (hi : X.N[i]? = some x) (hx : Loc X.env.scope x) (ho : PIp X op (ipI p)) (hf : X.fn x = true ∨ X.env.scope.names.lookup x = some .local := by first | exact .inl rfl | exact .inr rfl | assumption) :
    PS X (.AugAssign (.Name x pos') op e pos) (TSM G (mAug i p fe)) := by
  refine (ps_aug hN hi hx he ho hf).imp fun D σ H ⟨ρ, hs, m, sl, hr, r, ee, q⟩ => ?_
  unfold mAug at ee
  split at ee
  · rename_i a ea
    split at ee
    · rename_i b hs1 e1
      cases ee
      obtain ⟨v, h1, r1⟩ := sl.get ea
      cases r1
      refine ⟨_, h1, ρ, hs, m, sl, hr, _, _, e1, fun v H' m' n' hr' rv => ?_⟩
      cases rv
      exact ⟨a, b, rfl, rfl, q _ H' m' n' hr' ((sl.nx hr n').set (.int _) i)⟩
    · cases ee
  · cases ee

/-! ### l.append(e) -/
def mApp (fo fe : EM) : EM := fun ρ hs => match fo ρ hs with
  | some (.ref i, hs1) => match at? hs1 i with
    | some (.lst _) => match fe ρ hs1 with
      | some (d, hs2) => match at? hs2 i with
        | some (.lst ds) => match cap (ds.length + 1) with
          | true => some (.non, put hs2 i (.lst (ds ++ [d])))
          | false => none
        | _ => none
      | none => none
    | _ => none
  | _ => none
theorem upd_sq {H : Hp} {K : PySem.W.Frag} {m : List Addr} {hs : Hs} {G : GX} (hr : HR G m hs H) {a : Addr} {i : Nat} {ds ds' : List D} {xs xs' : List V} (ha : m[i]? = some a) (e : at? hs i = some (.lst ds)) (hx : H a = some (.lst xs)) (r : Reps G.K H m ds' xs') :
    Nx m H m (upd H a (.lst xs')) ∧ HR G m (put hs i (.lst ds')) (upd H a (.lst xs')) := by
  have n : Nx m H m (upd H a (.lst xs')) := .write (List.mem_of_getElem? ha)
  exact ⟨n, hr.write ha ⟨xs', upd_same, r.nx hr n⟩⟩
theorem m_append {o e : Expr} {fo fe : EM} {apos cpos : Pos} (ho : PE X o (TM (GO X tb) fo)) (he : PE X e (TM (GO X tb) fe))
    (hbase : attributeBase o "append" X.env (eval o X.env) = eval o X.env := by rfl)
    (hfew : ((backTo cpos (starEach (e :: []) X.env)).all (fun x => !x.1) && (backToKw cpos (keywordEach [] X.env)).all (fun x => x.1.isSome)
      && decide ((e :: []).length + ([] : List Keyword).length + (if ([] : List Keyword).isEmpty then 0 else 1) < 30)) = true := by rfl)
    (hline : (apos.endLine == cpos.line) = true := by rfl) (hs : starEach (e :: []) X.env = (false, eval e X.env) :: starEach [] X.env := by rfl) (hplain : (backTo cpos (starEach [] X.env)).any (·.1) = false := by rfl) :
    PE X (.Call (.Attribute o "append" apos) [e] [] cpos) (TM (GO X tb) (mApp fo fe)) := by
  refine (pe_bm PySem.F.plainAttrs_list PySem.F.slot_list_append PySem.F.type_list_append mt_append ho (pa_cons he pa_nil hs) hbase hfew hline hs hplain).imp fun σ H Q ⟨ρ, hs, m, sl, hr, d, hs', ee, q⟩ => ?_
  unfold mApp at ee
  split at ee
  · rename_i i hs1 e1
    split at ee
    · rename_i ds0 e2
      split at ee
      · rename_i d2 hs2 e3
        split at ee
        · rename_i ds e4
          split at ee
          · rename_i hc
            cases ee
            refine ⟨ρ, hs, m, sl, hr, _, _, e1, fun v H1 m1 n1 hr1 rv => ?_⟩
            cases rv with
            | ref ha =>
              rename_i a
              obtain ⟨xs0, hx0, _⟩ := hr1.lst ha e2
              refine ⟨.inl ⟨rfl, _, .of hx0⟩, ρ, hs1, m1, sl.nx hr n1, hr1, _, _, e3, fun w H2 m2 n2 hr2 rw => ?_⟩
              have ha2 := n2.ix ha
              obtain ⟨xs, hx, rx⟩ := hr2.lst ha2 e4
              obtain ⟨n3, hr3⟩ := upd_sq (K := X.K) hr2 ha2 e4 hx (rx.append (.cons rw .nil))
              have hl := cap_le hc
              refine ⟨a, xs, w, rfl, rfl, hx, by rw [← rx.length]; exact hl, q _ _ _ ((n1.trans n2).trans n3) hr3 .non⟩
          · cases ee
        · cases ee
      · cases ee
    · cases ee
  · cases ee
end

/-! ### order of ints and tuples of ints; min, max of a list -/
open PySem.W (alikeAll alike keyToksAll dataLt toks_all_cons lex_atom lex_one dataLt_all_yes dataLt_all_no dataLt_int dataLt_tuple minD maxD AlikeAll readsAll_at min_list_data max_list_data alike_unique reads_keeps)
def isI : D → Bool
  | .int _ => true
  | _ => false
def isIT : D → Bool
  | .tup ds => allL isI ds
  | _ => false
def ltT : List D → List D → Bool
  | _, [] => false
  | [], _ :: _ => true
  | .int i :: a, .int j :: b => match intEq i j with
    | true => ltT a b
    | false => decide (i < j)
  | _, _ => false
def dlt : D → D → Bool
  | .int i, .int j => decide (i < j)
  | .tup a, .tup b => ltT a b
  | _, _ => false
theorem isI_ex {d : D} (h : isI d = true) : ∃ i, d = .int i := by
  cases d with
  | int i => exact ⟨i, rfl⟩
  | _ => cases h
theorem isIT_ex {d : D} (h : isIT d = true) : ∃ ds, d = .tup ds ∧ allL isI ds = true := by
  cases d with
  | tup ds => exact ⟨ds, rfl, h⟩
  | _ => cases h
theorem alike_isI : ∀ {a b : List D}, allL isI a = true → allL isI b = true → alikeAll (pdAll a) (pdAll b) = true
  | [], _, _, _ => by simp [pdAll, alikeAll]
  | _ :: _, [], _, _ => by simp [pdAll, alikeAll]
  | x :: a, y :: b, h, h' => by
    obtain ⟨h1, h2⟩ := allL_cons h
    obtain ⟨h3, h4⟩ := allL_cons h'
    obtain ⟨i, rfl⟩ := isI_ex h1
    obtain ⟨j, rfl⟩ := isI_ex h3
    simp only [pdAll, pdOf, alikeAll, alike, Bool.true_and]
    exact alike_isI h2 h4
theorem ltT_eq : ∀ {a b : List D}, allL isI a = true → allL isI b = true → PyProof.Rows.lexLt itemOrd (keyToksAll (pdAll a)) (keyToksAll (pdAll b)) = ltT a b
  | [], [], _, _ => by
    have e := lex_irrefl (O := itemOrd) (keyToksAll (pdAll []))
    unfold ltT
    exact e
  | x :: a, [], h, _ => by
    unfold ltT
    simp only [pdAll]
    rw [toks_all_cons, keyToksAll, lex_atom (by simp), lex_one]
    rfl
  | [], y :: b, _, h => by
    unfold ltT
    simp only [pdAll]
    rw [toks_all_cons, keyToksAll, lex_atom (by simp), lex_one]
    rfl
  | x :: a, y :: b, h, h' => by
    obtain ⟨h1, h2⟩ := allL_cons h
    obtain ⟨h3, h4⟩ := allL_cons h'
    obtain ⟨i, rfl⟩ := isI_ex h1
    obtain ⟨j, rfl⟩ := isI_ex h3
    have ih := ltT_eq h2 h4
    have ha : alike (pdOf (.int i)) (pdOf (.int j)) = true := rfl
    have ev : PyData.eqv (pdOf (.int i)) (pdOf (.int j)) = intEq i j := by rw [intEq_beq]; simp [pdOf, PyData.eqv]
    unfold ltT
    simp only [pdAll]
    split
    · rename_i e
      rw [dataLt_all_yes ha (ev.trans e)]
      exact ih
    · rename_i e
      rw [dataLt_all_no ha (ev.trans e)]
      exact dataLt_int i j
theorem dlt_I {a b : D} (h : isI a = true) (h' : isI b = true) : dataLt (pdOf a) (pdOf b) = dlt a b := by
  obtain ⟨i, rfl⟩ := isI_ex h
  obtain ⟨j, rfl⟩ := isI_ex h'
  exact dataLt_int i j
theorem dlt_IT {a b : D} (h : isIT a = true) (h' : isIT b = true) : dataLt (pdOf a) (pdOf b) = dlt a b := by
  obtain ⟨i, rfl, h1⟩ := isIT_ex h
  obtain ⟨j, rfl, h2⟩ := isIT_ex h'
  exact (dataLt_tuple _ _).trans (ltT_eq h1 h2)
/-- all ints, or all tuples of ints -/
def cmpAll (ds : List D) : Bool := match allL isI ds with
  | true => true
  | false => allL isIT ds
theorem cmpAll_cases {ds : List D} (h : cmpAll ds = true) : (∀ d ∈ ds, isI d = true) ∨ ∀ d ∈ ds, isIT d = true := by
  unfold cmpAll at h
  split at h
  · rename_i e; exact .inl (allL_mem e)
  · exact .inr (allL_mem h)
theorem dlt_all {ds : List D} (h : cmpAll ds = true) : ∀ a ∈ ds, ∀ b ∈ ds, dataLt (pdOf a) (pdOf b) = dlt a b ∧ alike (pdOf a) (pdOf b) = true ∧ pdOf a ≠ .none := by
  intro a ha b hb
  rcases cmpAll_cases h with h | h
  · refine ⟨dlt_I (h a ha) (h b hb), ?_, ?_⟩
    · obtain ⟨i, rfl⟩ := isI_ex (h a ha)
      obtain ⟨j, rfl⟩ := isI_ex (h b hb)
      rfl
    · obtain ⟨i, rfl⟩ := isI_ex (h a ha)
      intro z; cases z
  · refine ⟨dlt_IT (h a ha) (h b hb), ?_, ?_⟩
    · obtain ⟨i, rfl, h1⟩ := isIT_ex (h a ha)
      obtain ⟨j, rfl, h2⟩ := isIT_ex (h b hb)
      simp only [pdOf, alike]
      exact alike_isI h1 h2
    · obtain ⟨i, rfl, h1⟩ := isIT_ex (h a ha)
      intro z; cases z
theorem pdAll_eq : ∀ ds : List D, pdAll ds = ds.map pdOf
  | [] => rfl
  | d :: ds => by rw [pdAll, pdAll_eq ds]; rfl
theorem inj_isI : ∀ {a b : List D}, allL isI a = true → allL isI b = true → pdAll a = pdAll b → a = b
  | [], [], _, _, _ => rfl
  | x :: a, [], _, _, h => by cases h
  | [], x :: a, _, _, h => by cases h
  | x :: a, y :: b, h, h', e => by
    obtain ⟨h1, h2⟩ := allL_cons h
    obtain ⟨h3, h4⟩ := allL_cons h'
    obtain ⟨i, rfl⟩ := isI_ex h1
    obtain ⟨j, rfl⟩ := isI_ex h3
    simp only [pdAll, pdOf, List.cons.injEq, PyData.int.injEq] at e
    rw [e.1, inj_isI h2 h4 e.2]
theorem pd_inj {ds : List D} (h : cmpAll ds = true) {a b : D} (ha : a ∈ ds) (hb : b ∈ ds) (e : pdOf a = pdOf b) : a = b := by
  rcases cmpAll_cases h with h | h
  · obtain ⟨i, rfl⟩ := isI_ex (h a ha)
    obtain ⟨j, rfl⟩ := isI_ex (h b hb)
    simp only [pdOf, PyData.int.injEq] at e
    rw [e]
  · obtain ⟨i, rfl, h1⟩ := isIT_ex (h a ha)
    obtain ⟨j, rfl, h2⟩ := isIT_ex (h b hb)
    simp only [pdOf, PyData.tuple.injEq] at e
    rw [inj_isI h1 h2 e]
theorem dep_isI : ∀ {a : List D}, allL isI a = true → PyData.depthAll (pdAll a) = 0
  | [], _ => rfl
  | x :: a, h => by
    obtain ⟨h1, h2⟩ := allL_cons h
    obtain ⟨i, rfl⟩ := isI_ex h1
    simp only [pdAll, pdOf, PyData.depthAll, PyData.depth, dep_isI h2]
    rfl
theorem dep_cmp {ds : List D} (h : cmpAll ds = true) : PyData.depthAll (pdAll ds) ≤ 1 := by
  have go : ∀ l : List D, (∀ d ∈ l, (pdOf d).depth ≤ 1) → PyData.depthAll (pdAll l) ≤ 1 := fun l => by
    induction l with
    | nil => intro _; simp [pdAll, PyData.depthAll]
    | cons d l ih =>
      intro hd
      have h1 := hd d List.mem_cons_self
      have h2 := ih fun x hx => hd x (List.mem_cons_of_mem _ hx)
      simp only [pdAll, PyData.depthAll]
      omega
  refine go ds fun d hd => ?_
  rcases cmpAll_cases h with h | h
  · obtain ⟨i, rfl⟩ := isI_ex (h d hd)
    simp [pdOf, PyData.depth]
  · obtain ⟨i, rfl, h1⟩ := isIT_ex (h d hd)
    simp only [pdOf, PyData.depth, dep_isI h1]
    omega
def minGo (a : D) : List D → D
  | [] => a
  | y :: r => match dlt y a with
    | true => minGo y r
    | false => minGo a r
def maxGo (a : D) : List D → D
  | [] => a
  | y :: r => match dlt a y with
    | true => maxGo y r
    | false => maxGo a r
theorem minGo_mem : ∀ (r : List D) (a : D), minGo a r ∈ a :: r
  | [], a => by simp [minGo]
  | y :: r, a => by
    unfold minGo
    split
    · have := minGo_mem r y
      exact List.mem_cons_of_mem _ this
    · have := minGo_mem r a
      rcases List.mem_cons.mp this with e | e
      · rw [e]; exact List.mem_cons_self
      · exact List.mem_cons_of_mem _ (List.mem_cons_of_mem _ e)
theorem maxGo_mem : ∀ (r : List D) (a : D), maxGo a r ∈ a :: r
  | [], a => by simp [maxGo]
  | y :: r, a => by
    unfold maxGo
    split
    · have := maxGo_mem r y
      exact List.mem_cons_of_mem _ this
    · have := maxGo_mem r a
      rcases List.mem_cons.mp this with e | e
      · rw [e]; exact List.mem_cons_self
      · exact List.mem_cons_of_mem _ (List.mem_cons_of_mem _ e)
theorem minGo_eq {ds : List D} (h : cmpAll ds = true) : ∀ (r : List D) (a : D), a ∈ ds → (∀ d ∈ r, d ∈ ds) → minD (pdOf a) (pdAll r) = pdOf (minGo a r)
  | [], a, _, _ => rfl
  | y :: r, a, ha, hr => by
    have hy := hr y List.mem_cons_self
    have e := (dlt_all h y hy a ha).1
    unfold minGo
    show minD (if dataLt (pdOf y) (pdOf a) = true then pdOf y else pdOf a) (pdAll r) = _
    rw [e]
    cases q : dlt y a with
    | true =>
      rw [if_pos rfl]
      exact minGo_eq h r y hy fun d hd => hr d (List.mem_cons_of_mem _ hd)
    | false =>
      rw [if_neg Bool.false_ne_true]
      exact minGo_eq h r a ha fun d hd => hr d (List.mem_cons_of_mem _ hd)
theorem maxGo_eq {ds : List D} (h : cmpAll ds = true) : ∀ (r : List D) (a : D), a ∈ ds → (∀ d ∈ r, d ∈ ds) → maxD (pdOf a) (pdAll r) = pdOf (maxGo a r)
  | [], a, _, _ => rfl
  | y :: r, a, ha, hr => by
    have hy := hr y List.mem_cons_self
    have e := (dlt_all h a ha y hy).1
    unfold maxGo
    show maxD (if dataLt (pdOf a) (pdOf y) = true then pdOf y else pdOf a) (pdAll r) = _
    rw [e]
    cases q : dlt a y with
    | true =>
      rw [if_pos rfl]
      exact maxGo_eq h r y hy fun d hd => hr d (List.mem_cons_of_mem _ hd)
    | false =>
      rw [if_neg Bool.false_ne_true]
      exact maxGo_eq h r a ha fun d hd => hr d (List.mem_cons_of_mem _ hd)
/-- the items of a list, a tuple -/
def itemsD (d : D) (hs : Hs) : Option (List D) := match d with
  | .tup ds => some ds
  | .ref i => match at? hs i with
    | some (.lst ds) => some ds
    | _ => none
  | _ => none
def minLM : FM := fun ds hs => match ds with
  | [.ref i] => match at? hs i with
    | some (.lst (x :: r)) => match cmpAll (x :: r) with
      | true => some (minGo x r, hs)
      | false => none
    | _ => none
  | _ => none
def maxLM : FM := fun ds hs => match ds with
  | [.ref i] => match at? hs i with
    | some (.lst (x :: r)) => match cmpAll (x :: r) with
      | true => some (maxGo x r, hs)
      | false => none
    | _ => none
  | _ => none
instance : QF minLM := ⟨fun ds hs d hs' h => by
  unfold minLM at h
  split at h
  · split at h
    · split at h
      · cases h; exact .refl
      · cases h
    · cases h
  · cases h⟩
instance : QF maxLM := ⟨fun ds hs d hs' h => by
  unfold maxLM at h
  split at h
  · split at h
    · split at h
      · cases h; exact .refl
      · cases h
    · cases h
  · cases h⟩
theorem shal_cmp {ds : List D} (h : cmpAll ds = true) : allL (shal 12) ds = true := by
  have one : ∀ d, isI d = true ∨ isIT d = true → shal 12 d = true := fun d h => by
    rcases h with h | h
    · obtain ⟨i, rfl⟩ := isI_ex h
      rfl
    · obtain ⟨ds, rfl, h1⟩ := isIT_ex h
      show allL (shal 11) ds = true
      induction ds with
      | nil => rfl
      | cons x r ih =>
        obtain ⟨h2, h3⟩ := allL_cons h1
        obtain ⟨i, rfl⟩ := isI_ex h2
        show (match shal 11 (.int i) with | true => allL (shal 11) r | false => false) = true
        exact ih h3 h3
  have go : ∀ l : List D, (∀ d ∈ l, isI d = true ∨ isIT d = true) → allL (shal 12) l = true := fun l => by
    induction l with
    | nil => intro _; rfl
    | cons x r ih =>
      intro hd
      have e := one x (hd x List.mem_cons_self)
      unfold allL
      rw [e]
      exact ih fun d hx => hd d (List.mem_cons_of_mem _ hx)
  refine go ds fun d hd => ?_
  rcases cmpAll_cases h with h | h
  · exact .inl (h d hd)
  · exact .inr (h d hd)
section
variable {X : Cx} {tb : List Addr}
theorem minmax_of {pins : List (Addr × Obj)} {σ : L2.St} {H : Hp} {s : Shared} {m : List Addr} {ds : List D} {xs : List V} {a : Addr} (I : Inv X pins σ H s) (hx : H a = some (.lst xs)) (r : Reps X.K H m ds xs) (h : cmpAll ds = true) :
    ∃ (its : List Value) (as : List Addr), Vals xs its ∧ PySem.Heap.IsList s.heap a its.toArray ∧ ReadsAll s.heap its.toArray.toList (pdAll ds) as ∧ AlikeAll (pdAll ds) := by
  obtain ⟨its, rv, pl, hz⟩ := I.list (.of hx)
  have dp : DpAll X.K H xs (pdAll ds) := dp_all (n := 12) (fun d v => dp_of 12 d v) ds xs (shal_cmp h) r
  obtain ⟨as, h4⟩ := Dp.readsAll I _ _ its dp rv
  refine ⟨its, as, rv, pl.isList, by simpa using h4, ?_, ?_⟩
  · intro x hx y hy
    rw [pdAll_eq] at hx hy
    obtain ⟨d, hd, rfl⟩ := List.mem_map.mp hx
    obtain ⟨e, he, rfl⟩ := List.mem_map.mp hy
    exact (dlt_all h d hd e he).2.1
  · intro x hx
    rw [pdAll_eq] at hx
    obtain ⟨d, hd, rfl⟩ := List.mem_map.mp hx
    exact (dlt_all h d hd d hd).2.2
/-- the item that was found is the mirror's -/
theorem found_of {pins : List (Addr × Obj)} {σ : L2.St} {H : Hp} {s : Shared} {m : List Addr} {ds : List D} {xs : List V} {its : List Value} {i : Nat} {v : Value} {d : D} {bs as : List Addr} {h' : Heap} (I : Inv X pins σ H s) (r : Reps X.K H m ds xs) (h : cmpAll ds = true) (rv : Vals xs its)
    (ra : ReadsAll s.heap its (pdAll ds) as) (hd : d ∈ ds) (hi : its.toArray[i]? = some v) (rd : Reads h' v (pdOf d) bs) (k : ∀ b o, s.heap.get? b = some o → h'.get? b = some o) : ∃ w, RelV w v ∧ Rep X.K H m d w := by
  have hi : its[i]? = some v := by simpa using hi
  have hl : i < its.length := (List.getElem?_eq_some_iff.mp hi).1
  have hxl := rv.length
  have hlt : i < xs.length := by omega
  have e1 : xs[i]? = some xs[i] := List.getElem?_eq_getElem hlt
  obtain ⟨d', h1, r1⟩ := r.get' e1
  have hdm := List.mem_of_getElem? h1
  obtain ⟨u, h2, r2⟩ := rv.get e1
  rw [hi] at h2
  cases h2
  obtain ⟨bs2, rd2, h3, h4, h5⟩ := readsAll_at ra i v hi
  have e3 : (pdAll ds).getD i .none = pdOf d' := by
    rw [pdAll_eq, List.getD_eq_getElem?_getD, List.getElem?_map, h1]
    rfl
  rw [e3] at rd2
  have e4 := alike_unique _ _ _ _ _ (dlt_all h d hd d' hdm).2.1 rd (reads_keeps k rd2)
  have e5 := pd_inj h hd hdm e4
  subst e5
  exact ⟨_, r2, r1⟩
theorem cr_minLM (hc : X.calm = true) (hu : X.A.units + 64 < cLine) : CallR X (.builtin "min") (RLM (GO X tb) minLM) := by
  intro pins s σ H vs us Q I rr h
  obtain ⟨ds, hs, m, hr, r, d, hs', e, q⟩ := h
  unfold minLM at e
  split at e
  · split at e
    · rename_i x r0 ei
      split at e
      · rename_i hcm
        cases e
        obtain ⟨v, rfl, rv⟩ := reps1 r
        cases rv with
        | ref e1 =>
          rename_i a
          obtain ⟨xs, hx, rx⟩ := hr.lst e1 ei
          obtain ⟨u, rfl, ru⟩ := vals1 rr
          cases ru
          obtain ⟨its, as, rvs, hl, ra, al⟩ := minmax_of I hx rx hcm
          refine min_list_data (I.ok.hd hc) hl ra al (by have := dep_cmp hcm; simp only [pdAll] at this; omega) fun i v h' tk bs hi rd k => ?_
          rw [minGo_eq hcm r0 x List.mem_cons_self fun d hd => List.mem_cons_of_mem _ hd] at rd
          obtain ⟨w, rw, rp⟩ := found_of I rx hcm rvs (by simpa using ra) (minGo_mem r0 x) hi rd k
          exact ⟨w, H, I.kept k, rw, q _ _ _ .refl hr rp⟩
      · cases e
    · cases e
  · cases e
theorem cr_maxLM (hc : X.calm = true) (hu : X.A.units + 64 < cLine) : CallR X (.builtin "max") (RLM (GO X tb) maxLM) := by
  intro pins s σ H vs us Q I rr h
  obtain ⟨ds, hs, m, hr, r, d, hs', e, q⟩ := h
  unfold maxLM at e
  split at e
  · split at e
    · rename_i x r0 ei
      split at e
      · rename_i hcm
        cases e
        obtain ⟨v, rfl, rv⟩ := reps1 r
        cases rv with
        | ref e1 =>
          rename_i a
          obtain ⟨xs, hx, rx⟩ := hr.lst e1 ei
          obtain ⟨u, rfl, ru⟩ := vals1 rr
          cases ru
          obtain ⟨its, as, rvs, hl, ra, al⟩ := minmax_of I hx rx hcm
          refine max_list_data (I.ok.hd hc) hl ra al (by have := dep_cmp hcm; simp only [pdAll] at this; omega) fun i v h' tk bs hi rd k => ?_
          rw [maxGo_eq hcm r0 x List.mem_cons_self fun d hd => List.mem_cons_of_mem _ hd] at rd
          obtain ⟨w, rw, rp⟩ := found_of I rx hcm rvs (by simpa using ra) (maxGo_mem r0 x) hi rd k
          exact ⟨w, H, I.kept k, rw, q _ _ _ .refl hr rp⟩
      · cases e
    · cases e
  · cases e
end
end Mir

/-! MirJ: a tuple that is known, its index; dicts with keys ints and texts. -/
namespace Mir
open PySem PySem.Spec PyProof.Rows L2

/-! ### tuple(l), the object known; t.index(k), ints -/
def tufL : FM := fun ds hs => match ds with
  | [.ref i] => match at? hs i with
    | some (.lst a) => some (.tuf a, hs)
    | _ => none
  | _ => none
instance : QF tufL := ⟨fun ds hs d hs' h => by
  unfold tufL at h
  split at h
  · split at h
    · cases h; exact .refl
    · cases h
  · cases h⟩
section
variable {X : Cx} {tb : List Addr}
theorem cr_tuf : CallR X (.type "tuple") (RLM (GO X tb) tufL) := by
  intro pins s σ H vs us Q I rr h
  obtain ⟨ds, hs, m, hr, r, d, hs', e, q⟩ := h
  unfold tufL at e
  split at e
  · split at e
    · rename_i a0 ei
      cases e
      obtain ⟨v, rfl, rv⟩ := reps1 r
      cases rv with
      | ref e1 =>
        obtain ⟨xs, hx, rx⟩ := hr.lst e1 ei
        obtain ⟨u, rfl, ru⟩ := vals1 rr
        cases ru
        obtain ⟨its, r', pl, hz⟩ := I.list (.of hx)
        have hlen := r'.length
        refine call_tuple_list pl.isList (fun h' kp => ?_) (by simp only [List.size_toArray] <;> omega)
        have I1 : L2.Inv X pins σ H { s with heap := h' } := I.kept (t' := s.toks) kp
        have hn := I1.hok.fresh (Nat.le_refl _)
        have I2 : L2.Inv X pins σ (upd H h'.objs.size (.frz { cls := .type "tuple", data := .seq its.toArray } (.tup xs))) { s with heap := h'.push { cls := .type "tuple", data := .seq its.toArray } } :=
          I1.laid (t' := s.toks) (fun b o e => Heap.get?_push_of_some _ e) (Nat.le_refl _) (show ObjOk X.prog X.w _ _ _ (.frz _ (.tup xs)) from ⟨Heap.get?_push_size _ rfl, hz, its, r', IsTup.new _ _⟩)
        exact ⟨.ref h'.objs.size, _, I2, rfl, q _ _ m (.fresh1 hn) (hr.more hn) (.tuf upd_same rfl (rx.nx hr (.fresh1 hn)))⟩
    · cases e
  · cases e
def idxI (k : Int) : List Int → Option Nat
  | [] => none
  | i :: r => match intEq i k with
    | true => some 0
    | false => match idxI k r with
      | some n => some (n + 1)
      | none => none
theorem idxI_eq {k : Int} : ∀ {ns : List Int} {j : Nat}, idxI k ns = some j → k ∈ ns ∧ ns.idxOf k = j
  | [], _, h => by cases h
  | i :: r, j, h => by
    unfold idxI at h
    split at h
    · rename_i e
      cases h
      rw [intEq_beq] at e
      have e := eq_of_beq e
      subst e
      exact ⟨List.mem_cons_self, List.idxOf_cons_self⟩
    · rename_i e
      rw [intEq_beq] at e
      split at h
      · rename_i n e2
        cases h
        obtain ⟨h1, h2⟩ := idxI_eq e2
        refine ⟨List.mem_cons_of_mem _ h1, ?_⟩
        rw [List.idxOf_cons, e, cond_false, h2]
      · cases h
def mTidx (fo fe : EM) : EM := fun ρ hs => match fo ρ hs with
  | some (.tuf ds, hs1) => match fe ρ hs1 with
    | some (.int k, hs2) => match intsOf ds with
      | some ns => match idxI k ns with
        | some j => some (.int (j : Nat), hs2)
        | none => none
      | none => none
    | _ => none
  | _ => none
instance {fo fe : EM} [a : QE fo] [b : QE fe] : QE (mTidx fo fe) := ⟨fun ρ hs d hs' h => by
  unfold mTidx at h
  split at h
  · rename_i e1
    split at h
    · rename_i e2
      split at h
      · split at h
        · cases h
          exact (a.q _ _ _ _ e1).trans (b.q _ _ _ _ e2)
        · cases h
      · cases h
    · cases h
  · cases h⟩
theorem m_tidx {o e : Expr} {fo fe : EM} {apos cpos : Pos} (ho : PE X o (TM (GO X tb) fo)) (ha : PE X e (TM (GO X tb) fe))
    (hbase : attributeBase o "index" X.env (eval o X.env) = eval o X.env := by rfl)
    (hfew : ((backTo cpos (starEach (e :: []) X.env)).all (fun x => !x.1) && (backToKw cpos (keywordEach [] X.env)).all (fun x => x.1.isSome)
      && decide ((e :: []).length + ([] : List Keyword).length + (if ([] : List Keyword).isEmpty then 0 else 1) < 30)) = true := by rfl)
    (hline : (apos.endLine == cpos.line) = true := by rfl) (hs : starEach (e :: []) X.env = (false, eval e X.env) :: starEach [] X.env := by rfl) (hplain : (backTo cpos (starEach [] X.env)).any (·.1) = false := by rfl) :
    PE X (.Call (.Attribute o "index" apos) [e] [] cpos) (TM (GO X tb) (mTidx fo fe)) := by
  refine ⟨fun pins s σ H Q I h => ?_⟩
  obtain ⟨ρ, hs0, m, sl, hr, d, hs', ee, q⟩ := h
  unfold mTidx at ee
  split at ee
  · rename_i ds hs1 e1
    split at ee
    · rename_i k hs2 e2
      split at ee
      · rename_i ns e3
        split at ee
        · rename_i j e4
          cases ee
          refine wpAny_Call_method_late hbase hfew hline rfl (thn (ho.run pins s σ H (fun x H1 => ∃ m1, Nx m H m1 H1 ∧ HR (GO X tb) m1 hs1 H1 ∧ Rep X.K H1 m1 (.tuf ds) x) I ⟨ρ, hs0, m, sl, hr, _, _, e1, fun v H1 m1 n1 hr1 rv => ⟨m1, n1, hr1, rv⟩⟩) fun v s1 ⟨x, H1, I1, r1, m1, n1, hr1, rv⟩ => ?_)
          cases rv with
          | tuf hx hd rx =>
            rename_i a xs o
            cases r1
            obtain ⟨ho1, hz, its, rv, ⟨o', ho', hc, hs3⟩⟩ := (show ObjOk X.prog X.w H1 s1.heap a (.frz o (.tup xs)) from I1.hok a _ hx)
            rw [ho1] at ho'; cases ho'
            refine ⟨"tuple", "tuple.index", PySem.F.plainAttrs_tuple, PySem.F.slot_tuple_index, PySem.F.type_tuple_index, ⟨o, ho1, hc⟩, fun b e => ?_, ?_⟩
            · cases e
              exact ⟨o, ho1, hd⟩
            have hA := (pa_cons ha pa_nil hs).run cpos pins s1 σ H1 (fun vs H2 => ∃ v m2, vs = [v] ∧ Nx m1 H1 m2 H2 ∧ HR (GO X tb) m2 hs' H2 ∧ Rep X.K H2 m2 (.int k) v ∧ H2 a = some (.frz o (.tup xs)) ∧ Nx m H m2 H2) I1
              ⟨ρ, hs1, m1, sl.nx hr n1, hr1, _, _, e2, fun v H2 m2 n2 hr2 rv => ⟨v, m2, rfl, n2, hr2, rv, n2.keep a _ hx (hr1.no_frz hx) fun _ z => (by cases z), n1.trans n2⟩⟩
            rw [hs] at hA ⊢
            refine Calls.callWith_builtin (by show (false || (backTo cpos (starEach [] X.env)).any (·.1)) = false; rw [hplain] <;> rfl) (Calls.evalArgs_plain ?_)
            refine thn hA fun us s2 ⟨vs, H2, I2, r2, v, m2, ev, n2, hr2, rv2, hx2, n3⟩ => ?_
            subst ev
            cases rv2
            obtain ⟨u, rfl, t, rfl⟩ := vals1 r2
            rw [intsOf_eq e3] at rx
            have ex := rx.ints
            subst ex
            obtain ⟨h5, _, its2, rv3, tp⟩ := (show ObjOk X.prog X.w H2 s2.heap a (.frz o (.tup (ns.map V.int))) from I2.hok a _ hx2)
            obtain ⟨h6, h7⟩ := idxI_eq e4
            refine PySem.SeqAt.tuple_index_ints (l := a) (vs := its2) tp rv3.ints h6 ?_
            rw [h7]
            exact ⟨.int j, H2, I2.tok _, ⟨_, rfl⟩, q _ _ m2 n3 hr2 (.int _)⟩
        · cases ee
      · cases ee
    · cases ee
  · cases ee
end
end Mir

/-! MirK: dicts with keys ints and texts. -/
namespace Mir
open PySem PySem.Spec PyProof.Rows L2

def keyOf : D → Option Key
  | .int i => some (.inl i)
  | .str s => some (.inr s)
  | _ => none
def keq : D → D → Bool
  | .int i, .int j => intEq i j
  | .str s, .str t => strEq s t
  | _, _ => false
def kget (k : D) : List (D × D) → Option D
  | [] => none
  | (j, v) :: r => match keq j k with
    | true => some v
    | false => kget k r
def kany (k : D) : List (D × D) → Bool
  | [] => false
  | (j, _) :: r => match keq j k with
    | true => true
    | false => kany k r
def krep (k v : D) : List (D × D) → List (D × D)
  | [] => []
  | (j, w) :: r => match keq j k with
    | true => (j, v) :: krep k v r
    | false => (j, w) :: krep k v r
def kput (k v : D) (kvs : List (D × D)) : List (D × D) := match kany k kvs with
  | true => krep k v kvs
  | false => kvs ++ [(k, v)]
inductive KRel (K : PySem.W.Frag) (H : Hp) (m : List Addr) : List (D × D) → List (Key × V) → Prop where
  | nil : KRel K H m [] []
  | cons {k : Key} {d : D} {v : V} {r : List (D × D)} {s : List (Key × V)} : Rep K H m d v → KRel K H m r s → KRel K H m ((keyD k, d) :: r) ((k, v) :: s)
section
variable {K : PySem.W.Frag} {H H' : Hp} {m m' : List Addr}
theorem KRel.of : ∀ {kvs : List (D × D)} {ks : List (Key × V)}, kvs.map (·.1) = ks.map (fun p => keyD p.1) → Reps K H m (kvs.map (·.2)) (ks.map (·.2)) → KRel K H m kvs ks
  | [], [], _, _ => .nil
  | [], _ :: _, h, _ => by cases h
  | _ :: _, [], h, _ => by cases h
  | (j, d) :: r, (k, v) :: s, h, q => by
    rw [List.map_cons, List.map_cons] at h
    injection h with h1 h2
    rw [List.map_cons, List.map_cons] at q
    cases q with
    | cons q t =>
      have h1 : j = keyD k := h1
      subst h1
      exact .cons q (KRel.of h2 t)
theorem KRel.keys : ∀ {kvs : List (D × D)} {ks : List (Key × V)}, KRel K H m kvs ks → kvs.map (·.1) = ks.map (fun p => keyD p.1)
  | _, _, .nil => rfl
  | _, _, .cons _ t => by rw [List.map_cons, List.map_cons, KRel.keys t]
theorem KRel.vals : ∀ {kvs : List (D × D)} {ks : List (Key × V)}, KRel K H m kvs ks → Reps K H m (kvs.map (·.2)) (ks.map (·.2))
  | _, _, .nil => .nil
  | _, _, .cons r t => .cons r (KRel.vals t)
theorem KRel.len : ∀ {kvs : List (D × D)} {ks : List (Key × V)}, KRel K H m kvs ks → kvs.length = ks.length
  | _, _, .nil => rfl
  | _, _, .cons _ t => congrArg (· + 1) t.len
theorem KRel.mapR (f : ∀ d v, Rep K H m d v → Rep K H' m' d v) : ∀ {kvs : List (D × D)} {ks : List (Key × V)}, KRel K H m kvs ks → KRel K H' m' kvs ks
  | _, _, .nil => .nil
  | _, _, .cons r t => .cons (f _ _ r) (KRel.mapR f t)
theorem keq_key (a b : Key) : keq (keyD a) (keyD b) = decide (a = b) := by
  cases a <;> cases b <;> simp [keq, keyD, intEq_beq, strEq_beq] <;> rfl
theorem keyOf_eq {d : D} {k : Key} (h : keyOf d = some k) : d = keyD k := by
  cases d <;> cases h <;> rfl
theorem keyOf_rep {d : D} {k : Key} {v : V} (h : keyOf d = some k) (r : Rep K H m d v) : v = kV k := by
  cases r <;> cases h <;> rfl
theorem kget_rel {k : Key} : ∀ {kvs : List (D × D)} {ks : List (Key × V)}, KRel K H m kvs ks → (kget (keyD k) kvs = none → valV ks k = none) ∧ ∀ d, kget (keyD k) kvs = some d → ∃ v, valV ks k = some v ∧ Rep K H m d v
  | _, _, .nil => ⟨fun _ => valV_nil, fun d h => by cases h⟩
  | _, _, .cons (k := j) (v := v) (s := s) r t => by
    have ih := kget_rel (k := k) t
    unfold kget
    rw [keq_key]
    by_cases e : j = k
    · rw [decide_eq_true e]
      refine ⟨fun h => (by cases h), fun d h => ?_⟩
      cases h
      exact ⟨_, valV_pos (p := (j, v)) e, r⟩
    · rw [decide_eq_false e]
      have e2 : valV ((j, v) :: s) k = valV s k := valV_neg (p := (j, v)) e
      rw [e2]
      exact ih
theorem kany_rel {k : Key} : ∀ {kvs : List (D × D)} {ks : List (Key × V)}, KRel K H m kvs ks → kany (keyD k) kvs = ks.any fun kv => decide (kv.1 = k)
  | _, _, .nil => rfl
  | _, _, .cons (k := j) r t => by
    unfold kany
    rw [keq_key, List.any_cons]
    cases e : decide (j = k) with
    | true => rfl
    | false => exact kany_rel t
theorem krep_rel {k : Key} {d : D} {v : V} (rd : Rep K H m d v) : ∀ {kvs : List (D × D)} {ks : List (Key × V)}, KRel K H m kvs ks → KRel K H m (krep (keyD k) d kvs) (ks.map fun kv => if kv.1 = k then (kv.1, v) else kv)
  | _, _, .nil => .nil
  | _, _, .cons (k := j) r t => by
    unfold krep
    rw [keq_key, List.map_cons]
    by_cases e : j = k
    · rw [decide_eq_true e, if_pos (show j = k from e)]
      exact .cons rd (krep_rel rd t)
    · rw [decide_eq_false e, if_neg (show ¬ j = k from e)]
      exact .cons r (krep_rel rd t)
theorem KRel.snoc {k : Key} {d : D} {v : V} (rd : Rep K H m d v) : ∀ {kvs : List (D × D)} {ks : List (Key × V)}, KRel K H m kvs ks → KRel K H m (kvs ++ [(keyD k, d)]) (ks ++ [(k, v)])
  | _, _, .nil => .cons rd .nil
  | _, _, .cons r t => .cons r (KRel.snoc rd t)
theorem kput_rel {k : Key} {d : D} {v : V} {kvs : List (D × D)} {ks : List (Key × V)} (rd : Rep K H m d v) (h : KRel K H m kvs ks) : KRel K H m (kput (keyD k) d kvs) (putK ks k v) := by
  unfold kput putK
  rw [kany_rel h]
  cases e : ks.any fun kv => decide (kv.1 = k) with
  | true => rw [if_pos rfl]; exact krep_rel rd h
  | false => rw [if_neg Bool.false_ne_true]; exact h.snoc rd
end
theorem HR.dKr {G : GX} {m : List Addr} {hs : Hs} {H : Hp} (hr : HR G m hs H) {i : Nat} {a : Addr} {kvs : List (D × D)} (e : m[i]? = some a) (h : at? hs i = some (.dK kvs)) : ∃ ks, H a = some (.dK ks) ∧ KRel G.K H m kvs ks := by
  obtain ⟨ks, h1, h2, h3⟩ := hr.dK e h
  exact ⟨ks, h1, .of h2 h3⟩

/-! ### k in d; l, t, d -/
def inX : F2 := fun d e hs => match e with
  | .ref i => match at? hs i with
    | some (.dK kvs) => match keyOf d with
      | some _ => some (.bl (match kget d kvs with | some _ => true | none => false), hs)
      | none => none
    | _ => inD d e hs
  | _ => inD d e hs
instance : Q2 inX := ⟨fun d e hs r hs' h => by
  unfold inX at h
  split at h
  · split at h
    · split at h
      · cases h; exact .refl
      · cases h
    · exact Q2.q _ _ _ _ _ h
  · exact Q2.q _ _ _ _ _ h⟩
section
variable {X : Cx} {tb : List Addr}
theorem inX_cases {d e r : D} {hs hs' : Hs} (h : inX d e hs = some (r, hs')) : inD d e hs = some (r, hs') ∨ ∃ i kvs k, e = .ref i ∧ at? hs i = some (.dK kvs) ∧ keyOf d = some k ∧ hs' = hs ∧ r = .bl (match kget d kvs with | some _ => true | none => false) := by
  unfold inX at h
  split at h
  · split at h
    · rename_i e1
      split at h
      · rename_i k ek
        cases h
        exact .inr ⟨_, _, k, rfl, e1, ek, rfl, rfl⟩
      · cases h
    · exact .inl h
  · exact .inl h
theorem op_inX (hu : X.A.units + 65 < cLine) : OpR X (compareOp .In) (R2M (GO X tb) inX) := by
  intro pins s σ H x y v u Q I rx ry h
  obtain ⟨d, e, hs, m, hr, r1, r2, r, hs', ee, q⟩ := h
  rcases inX_cases ee with ee | ⟨i, kvs, k, rfl, ei, ek, rfl, rfl⟩
  · exact op_inM (tb := tb) hu pins s σ H x y v u Q I rx ry ⟨d, e, hs, m, hr, r1, r2, r, hs', ee, q⟩
  · cases r2 with
    | ref ea =>
      rename_i a
      obtain ⟨ks, hx, kr⟩ := hr.dKr ea ei
      have e1 := keyOf_rep ek r1
      have e2 := keyOf_eq ek
      subst e1
      subst e2
      cases ry
      obtain ⟨g1, g2⟩ := kget_rel (k := k) kr
      refine d_in (by omega) I (DGet.k (k := k) hx) rx fun s' I' => ?_
      cases eg : kget (keyD k) kvs with
      | none =>
        rw [eg] at q
        rw [g1 eg]
        exact ⟨.bl false, H, I', rfl, q _ _ _ .refl hr (.bl _)⟩
      | some d' =>
        rw [eg] at q
        obtain ⟨w, h1, _⟩ := g2 d' eg
        rw [h1]
        exact ⟨.bl true, H, I', rfl, q _ _ _ .refl hr (.bl _)⟩
theorem op_notInX (hu : X.A.units + 65 < cLine) : OpR X (compareOp .NotIn) (R2M (GO X tb) (notF inX)) := by
  intro pins s σ H x y v u Q I rx ry h
  obtain ⟨d, e, hs, m, hr, r1, r2, r, hs', ee, q⟩ := h
  unfold notF at ee
  split at ee
  · rename_i c hs2 e3
    cases ee
    rcases inX_cases e3 with e4 | ⟨i, kvs, k, rfl, ei, ek, rfl, e5⟩
    · exact op_notInM (tb := tb) hu pins s σ H x y v u Q I rx ry ⟨d, e, hs, m, hr, r1, r2, _, _, by unfold notF; rw [e4], q⟩
    · cases e5
      cases r2 with
      | ref ea =>
        rename_i a
        obtain ⟨ks, hx, kr⟩ := hr.dKr ea ei
        have e1 := keyOf_rep ek r1
        have e2 := keyOf_eq ek
        subst e1
        subst e2
        cases ry
        obtain ⟨g1, g2⟩ := kget_rel (k := k) kr
        refine d_notIn (by omega) I (DGet.k (k := k) hx) rx fun s' I' => ?_
        cases eg : kget (keyD k) kvs with
        | none =>
          rw [eg] at q
          rw [g1 eg]
          exact ⟨.bl true, H, I', rfl, q _ _ _ .refl hr (.bl _)⟩
        | some d' =>
          rw [eg] at q
          obtain ⟨w, h1, _⟩ := g2 d' eg
          rw [h1]
          exact ⟨.bl false, H, I', rfl, q _ _ _ .refl hr (.bl _)⟩
  · cases ee
end
/-! ### d[k], d.get(k, x) -/
def mDix (fo fk : EM) : EM := fun ρ hs => match fo ρ hs with
  | some (.ref i, hs1) => match fk ρ hs1 with
    | some (d, hs2) => match at? hs2 i with
      | some (.dK kvs) => match keyOf d with
        | some _ => match kget d kvs with
          | some w => some (w, hs2)
          | none => none
        | none => none
      | _ => none
    | none => none
  | _ => none
instance {fo fk : EM} [a : QE fo] [b : QE fk] : QE (mDix fo fk) := ⟨fun ρ hs d hs' h => by
  unfold mDix at h
  split at h
  · rename_i e1
    split at h
    · rename_i e2
      split at h
      · split at h
        · split at h
          · cases h; exact (a.q _ _ _ _ e1).trans (b.q _ _ _ _ e2)
          · cases h
        · cases h
      · cases h
    · cases h
  · cases h⟩
def mGet2 (fo fk fx : EM) : EM := fun ρ hs => match fo ρ hs with
  | some (.ref i, hs1) => match at? hs1 i with
    | some (.dK _) => match fk ρ hs1 with
      | some (d, hs2) => match fx ρ hs2 with
        | some (z, hs3) => match at? hs3 i with
          | some (.dK kvs) => match keyOf d with
            | some _ => match kget d kvs with
              | some w => some (w, hs3)
              | none => some (z, hs3)
            | none => none
          | _ => none
        | none => none
      | none => none
    | _ => none
  | _ => none
instance {fo fk fx : EM} [a : QE fo] [b : QE fk] [c : QE fx] : QE (mGet2 fo fk fx) := ⟨fun ρ hs d hs' h => by
  unfold mGet2 at h
  split at h
  · rename_i e1
    split at h
    · split at h
      · rename_i e2
        split at h
        · rename_i e3
          have g := ((a.q _ _ _ _ e1).trans (b.q _ _ _ _ e2)).trans (c.q _ _ _ _ e3)
          split at h
          · split at h
            · split at h
              · cases h; exact g
              · cases h; exact g
            · cases h
          · cases h
        · cases h
      · cases h
    · cases h
  · cases h⟩
section
variable {X : Cx} {tb : List Addr} {o e f : Expr} {fo fe ff : EM} {pos apos cpos : Pos}
theorem m_dix (hu : X.A.units + 1 < cLine) (ho : PE X o (TM (GO X tb) fo)) (he : PE X e (TM (GO X tb) fe)) (hs : NoSl e := by intro _; rfl) : PE X (.Subscript o e pos) (TM (GO X tb) (mDix fo fe)) := by
  refine (pe_dget hu ho he hs).imp fun σ H Q ⟨ρ, hs, m, sl, hr, d, hs', ee, q⟩ => ?_
  unfold mDix at ee
  split at ee
  · rename_i i hs1 e1
    split at ee
    · rename_i d2 hs2 e2
      split at ee
      · rename_i kvs e3
        split at ee
        · rename_i k ek
          split at ee
          · rename_i w eg
            cases ee
            refine ⟨ρ, hs, m, sl, hr, _, _, e1, fun v H1 m1 n1 hr1 rv => ⟨ρ, hs1, m1, sl.nx hr n1, hr1, _, _, e2, fun y H2 m2 n2 hr2 ry => ?_⟩⟩
            cases rv with
            | ref ha =>
              obtain ⟨ks, hx, kr⟩ := hr2.dKr (n2.ix ha) e3
              have q1 := keyOf_rep ek ry
              have q2 := keyOf_eq ek
              subst q1
              subst q2
              obtain ⟨v2, h1, h2⟩ := (kget_rel (k := k) kr).2 _ eg
              exact ⟨_, v2, rfl, by rw [← h1]; exact DGet.k hx, q _ H2 m2 (n1.trans n2) hr2 h2⟩
          · cases ee
        · cases ee
      · cases ee
    · cases ee
  · cases ee
theorem m_get2 (hu : X.A.units + 1 < cLine) (ho : PE X o (TM (GO X tb) fo)) (he : PE X e (TM (GO X tb) fe)) (hf : PE X f (TM (GO X tb) ff)) (hm : M2 X o "get" apos e f cpos := by exact ⟨rfl, rfl, rfl, rfl⟩) :
    PE X (.Call (.Attribute o "get" apos) [e, f] [] cpos) (TM (GO X tb) (mGet2 fo fe ff)) := by
  refine (pe_dget2 hu ho he hf hm).imp fun σ H Q ⟨ρ, hs, m, sl, hr, d, hs', ee, q⟩ => ?_
  unfold mGet2 at ee
  split at ee
  · rename_i i hs1 e1
    split at ee
    · rename_i kv0 e0
      split at ee
      · rename_i d2 hs2 e2
        split at ee
        · rename_i z hs3 e3
          split at ee
          · rename_i kvs e4
            split at ee
            · rename_i k ek
              refine ⟨ρ, hs, m, sl, hr, _, _, e1, fun v H1 m1 n1 hr1 rv => ?_⟩
              cases rv with
              | ref ha =>
                rename_i a
                obtain ⟨ks0, hx0, _⟩ := hr1.dKr ha e0
                refine ⟨a, rfl, .inl ⟨_, .inl hx0⟩, ρ, hs1, m1, sl.nx hr n1, hr1, _, _, e2, fun y H2 m2 n2 hr2 ry => ⟨ρ, hs2, m2, (sl.nx hr n1).nx hr1 n2, hr2, _, _, e3, fun w H3 m3 n3 hr3 rw => ?_⟩⟩
                obtain ⟨ks, hx, kr⟩ := hr3.dKr (n3.ix (n2.ix ha)) e4
                have q1 := keyOf_rep ek ry
                have q2 := keyOf_eq ek
                subst q1
                subst q2
                obtain ⟨g1, g2⟩ := kget_rel (k := k) kr
                refine ⟨_, DGet.k hx, ?_⟩
                split at ee
                · rename_i w2 eg
                  cases ee
                  obtain ⟨v2, h1, h2⟩ := g2 _ eg
                  rw [h1]
                  exact q _ H3 m3 ((n1.trans n2).trans n3) hr3 h2
                · rename_i eg
                  cases ee
                  rw [g1 eg]
                  exact q _ H3 m3 ((n1.trans n2).trans n3) hr3 rw
            · cases ee
          · cases ee
        · cases ee
      · cases ee
    · cases ee
  · cases ee
end
end Mir

/-! MirL: dicts made: displays, dict(pairs), comprehensions; comprehensions of two clauses. -/
namespace Mir
open PySem PySem.Spec PyProof.Rows L2

/-! ### an object beside the mirror's heap -/
theorem HR.asideG {G : GX} {m : List Addr} {hs : Hs} {H : Hp} {L : Addr} {u u' : HO} (hr : HR G m hs H) (hL : H L = some u) (hn : L ∉ m) (nt : ∀ xs, u ≠ .tup xs) (nf : ∀ o w, u ≠ .frz o w) (nb : ∀ ps, u ≠ .tbl ps) :
    HR G m hs (upd H L u') ∧ ∀ d v, Rep G.K H m d v → Rep G.K (upd H L u') m d v := by
  have hp : ∀ b w, H b = some w → w ≠ u → b ≠ L := fun b w e h z => by rw [z, hL] at e; exact h (Option.some.inj e).symm
  have st : ∀ {a : Addr} {zs : List V}, H a = some (.tup zs) → upd H L u' a = some (.tup zs) := fun {a zs} h => by rw [upd_ne (hp a _ h fun z => nt _ z.symm)]; exact h
  have sf : ∀ {a : Addr} {o : Obj} {w : HO}, H a = some (.frz o w) → upd H L u' a = some (.frz o w) := fun {a o w} h => by rw [upd_ne (hp a _ h fun z => nf _ _ z.symm)]; exact h
  have sq : ∀ {a : Addr} {zs : List V}, SqT G.K H a zs → SqT G.K (upd H L u') a zs := fun {a zs} h => by
    rcases h with (h | ⟨o, h⟩) | h
    · exact .inl (.inl (st h))
    · exact .inl (.inr ⟨o, sf h⟩)
    · exact .inr h
  have fr : ∀ {a : Addr} {zs : List V}, FrL G.K H a zs → FrL G.K (upd H L u') a zs := fun {a zs} h => by
    rcases h with ⟨o, h⟩ | h
    · exact .inl ⟨o, sf h⟩
    · exact .inr h
  have go : ∀ (d : D) (v : V), Rep G.K H m d v → Rep G.K (upd H L u') m d v := fun d v h =>
    Rep.rec (motive_1 := fun d v _ => Rep G.K (upd H L u') m d v) (motive_2 := fun ds vs _ => Reps G.K (upd H L u') m ds vs)
      .non .bl .int .str (fun e => .ref e) (fun h _ ih => .tup (sq h) ih) (fun h _ ih => .fro (fr h) ih) (fun h d _ ih => .tuf (sf h) d ih) .nil (fun _ _ a b => .cons a b) h
  have gos : ∀ (ds : List D) (vs : List V), Reps G.K H m ds vs → Reps G.K (upd H L u') m ds vs := fun ds => by
    induction ds with
    | nil => intro vs r; cases r; exact .nil
    | cons d ds ih => intro vs r; cases r with | cons r t => exact .cons (go _ _ r) (ih _ t)
  refine ⟨⟨hr.len, hr.nd, fun i a o e1 e2 => ?_, fun P hP => ?_⟩, go⟩
  · have q := hr.obj i a o e1 e2
    have na : a ≠ L := fun z => hn (z ▸ List.mem_of_getElem? e1)
    cases o with
    | lst ds => obtain ⟨zs, h1, r⟩ := q; exact ⟨zs, by rw [upd_ne na]; exact h1, gos _ _ r⟩
    | dK ds => obtain ⟨zs, h1, k, r⟩ := q; exact ⟨zs, by rw [upd_ne na]; exact h1, k, gos _ _ r⟩
    | dT ds => obtain ⟨zs, h1, k, r⟩ := q; exact ⟨zs, by rw [upd_ne na]; exact h1, k, gos _ _ r⟩
  · obtain ⟨ps, h1, h2⟩ := hr.tab P hP
    exact ⟨ps, by rw [upd_ne (hp P _ h1 fun z => nb _ z.symm)]; exact h1, h2⟩
theorem RepO.widen {K : PySem.W.Frag} {H : Hp} {m t : List Addr} {a : Addr} {o : O} (q : RepO K H m a o) : RepO K H (m ++ t) a o := by
  cases o with
  | lst ds => obtain ⟨zs, h1, r⟩ := q; exact ⟨zs, h1, r.widen⟩
  | dK ds => obtain ⟨zs, h1, k, r⟩ := q; exact ⟨zs, h1, k, r.widen⟩
  | dT ds => obtain ⟨zs, h1, k, r⟩ := q; exact ⟨zs, h1, k, r.widen⟩
theorem HR.adoptO {G : GX} {m : List Addr} {hs : Hs} {H : Hp} {L : Addr} {o : O} (hr : HR G m hs H) (hn : L ∉ m) (q : RepO G.K H m L o) : HR G (m ++ [L]) (hs ++ [o]) H := by
  refine ⟨by rw [List.length_append, List.length_append, hr.len]; rfl, ?_, fun i a o' e1 e2 => ?_, hr.tab⟩
  · rw [List.nodup_append]
    refine ⟨hr.nd, by simp, fun a ha b hb => ?_⟩
    rw [List.mem_singleton.mp hb]
    intro e; rw [e] at ha; exact hn ha
  · by_cases hi : i < m.length
    · rw [List.getElem?_append_left hi] at e1
      rw [List.getElem?_append_left (by rw [← hr.len]; exact hi)] at e2
      exact (hr.obj i a o' e1 e2).widen
    · rw [List.getElem?_append_right (by omega)] at e1
      rw [List.getElem?_append_right (by rw [← hr.len]; omega)] at e2
      have h0 : i - m.length = 0 := by
        obtain ⟨z, _⟩ := List.getElem?_eq_some_iff.mp e1
        simp at z; omega
      rw [h0] at e1
      rw [← hr.len, h0] at e2
      cases e1; cases e2
      exact q.widen
/-- what was nothing and is not told yet -/
theorem Nx.off {m m' : List Addr} {H H' : Hp} {L : Addr} {u : HO} (n : Nx m H m' H') (e : H L = some u) (h : L ∉ m) (nb : ∀ ps, u ≠ .tbl ps) : H' L = some u ∧ L ∉ m' :=
  ⟨n.keep L u e h nb, fun z => by
    have := n.fresh L z h
    rw [e] at this; cases this⟩
theorem Nx.told {m m' : List Addr} {H H' : Hp} {L : Addr} (n : Nx m H m' H') (h0 : H L = none) : Nx m H (m' ++ [L]) H' := by
  refine ⟨?_, fun a h1 h2 => ?_, n.keep, n.there⟩
  · obtain ⟨t, e⟩ := n.pre
    exact ⟨t ++ [L], by rw [e, List.append_assoc]⟩
  · rcases List.mem_append.mp h1 with h1 | h1
    · exact n.fresh a h1 h2
    · rw [List.mem_singleton.mp h1]; exact h0
theorem Rep.last {K : PySem.W.Frag} {G : GX} {H H2 : Hp} {m : List Addr} {hs : Hs} {L : Addr} (hr : HR G m hs H) : Rep K H2 (m ++ [L]) (.ref hs.length) (.ref L) :=
  .ref (by rw [← hr.len, List.getElem?_append_right (Nat.le_refl _), Nat.sub_self]; rfl)

/-! ### {k: v, ..} -/
abbrev PM := En → Hs → Option (List (D × D) × Hs)
inductive Reps2 (K : PySem.W.Frag) (H : Hp) (m : List Addr) : List (D × D) → List (V × V) → Prop where
  | nil : Reps2 K H m [] []
  | cons {j d : D} {k v : V} {r : List (D × D)} {s : List (V × V)} : Rep K H m j k → Rep K H m d v → Reps2 K H m r s → Reps2 K H m ((j, d) :: r) ((k, v) :: s)
structure PPM (X : Cx) (G : GX) (pos : Pos) (keys : List (Option Expr)) (values : List Expr) (g : PM) : Prop where
  ex : ∃ trs, PPs X pos keys values trs ∧ ∀ σ H (Q : List (V × V) → Hp → Prop), (∃ ρ hs m, SL G H m ρ σ ∧ HR G m hs H ∧ ∃ ps hs', g ρ hs = some (ps, hs') ∧ ∀ vs H' m', Nx m H m' H' → HR G m' hs' H' → Reps2 G.K H' m' ps vs → Q vs H') → tPairs trs σ H Q
def mPnil : PM := fun _ hs => some ([], hs)
def mPcons (fk fv : EM) (g : PM) : PM := fun ρ hs => match fk ρ hs with
  | some (k, hs1) => match fv ρ hs1 with
    | some (v, hs2) => match g ρ hs2 with
      | some (r, hs3) => some ((k, v) :: r, hs3)
      | none => none
    | none => none
  | none => none
theorem Reps2.nx {G : GX} {m m' : List Addr} {hs : Hs} {H H' : Hp} (hr : HR G m hs H) (n : Nx m H m' H') : ∀ {ps : List (D × D)} {vs : List (V × V)}, Reps2 G.K H m ps vs → Reps2 G.K H' m' ps vs
  | _, _, .nil => .nil
  | _, _, .cons a b t => .cons (a.nx hr n) (b.nx hr n) (Reps2.nx hr n t)
section
variable {X : Cx} {tb : List Addr} {pos : Pos}
theorem mp_nil {G : GX} : PPM X G pos [] [] mPnil := ⟨[], pps_nil, fun σ H Q ⟨ρ, hs, m, sl, hr, ps, hs', e, q⟩ => by
  cases e
  exact q [] H m .refl hr .nil⟩
theorem mp_cons {G : GX} {k v : Expr} {ks : List (Option Expr)} {vs : List Expr} {fk fv : EM} {g : PM} (hk : PE X k (TM G fk)) (hv : PE X v (TM G fv)) (h : PPM X G pos ks vs g) : PPM X G pos (some k :: ks) (v :: vs) (mPcons fk fv g) := by
  obtain ⟨trs, hp, hq⟩ := h.ex
  refine ⟨_, pps_cons hk hv hp, fun σ H Q ⟨ρ, hs, m, sl, hr, ps, hs', e, q⟩ => ?_⟩
  unfold mPcons at e
  split at e
  · rename_i k1 hs1 e1
    split at e
    · rename_i v1 hs2 e2
      split at e
      · rename_i r hs3 e3
        cases e
        refine ⟨ρ, hs, m, sl, hr, _, _, e1, fun x H1 m1 n1 hr1 rx => ⟨ρ, hs1, m1, sl.nx hr n1, hr1, _, _, e2, fun y H2 m2 n2 hr2 ry => ?_⟩⟩
        refine hq σ H2 _ ⟨ρ, hs2, m2, (sl.nx hr n1).nx hr1 n2, hr2, _, _, e3, fun ws H3 m3 n3 hr3 rw => ?_⟩
        exact q _ H3 m3 ((n1.trans n2).trans n3) hr3 (.cons ((rx.nx hr1 n2).nx hr2 n3) (ry.nx hr2 n3) rw)
      · cases e
    · cases e
  · cases e
/-- all keys are ints and texts -/
def keysOk : List (D × D) → Bool
  | [] => true
  | (k, _) :: r => match keyOf k with
    | some _ => keysOk r
    | none => false
def kmerge (acc : List (D × D)) : List (D × D) → List (D × D)
  | [] => acc
  | (k, v) :: r => kmerge (kput k v acc) r
def mDisp (g : PM) : EM := fun ρ hs => match g ρ hs with
  | some (ps, hs') => match keysOk ps with
    | true => some (.ref hs'.length, hs' ++ [.dK (kmerge [] ps)])
    | false => none
  | none => none
class QP (g : PM) : Prop where
  q : ∀ ρ hs ps hs', g ρ hs = some (ps, hs') → Grows hs hs'
instance : QP mPnil := ⟨fun ρ hs d hs' h => by cases h; exact .refl⟩
instance {fk fv : EM} {g : PM} [a : QE fk] [b : QE fv] [c : QP g] : QP (mPcons fk fv g) := ⟨fun ρ hs d hs' h => by
  unfold mPcons at h
  split at h
  · rename_i e1
    split at h
    · rename_i e2
      split at h
      · rename_i e3
        cases h
        exact ((a.q _ _ _ _ e1).trans (b.q _ _ _ _ e2)).trans (c.q _ _ _ _ e3)
      · cases h
    · cases h
  · cases h⟩
instance {g : PM} [a : QP g] : QE (mDisp g) := ⟨fun ρ hs d hs' h => by
  unfold mDisp at h
  split at h
  · rename_i e1
    split at h
    · cases h
      exact (a.q _ _ _ _ e1).trans .one
    · cases h
  · cases h⟩
theorem keys_rel {K : PySem.W.Frag} {H : Hp} {m : List Addr} : ∀ {ps : List (D × D)} {vs : List (V × V)}, keysOk ps = true → Reps2 K H m ps vs → ∃ ks : List (Key × V), vs = ks.map (fun kv => (kV kv.1, kv.2)) ∧ KRel K H m ps ks ∧ ks.length = ps.length
  | [], _, _, r => by
    cases r
    exact ⟨[], rfl, .nil, rfl⟩
  | (j, d) :: ps, _, h, r => by
    cases r with
    | cons a b t =>
      rename_i k0 v s0
      unfold keysOk at h
      split at h
      · rename_i k ek
        obtain ⟨ks, e1, e2, e3⟩ := keys_rel h t
        have q1 := keyOf_rep ek a
        have q2 := keyOf_eq ek
        subst q1
        subst q2
        exact ⟨(k, v) :: ks, by rw [List.map_cons, e1], .cons b e2, by simp [e3]⟩
      · cases h
theorem kmerge_rel {K : PySem.W.Frag} {H : Hp} {m : List Addr} : ∀ {ps : List (D × D)} {ks : List (Key × V)} {acc : List (D × D)} {ak : List (Key × V)}, KRel K H m ps ks → KRel K H m acc ak → KRel K H m (kmerge acc ps) (mergeK ak ks)
  | _, _, _, _, .nil, a => a
  | _, _, acc, ak, .cons (k := k) (v := v) (s := s) r t, a => by
    have e : mergeK ak ((k, v) :: s) = mergeK (putK ak k v) s := rfl
    rw [e]
    unfold kmerge
    exact kmerge_rel t (kput_rel r a)
theorem m_disp {keys : List (Option Expr)} {values : List Expr} {g : PM} (h : PPM X (GO X tb) pos keys values g) (hall : keys.all (·.isSome) = true := by rfl) (hl : keys.length = values.length := by rfl) (h0 : keys ≠ [] := by intro z; cases z) (h15 : keys.length ≤ 15 := by decide)
    (hn : ∀ ρ hs ps hs', g ρ hs = some (ps, hs') → ps.length ≤ 15) : PE X (.Dict keys values pos) (TM (GO X tb) (mDisp g)) := by
  obtain ⟨trs, hp, hq⟩ := h.ex
  refine (pe_disp hp hall hl h0 h15).imp fun σ H Q ⟨ρ, hs, m, sl, hr, d, hs', ee, q⟩ => ?_
  unfold mDisp at ee
  split at ee
  · rename_i ps hs1 e1
    split at ee
    · rename_i hk
      cases ee
      intro p hp0
      have n0 : Nx m H m (upd H p (.dK [])) := .fresh1 hp0
      refine hq σ _ _ ⟨ρ, hs, m, sl.nx hr n0, hr.more hp0, ps, hs1, e1, fun vs H2 m2 n2 hr2 rp => ?_⟩
      obtain ⟨e2, np⟩ := n2.off (L := p) (u := .dK []) upd_same (hr.no_none hp0) (fun _ z => by cases z)
      obtain ⟨ks, ev, kr, kl⟩ := keys_rel hk rp
      refine ⟨e2, ks, ev, by rw [kl]; exact hn _ _ _ _ e1, ?_⟩
      obtain ⟨hr3, go⟩ := hr2.asideG (u' := .dK (mergeK [] ks)) e2 np (fun _ z => by cases z) (fun _ _ z => by cases z) (fun _ z => by cases z)
      have kr3 := (kmerge_rel kr .nil).mapR go
      have n3 : Nx m H m2 (upd H2 p (.dK (mergeK [] ks))) := (n0.trans n2).aside hp0
      exact q _ _ (m2 ++ [p]) (n3.told hp0) (hr3.adoptO np ⟨_, upd_same, kr3.keys, kr3.vals⟩) (Rep.last hr3)
    · cases ee
  · cases ee
end
class PN (g : PM) (n : outParam Nat) : Prop where
  n : ∀ ρ hs ps hs', g ρ hs = some (ps, hs') → ps.length = n
instance : PN mPnil 0 := ⟨fun ρ hs ds hs' h => by cases h; rfl⟩
instance {fk fv : EM} {g : PM} {n : Nat} [a : PN g n] : PN (mPcons fk fv g) (n + 1) := ⟨fun ρ hs ds hs' h => by
  unfold mPcons at h
  split at h
  · split at h
    · split at h
      · rename_i e3
        cases h
        rw [List.length_cons, a.n _ _ _ _ e3]
      · cases h
    · cases h
  · cases h⟩
theorem m_disp' {X : Cx} {tb : List Addr} {pos : Pos} {keys : List (Option Expr)} {values : List Expr} {g : PM} {n : Nat} [pn : PN g n] (h : PPM X (GO X tb) pos keys values g) (hn : n ≤ 15 := by decide) (hall : keys.all (·.isSome) = true := by rfl) (hl : keys.length = values.length := by rfl) (h0 : keys ≠ [] := by intro z; cases z) (h15 : keys.length ≤ 15 := by decide) :
    PE X (.Dict keys values pos) (TM (GO X tb) (mDisp g)) := m_disp h hall hl h0 h15 fun ρ hs ps hs' e => by rw [pn.n _ _ _ _ e]; exact hn
end Mir

/-! MirM: dict comprehensions, dict(pairs), comprehensions of two clauses. -/
namespace Mir
open PySem PySem.Spec PyProof.Rows L2

/-! ### {k: v for x in xs if ..} -/
def dcGo (g : GM) (c : BM) (fk fv : EM) (ρ : En) : List D → Hs → List (D × D) → Option (List (D × D) × Hs)
  | [], hs, acc => some (acc, hs)
  | d :: ds, hs, acc => match g d ρ with
    | some ρ' => match c ρ' hs with
      | some (true, hs1) => match fk ρ' hs1 with
        | some (k, hs2) => match fv ρ' hs2 with
          | some (v, hs3) => match keyOf k with
            | some _ => dcGo g c fk fv ρ ds hs3 (kput k v acc)
            | none => none
          | none => none
        | none => none
      | some (false, hs1) => dcGo g c fk fv ρ ds hs1 acc
      | none => none
    | none => none
def mDc (s : IM) (g : GM) (c : BM) (fk fv : EM) (vs : List Nat) : EM := fun ρ hs => match s ρ hs with
  | some (ds, hs1) => if cap (ds.length + 1) then match dcGo g c fk fv (wipeE ρ vs) ds hs1 [] with
    | some (kvs, hs2) => some (.ref hs2.length, hs2 ++ [.dK kvs])
    | none => none else none
  | none => none
theorem dcGo_grows {g : GM} {c : BM} {fk fv : EM} [qc : QB c] [qk : QE fk] [qf : QE fv] {ρ : En} : ∀ {ds : List D} {hs : Hs} {acc : List (D × D)} {r : List (D × D) × Hs}, dcGo g c fk fv ρ ds hs acc = some r → Grows hs r.2
  | [], hs, acc, r, h => by cases h; exact .refl
  | d :: ds, hs, acc, r, h => by
    unfold dcGo at h
    split at h
    · split at h
      · rename_i e1
        split at h
        · rename_i e2
          split at h
          · rename_i e3
            split at h
            · exact (((qc.q _ _ _ _ e1).trans (qk.q _ _ _ _ e2)).trans (qf.q _ _ _ _ e3)).trans (dcGo_grows h)
            · cases h
          · cases h
        · cases h
      · rename_i e1
        exact (qc.q _ _ _ _ e1).trans (dcGo_grows h)
      · cases h
    · cases h
instance {s : IM} {g : GM} {c : BM} {fk fv : EM} {vs : List Nat} [a : QI s] [qc : QB c] [qk : QE fk] [qf : QE fv] : QE (mDc s g c fk fv vs) := ⟨fun ρ hs d hs' h => by
  unfold mDc at h
  split at h
  · rename_i e1
    split at h
    · split at h
      · rename_i e2
        cases h
        exact ((a.q _ _ _ _ e1).trans (dcGo_grows e2)).trans .one
      · cases h
    · cases h
  · cases h⟩
theorem kput_len (k v : D) : ∀ kvs : List (D × D), (kput k v kvs).length ≤ kvs.length + 1 := fun kvs => by
  unfold kput
  have hr : ∀ l : List (D × D), (krep k v l).length = l.length := fun l => by
    induction l with
    | nil => rfl
    | cons x r ih =>
      obtain ⟨j, w⟩ := x
      unfold krep
      split <;> simp [ih]
  split
  · rw [hr]; omega
  · simp
/-- the reading of a dict's comprehension -/
theorem tm_dc {G : GX} {s : IM} {ts vs : List Nat} {g : GM} {c : BM} {fk fv : EM} [qc : QB c] [qk : QE fk] [qf : QE fv] (hts : ∀ i ∈ ts, i ∈ vs) {σ : L2.St} {H : Hp} {Q : VK} (h : TM G (mDc s g c fk fv vs) σ H Q) : tDc (TIW G s) (TGM G ts g) (TB G c) (TM G fk) (TM G fv) vs σ H Q := by
  obtain ⟨ρ, hs, m, sl, hr, r, hs', ee, q⟩ := h
  unfold mDc at ee
  split at ee
  · rename_i ds hs1 e1
    split at ee
    · rename_i hcap
      have hcap := cap_le hcap
      split at ee
      · rename_i kvs hs2 eg
        cases ee
        refine ⟨ρ, hs, m, sl, hr, ds, hs1, e1, fun J H1 m1 n1 hr1 jw L hL => ?_⟩
        have sl1 := sl.nx hr n1
        have nL1 : L ∉ m1 := hr1.no_none hL
        refine ⟨fun i k H' => k = ds.length - i ∧ i ≤ ds.length ∧ ∃ m' r acc ks, Nx m1 H1 m' H' ∧ HR G m' (hs1 ++ r) H' ∧ L ∉ m' ∧ H' L = some (.dK ks) ∧ KRel G.K H' m' acc ks ∧ acc.length ≤ i ∧ dcGo g c fk fv (wipeE ρ vs) (ds.drop i) (hs1 ++ r) acc = some (kvs, hs2),
          ⟨ds.length, by simp, Nat.zero_le _, m1, [], [], [], (Nx.refl).aside hL, ?_, nL1, upd_same, .nil, Nat.zero_le _, by rw [List.append_nil]; exact eg⟩, ?_⟩
        · rw [List.append_nil]; exact hr1.more hL
        rintro i k H' ⟨rfl, hi, m', t, acc, ks, n', hr', nL, eL, racc, lacc, er⟩
        have qj := jw m' H' t n' hr' i
        by_cases hlt : i < ds.length
        · have ed : ds[i]? = some ds[i] := List.getElem?_eq_getElem hlt
          obtain ⟨go, yl⟩ := qj.1 _ ed
          rw [List.drop_eq_getElem_cons hlt] at er
          unfold dcGo at er
          refine .inr ⟨go, fun H'' => ∃ m' r acc ks, Nx m1 H1 m' H'' ∧ HR G m' (hs1 ++ r) H'' ∧ L ∉ m' ∧ H'' L = some (.dK ks) ∧ KRel G.K H'' m' acc ks ∧ acc.length ≤ i + 1 ∧ dcGo g c fk fv (wipeE ρ vs) (ds.drop (i + 1)) (hs1 ++ r) acc = some (kvs, hs2),
            fun H'' h => ⟨ds.length - (i + 1), by omega, rfl, hlt, h⟩, fun x H2 y => ?_⟩
          obtain ⟨n2, hr2, rx⟩ := yl x H2 y
          split at er
          · rename_i ρ2 e2
            refine ⟨ds[i], wipeE ρ vs, hs1 ++ t, m', (((sl1.nx hr1 n').nx hr' n2).wipe vs), hr2, rx, ρ2, e2, fun σ2 sl2 off => ?_⟩
            refine ⟨off.wipe hts, ?_⟩
            refine ⟨ρ2, hs1 ++ t, m', sl2, hr2, ?_⟩
            have racc2 := racc.mapR fun d v r => r.nx hr' n2
            obtain ⟨eL2, _⟩ := n2.off eL nL (fun _ z => by cases z)
            split at er
            · rename_i hs3 e3
              obtain ⟨t3, rfl⟩ := qc.q _ _ _ _ e3
              refine ⟨true, _, e3, fun H3 m3 n3 hr3 => iteT ⟨ρ2, _, m3, sl2.nx hr2 n3, hr3, ?_⟩⟩
              split at er
              · rename_i k1 hs4 e4
                obtain ⟨t4, rfl⟩ := qk.q _ _ _ _ e4
                refine ⟨k1, _, e4, fun yk H4 m4 n4 hr4 ryk => ⟨ρ2, _, m4, (sl2.nx hr2 n3).nx hr3 n4, hr4, ?_⟩⟩
                split at er
                · rename_i x1 hs5 e5
                  obtain ⟨t5, rfl⟩ := qf.q _ _ _ _ e5
                  refine ⟨x1, _, e5, fun yv H5 m5 n5 hr5 ry => ?_⟩
                  split at er
                  · rename_i ky ek
                    have n25 := (n3.trans n4).trans n5
                    obtain ⟨eL5, nL5⟩ := n25.off eL2 nL (fun _ z => by cases z)
                    have q1 := keyOf_rep ek ryk
                    have q2 := keyOf_eq ek
                    subst q1
                    subst q2
                    have racc5 := racc2.mapR fun d v r => ((r.nx hr2 n3).nx hr3 n4).nx hr4 n5
                    have kl := racc5.len
                    obtain ⟨hr6, go6⟩ := hr5.asideG (u' := .dK (putK ks ky yv)) eL5 nL5 (fun _ z => by cases z) (fun _ _ z => by cases z) (fun _ z => by cases z)
                    refine ⟨ks, ky, rfl, eL5, by omega, m5, t ++ t3 ++ t4 ++ t5, kput (keyD ky) x1 acc, putK ks ky yv, ((n'.trans n2).trans n25).aside hL, ?_, nL5, upd_same, (kput_rel ry racc5).mapR go6, ?_, ?_⟩
                    · have e5 : hs1 ++ (t ++ t3 ++ t4 ++ t5) = hs1 ++ t ++ t3 ++ t4 ++ t5 := by simp only [List.append_assoc]
                      rw [e5]
                      exact hr6
                    · have := kput_len (keyD ky) x1 acc
                      omega
                    · have e5 : hs1 ++ (t ++ t3 ++ t4 ++ t5) = hs1 ++ t ++ t3 ++ t4 ++ t5 := by simp only [List.append_assoc]
                      rw [e5]; exact er
                  · cases er
                · cases er
              · cases er
            · rename_i hs3 e3
              obtain ⟨t3, rfl⟩ := qc.q _ _ _ _ e3
              refine ⟨false, _, e3, fun H3 m3 n3 hr3 => iteF ?_⟩
              obtain ⟨eL3, nL3⟩ := n3.off eL2 nL (fun _ z => by cases z)
              refine ⟨m3, t ++ t3, acc, ks, (n'.trans n2).trans n3, ?_, nL3, eL3, racc2.mapR (fun d v r => r.nx hr2 n3), by omega, ?_⟩
              · rw [← List.append_assoc]; exact hr3
              · rw [← List.append_assoc]; exact er
            · cases er
          · cases er
        · have ei : i = ds.length := by omega
          subst ei
          rw [List.drop_length] at er
          cases er
          refine .inl ⟨qj.2 (Nat.le_refl _), ?_⟩
          have h0 : H L = none := by
            cases z : H L with
            | none => rfl
            | some o => exact absurd hL (n1.there L (by rw [z]; simp))
          exact q _ H' (m' ++ [L]) ((n1.trans n').told h0) (hr'.adoptO nL ⟨ks, eL, racc.keys, racc.vals⟩) (Rep.last hr')
      · cases ee
    · cases ee
  · cases ee
section
variable {X : Cx} {tb : List Addr} {kx vx tg iter : Expr} {ifs : List Expr} {scope : Scope} {own : List (Str × Nat)} {pos : Pos} {s : IM} {ts : List Nat} {g : GM} {c : BM} {fk fv : EM}
theorem m_dc [qc : QB c] [qk : QE fk] [qf : QE fv] (hc : X.calm = true) (hN : X.N.Nodup) (hi : PI X tg iter (TIW (GO X tb) s)) (ok : BlkOk X.N X.env.scope scope own)
    (hg : ∀ (s : Shared) (H : Hp) (C : Addr) (cl : List (Str × Addr)) (fp : List Addr), PG (X.blk s H scope (compEnvC scope cl C X.env) fp) tg (TGM (GO X tb) ts g)) (ht : ∀ (s : Shared) (H : Hp) (C : Addr) (cl : List (Str × Addr)) (fp : List Addr), PTs (X.blk s H scope (compEnvC scope cl C X.env) fp) ifs (TB (GO X tb) c))
    (hk : ∀ (s : Shared) (H : Hp) (C : Addr) (cl : List (Str × Addr)) (fp : List Addr), PE (X.blk s H scope (compEnvC scope cl C X.env) fp) kx (TM (GO X tb) fk)) (he : ∀ (s : Shared) (H : Hp) (C : Addr) (cl : List (Str × Addr)) (fp : List Addr), PE (X.blk s H scope (compEnvC scope cl C X.env) fp) vx (TM (GO X tb) fv))
    (hts : ∀ i ∈ ts, i ∈ own.map (·.2) := by decide) (hs : ∀ x, foldedSetIterable iter X.env x = pure x := by intro _; rfl) :
    PE X (.DictComp kx vx [⟨tg, iter, ifs, 0⟩] scope pos) (TM (GO X tb) (mDc s g c fk fv (own.map (·.2)))) :=
  (pe_dc hc hN hi ok hg ht hk he hs).imp fun _ _ _ => tm_dc hts
end

/-! ### dict(t), t a known tuple of pairs -/
def pairsD : List D → Option (List (D × D))
  | [] => some []
  | .tup [k, v] :: r => match keyOf k with
    | some _ => match pairsD r with
      | some l => some ((k, v) :: l)
      | none => none
    | none => none
  | _ => none
def dictL : FM := fun ds hs => match ds with
  | [.tuf a] => match pairsD a with
    | some ps => match cap (a.length + 1) with
      | true => some (.ref hs.length, hs ++ [.dK (kmerge [] ps)])
      | false => none
    | none => none
  | _ => none
instance : QF dictL := ⟨fun ds hs d hs' h => by
  unfold dictL at h
  split at h
  · split at h
    · split at h
      · cases h; exact .one
      · cases h
    · cases h
  · cases h⟩
theorem pairs_tab {X : Cx} {pins : List (Addr × Obj)} {σ : L2.St} {H : Hp} {s : Shared} {m : List Addr} (I : L2.Inv X pins σ H s) : ∀ {ds : List D} {ps : List (D × D)} {xs : List V} {its : List Value}, pairsD ds = some ps → Reps X.K H m ds xs → Vals xs its →
    ∃ (ts : List (Addr × Value × Key × Value)) (ks : List (Key × V)), ts.length = its.length ∧ (∀ (j : Nat) t, ts[j]? = some t → its[j]? = some (.ref t.1) ∧ s.heap.IsTuple t.1 #[t.2.1, t.2.2.2] ∧ (mixKind X.prog X.w).is t.2.2.1 t.2.1 = true) ∧ KRel X.K H m ps ks ∧ KV ks (ts.map fun t => (t.2.2.1, t.2.2.2))
  | [], ps, xs, its, h, r, rv => by
    cases h
    cases r
    cases rv
    exact ⟨[], [], rfl, fun j t e => by simp at e, .nil, .nil⟩
  | d :: ds, ps, xs, its, h, r, rv => by
    unfold pairsD at h
    split at h
    · rename_i z
      cases z
    · rename_i k v r0 e0
      cases e0
      split at h
      · rename_i ky ek
        split at h
        · rename_i l el
          cases h
          cases r with
          | cons r1 r2 =>
            cases r1 with
            | tup hx rx =>
              rename_i a ys
              cases rv with
              | cons q1 q2 =>
                obtain ⟨ts, ks, h1, h2, h3, h4⟩ := pairs_tab I el r2 q2
                obtain ⟨x, y, rfl, rk, ry⟩ := reps2 rx
                obtain ⟨its2, rv2, pl, _⟩ := I.tuple hx
                obtain ⟨u, w, rfl, ru, rw⟩ := vals2 rv2
                cases q1
                have z1 := keyOf_rep ek rk
                have z2 := keyOf_eq ek
                subst z1
                subst z2
                refine ⟨(a, u, ky, w) :: ts, (ky, y) :: ks, by simp [h1], fun j t e => ?_, .cons ry h3, .cons ⟨rfl, rw⟩ h4⟩
                cases j with
                | zero =>
                  simp only [List.getElem?_cons_zero, Option.some.injEq] at e
                  subst e
                  exact ⟨rfl, pl, kV_is ru⟩
                | succ j =>
                  simp only [List.getElem?_cons_succ] at e ⊢
                  exact h2 j t e
        · cases h
      · cases h
    · cases h
theorem cr_dictL {X : Cx} {tb : List Addr} (hc : X.calm = true) : CallR X (.type "dict") (RLM (GO X tb) dictL) := by
  intro pins s σ H vs us Q I rr h
  obtain ⟨ds, hs, m, hr, r, d, hs', e, q⟩ := h
  unfold dictL at e
  split at e
  · rename_i a0
    split at e
    · rename_i ps ep
      split at e
      · rename_i hcap
        have hcap := cap_le hcap
        cases e
        obtain ⟨v, rfl, rv⟩ := reps1 r
        cases rv with
        | tuf hx hd rx =>
          rename_i a xs o
          obtain ⟨u, rfl, ru⟩ := vals1 rr
          cases ru
          obtain ⟨ho, hz, its, rvs, ⟨o', ho', hcl, n, hdat⟩⟩ := (show ObjOk X.prog X.w H s.heap a (.frz o (.tup xs)) from I.hok a _ hx)
          rw [ho] at ho'; cases ho'
          obtain ⟨ts, ks, h1, h2, h3, h4⟩ := pairs_tab I ep rx rvs
          have l1 := rvs.length
          have l2 := rx.length
          refine PySem.call_dict_pairs (knd := mixKind X.prog X.w) (kvs := ts.map fun t => (t.2.2.1, t.2.2.2)) (PairArg.tuple a its.toArray (fun j => ((ts[j]?).map (·.1)).getD 0) (ts.map fun t => (t.2.1, t.2.2.2))) (I.ok.hd hc)
            ⟨⟨o, n, ho, hcl, hd, hdat⟩, by simp [h1], fun j k v e => ?_⟩ ⟨by simp, fun i key v e => ?_⟩ (by simp; omega) fun h' tk hd' k => ?_
          · rw [List.getElem?_map] at e
            cases z : ts[j]? with
            | none => rw [z] at e; cases e
            | some t =>
              rw [z] at e
              cases e
              obtain ⟨g1, g2, g3⟩ := h2 j t z
              exact ⟨by simpa [z] using g1, .inl (by simpa [z] using g2)⟩
          · have e : (ts.map fun t => (t.2.1, t.2.2.2))[i]? = some (key, v) := e
            rw [List.getElem?_map] at e
            cases z : ts[i]? with
            | none => rw [z] at e; cases e
            | some t =>
              rw [z] at e
              cases e
              obtain ⟨g1, g2, g3⟩ := h2 i t z
              exact ⟨t.2.2.1, by rw [List.getElem?_map, z]; rfl, g3⟩
          · have hm : (s.heap.objs.size == sysModules) = false := beq_eq_false_iff_ne.mpr (Nat.ne_of_gt I.big)
            have hlen : (mergeK [] ks).length ≤ sizeLine := by
              refine Nat.le_trans (length_mergeK ks []) ?_
              have := h4.length
              simp only [List.length_map] at this
              rw [List.length_nil]
              omega
            have hn := I.hok.fresh (Nat.le_refl s.heap.objs.size)
            have I2 := I.laid (t' := tk) (fun b o e => k b o (by simp) e) (Nat.le_refl _) (show ObjOk X.prog X.w _ _ _ (.dK (mergeK [] ks)) from ⟨hlen, hm, _, KV.merge h4 .nil, hd'⟩)
            have nx : Nx m H m (upd H s.heap.objs.size (.dK (mergeK [] ks))) := .fresh1 hn
            have kr := (kmerge_rel h3 .nil).mapR fun d v r => r.nx hr nx
            have hr2 := hr.more (u := .dK (mergeK [] ks)) hn
            exact ⟨.ref s.heap.objs.size, _, I2, rfl, q _ _ (m ++ [s.heap.objs.size]) (nx.told hn) (hr2.adoptO (hr.no_none hn) ⟨_, upd_same, kr.keys, kr.vals⟩) (Rep.last hr2)⟩
      · cases e
    · cases e
  · cases e

/-! ### what is walked while the list at L grows -/
structure NxL (L : Addr) (m : List Addr) (H : Hp) (m' : List Addr) (H' : Hp) : Prop where
  pre : ∃ r, m' = m ++ r
  fresh : ∀ a ∈ m', a ∉ m → H a = none
  keep : ∀ a o, a ≠ L → H a = some o → a ∉ m → (∀ ps, o ≠ .tbl ps) → H' a = some o
  there : ∀ a, H a ≠ none → H' a ≠ none
theorem NxL.refl {L : Addr} {m : List Addr} {H : Hp} : NxL L m H m H := ⟨⟨[], by simp⟩, fun a h n => absurd h n, fun _ _ _ e _ _ => e, fun _ e => e⟩
theorem NxL.ix {L : Addr} {m m' : List Addr} {H H' : Hp} (n : NxL L m H m' H') {i : Nat} {a : Addr} (h : m[i]? = some a) : m'[i]? = some a := by
  obtain ⟨r, e⟩ := n.pre
  obtain ⟨hi, _⟩ := List.getElem?_eq_some_iff.mp h
  rw [e, List.getElem?_append_left hi]; exact h
theorem NxL.trans {L : Addr} {m m' m'' : List Addr} {H H' H'' : Hp} (a : NxL L m H m' H') (b : Nx m' H' m'' H'') : NxL L m H m'' H'' where
  pre := by
    obtain ⟨r, e⟩ := a.pre
    obtain ⟨r', e'⟩ := b.pre
    exact ⟨r ++ r', by rw [e', e, List.append_assoc]⟩
  fresh := fun c hc hn => by
    by_cases h : c ∈ m'
    · exact a.fresh c h hn
    · have q := b.fresh c hc h
      cases z : H c with
      | none => rfl
      | some o => exact absurd q (a.there c (by rw [z]; simp))
  keep := fun c o hL e hn ht => by
    refine b.keep c o (a.keep c o hL e hn ht) (fun z => ?_) ht
    have q := a.fresh c z hn
    rw [q] at e; cases e
  there := fun c e => b.there c (a.there c e)
theorem NxL.put {L : Addr} {m m' : List Addr} {H H' : Hp} {u : HO} (a : NxL L m H m' H') : NxL L m H m' (upd H' L u) :=
  ⟨a.pre, a.fresh, fun c o hL e hn ht => by rw [upd_ne hL]; exact a.keep c o hL e hn ht, fun c e => by
    by_cases h : c = L
    · rw [h, upd_same]; simp
    · rw [upd_ne h]; exact a.there c e⟩
section
variable {G : GX} {m m' : List Addr} {hs hs' : Hs} {H H' : Hp} {L : Addr} {zs : List V}
theorem lst_ne {a : Addr} {o : HO} (hL : H L = some (.lst zs)) (e : H a = some o) (h : ∀ xs, o ≠ .lst xs) : a ≠ L := fun z => by
  rw [z, hL] at e
  exact h zs (Option.some.inj e).symm
theorem sqT_nxl (hr : HR G m hs H) (hL : H L = some (.lst zs)) (n : NxL L m H m' H') {a : Addr} {xs : List V} (h : SqT G.K H a xs) : SqT G.K H' a xs := by
  rcases h with (h | ⟨o, h⟩) | h
  · exact .inl (.inl (n.keep a _ (lst_ne hL h fun _ z => by cases z) h (hr.no_tup h) fun _ z => by cases z))
  · exact .inl (.inr ⟨o, n.keep a _ (lst_ne hL h fun _ z => by cases z) h (hr.no_frz h) fun _ z => by cases z⟩)
  · exact .inr h
theorem frL_nxl (hr : HR G m hs H) (hL : H L = some (.lst zs)) (n : NxL L m H m' H') {a : Addr} {xs : List V} (h : FrL G.K H a xs) : FrL G.K H' a xs := by
  rcases h with ⟨o, h⟩ | h
  · exact .inl ⟨o, n.keep a _ (lst_ne hL h fun _ z => by cases z) h (hr.no_frz h) fun _ z => by cases z⟩
  · exact .inr h
theorem Rep.nxl (hr : HR G m hs H) (hL : H L = some (.lst zs)) (n : NxL L m H m' H') {d : D} {v : V} (h : Rep G.K H m d v) : Rep G.K H' m' d v :=
  Rep.rec (motive_1 := fun d v _ => Rep G.K H' m' d v) (motive_2 := fun ds vs _ => Reps G.K H' m' ds vs)
    .non .bl .int .str (fun e => .ref (n.ix e)) (fun h _ ih => .tup (sqT_nxl hr hL n h) ih) (fun h _ ih => .fro (frL_nxl hr hL n h) ih) (fun h d _ ih => .tuf (n.keep _ _ (lst_ne hL h fun _ z => by cases z) h (hr.no_frz h) fun _ z => by cases z) d ih) .nil (fun _ _ a b => .cons a b) h
theorem SL.nxl (hr : HR G m hs H) (hL : H L = some (.lst zs)) (n : NxL L m H m' H') {ρ : En} {σ : L2.St} (s : SL G H m ρ σ) : SL G H' m' ρ σ := ⟨s.len, fun i d e => by
  obtain ⟨v, e1, r⟩ := s.at_ i d e
  exact ⟨v, e1, r.nxl hr hL n⟩⟩
theorem Reps.nxl (hr : HR G m hs H) (hL : H L = some (.lst zs)) (n : NxL L m H m' H') : ∀ {ds : List D} {vs : List V}, Reps G.K H m ds vs → Reps G.K H' m' ds vs
  | _, _, .nil => .nil
  | _, _, .cons r t => .cons (r.nxl hr hL n) (Reps.nxl hr hL n t)
end
def JX (L : Addr) (G : GX) (J : It) (ds : List D) (m : List Addr) (hs : Hs) (H : Hp) : Prop := ∀ m' H' r, NxL L m H m' H' → HR G m' (hs ++ r) H' → JAt G J ds m' (hs ++ r) H'
def TIX (G : GX) (f : IM) : TI := fun σ H R => ∃ ρ hs m, SL G H m ρ σ ∧ HR G m hs H ∧ ∃ ds hs', f ρ hs = some (ds, hs') ∧ ∀ J H' m', Nx m H m' H' → HR G m' hs' H' → (∀ L zs, H L = some (.lst zs) → L ∉ m → JX L G J ds m' hs' H') → R J H'
section
variable {X : Cx} {tb : List Addr} {tg e a b : Expr} {f : EM} {g : AM} {p pos : Pos}
theorem jx_tup {G : GX} {L : Addr} {a : Addr} {xs zs : List V} {ds : List D} {m : List Addr} {hs : Hs} {H : Hp} (hL : H L = some (.lst zs)) (hx : SqT G.K H a xs) (r : Reps G.K H m ds xs) (hr : HR G m hs H) : JX L G (Itt G.K a) ds m hs H := fun m' H' t n hr' =>
  jat_tup (sqT_nxl hr hL n hx) (r.nxl hr hL n) hr'
theorem jx_fro {G : GX} {L : Addr} {a : Addr} {xs zs : List V} {ds : List D} {m : List Addr} {hs : Hs} {H : Hp} (hL : H L = some (.lst zs)) (hx : FrL G.K H a xs) (r : Reps G.K H m ds xs) (hr : HR G m hs H) : JX L G (Itl G.K a) ds m hs H := fun m' H' t n hr' =>
  jat_list (.inl rfl) (frL_nxl hr hL n hx).sq (r.nxl hr hL n) hr'
theorem jx_lst {G : GX} {L : Addr} {a : Addr} {i : Nat} {ds : List D} {m : List Addr} {hs : Hs} {H : Hp} (e : m[i]? = some a) (h : at? hs i = some (.lst ds)) : JX L G (Itl G.K a) ds m hs H := fun m' H' r n hr' => by
  have e2 : at? (hs ++ r) i = some (.lst ds) := by
    rw [at?_eq] at h ⊢
    obtain ⟨h1, _⟩ := List.getElem?_eq_some_iff.mp h
    rw [List.getElem?_append_left h1]; exact h
  obtain ⟨xs, hx, rx⟩ := hr'.lst (n.ix e) e2
  exact jat_list (.inl rfl) (.of hx) rx hr'
theorem mi_seqX (h : PE X e (TM (GO X tb) f)) : PI X tg e (TIX (GO X tb) (mSeqW f)) := PI.imp' (pi_seq h) fun σ H R ⟨ρ, hs, m, sl, hr, ds, hs', ee, q⟩ => by
  unfold mSeqW at ee
  split at ee
  · rename_i e1
    cases ee
    refine ⟨ρ, hs, m, sl, hr, _, _, e1, fun v H' m' n' hr' rv => ?_⟩
    cases rv with
    | tup hx rx => exact ⟨_, rfl, .inr ⟨⟨_, hx⟩, q _ H' m' n' hr' fun L zs hL hn => jx_tup (n'.off hL hn fun _ z => by cases z).1 hx rx hr'⟩⟩
  · rename_i e1
    cases ee
    refine ⟨ρ, hs, m, sl, hr, _, _, e1, fun v H' m' n' hr' rv => ?_⟩
    cases rv with
    | fro hx rx => exact ⟨_, rfl, .inl ⟨⟨_, hx.sq⟩, q _ H' m' n' hr' fun L zs hL hn => jx_fro (n'.off hL hn fun _ z => by cases z).1 hx rx hr'⟩⟩
  · rename_i n hs1 e1
    split at ee
    · rename_i ea
      cases ee
      refine ⟨ρ, _, m, sl, hr, _, _, e1, fun v H' m' n' hr' rv => ?_⟩
      cases rv with
      | ref e2 =>
        obtain ⟨xs, hx, rx⟩ := hr'.lst e2 ea
        exact ⟨_, rfl, .inl ⟨⟨_, .of hx⟩, q _ H' m' n' hr' fun L zs hL hn => jx_lst e2 ea⟩⟩
    · cases ee
  · cases ee
theorem mi_rangeX1 (hg : Gl X "range") (hm : X.mg "range" = none) (ha : PA X [a] (TAm (GO X tb) g)) (hs : starEach [a] X.env = [(false, eval a X.env)] := by rfl) : PI X tg (.Call (.Name "range" p) [a] [] pos) (TIX (GO X tb) (mRng1 g)) :=
  PI.imp' (pi_range1 hg hm ha hs) fun σ H R ⟨ρ, hs, m, sl, hr, ds, hs', ee, q⟩ => by
    unfold mRng1 at ee
    split at ee
    · rename_i j hs1 e1
      split at ee
      · rename_i hb
        cases ee
        obtain ⟨b1, b2⟩ := blt_abs hb
        refine ⟨ρ, hs, m, sl, hr, _, _, e1, fun vs H' m' n' hr' rv => ?_⟩
        obtain ⟨v, rfl, rw⟩ := reps1 rv
        obtain rfl := rw.int_inv
        exact ⟨j, rfl, b1, b2, q _ H' m' n' hr' fun L zs hL hn m2 H2 r n2 hr2 => js_rng (m := m2) (hs := []) (H := H2) m2 H2 _ .refl hr2⟩
      · cases ee
    · cases ee
theorem mi_rangeX2 (hg : Gl X "range") (hm : X.mg "range" = none) (ha : PA X [a, b] (TAm (GO X tb) g)) (hs : starEach [a, b] X.env = [(false, eval a X.env), (false, eval b X.env)] := by rfl) (hs2 : starEach [b] X.env = [(false, eval b X.env)] := by rfl) : PI X tg (.Call (.Name "range" p) [a, b] [] pos) (TIX (GO X tb) (mRng2 g)) :=
  PI.imp' (pi_range2 hg hm ha hs hs2) fun σ H R ⟨ρ, hs, m, sl, hr, ds, hs', ee, q⟩ => by
    unfold mRng2 at ee
    split at ee
    · rename_i i j hs1 e1
      split at ee
      · rename_i hb
        rw [Bool.and_eq_true] at hb
        cases ee
        obtain ⟨b1, b2⟩ := blt_abs hb.1
        obtain ⟨b3, b4⟩ := blt_abs hb.2
        refine ⟨ρ, hs, m, sl, hr, _, _, e1, fun vs H' m' n' hr' rv => ?_⟩
        obtain ⟨v, w, rfl, r1, r2⟩ := reps2 rv
        obtain rfl := r1.int_inv
        obtain rfl := r2.int_inv
        exact ⟨i, j, rfl, ⟨b1, b2, b3, b4⟩, q _ H' m' n' hr' fun L zs hL hn m2 H2 r n2 hr2 => js_rng (m := m2) (hs := []) (H := H2) m2 H2 _ .refl hr2⟩
      · cases ee
    · cases ee
end

/-! ### [e for x in xs if .. for y in ys if ..] -/
def lcIn (g : GM) (c : BM) (f : EM) (ρ : En) : List D → Hs → List D → Option (List D × Hs)
  | [], hs, acc => some (acc, hs)
  | d :: ds, hs, acc => match g d ρ with
    | some ρ' => match c ρ' hs with
      | some (true, hs1) => match f ρ' hs1 with
        | some (x, hs2) => lcIn g c f ρ ds hs2 (x :: acc)
        | none => none
      | some (false, hs1) => lcIn g c f ρ ds hs1 acc
      | none => none
    | none => none
def lcOut (g : GM) (c : BM) (s1 : IM) (g1 : GM) (c1 : BM) (f : EM) (vs1 : List Nat) (ρ : En) : List D → Hs → List D → Option (List D × Hs)
  | [], hs, acc => some (acc, hs)
  | d :: ds, hs, acc => match g d ρ with
    | some ρ' => match c ρ' hs with
      | some (true, hs1) => match s1 ρ' hs1 with
        | some (es, hs2) => match lcIn g1 c1 f (wipeE ρ' vs1) es hs2 acc with
          | some (acc', hs3) => lcOut g c s1 g1 c1 f vs1 ρ ds hs3 acc'
          | none => none
        | none => none
      | some (false, hs1) => lcOut g c s1 g1 c1 f vs1 ρ ds hs1 acc
      | none => none
    | none => none
def mLc2 (s : IM) (g : GM) (c : BM) (s1 : IM) (g1 : GM) (c1 : BM) (f : EM) (vs vs1 : List Nat) : EM := fun ρ hs => match s ρ hs with
  | some (ds, hs1) => match lcOut g c s1 g1 c1 f vs1 (wipeE ρ vs) ds hs1 [] with
    | some (xs, hs2) => match cap (xs.length + 1) with
      | true => some (.ref hs2.length, hs2 ++ [.lst xs.reverse])
      | false => none
    | none => none
  | none => none
theorem lcIn_grows {g : GM} {c : BM} {f : EM} [qc : QB c] [qf : QE f] {ρ : En} : ∀ {ds : List D} {hs : Hs} {acc : List D} {r : List D × Hs}, lcIn g c f ρ ds hs acc = some r → Grows hs r.2 ∧ acc.length ≤ r.1.length
  | [], hs, acc, r, h => by cases h; exact ⟨.refl, Nat.le_refl _⟩
  | d :: ds, hs, acc, r, h => by
    unfold lcIn at h
    split at h
    · split at h
      · rename_i e1
        split at h
        · rename_i e2
          obtain ⟨h1, h2⟩ := lcIn_grows h
          exact ⟨((qc.q _ _ _ _ e1).trans (qf.q _ _ _ _ e2)).trans h1, Nat.le_trans (by simp) h2⟩
        · cases h
      · rename_i e1
        obtain ⟨h1, h2⟩ := lcIn_grows h
        exact ⟨(qc.q _ _ _ _ e1).trans h1, h2⟩
      · cases h
    · cases h
theorem lcOut_grows {g : GM} {c : BM} {s1 : IM} {g1 : GM} {c1 : BM} {f : EM} {vs1 : List Nat} [qc : QB c] [qs : QI s1] [qc1 : QB c1] [qf : QE f] {ρ : En} : ∀ {ds : List D} {hs : Hs} {acc : List D} {r : List D × Hs}, lcOut g c s1 g1 c1 f vs1 ρ ds hs acc = some r → Grows hs r.2 ∧ acc.length ≤ r.1.length
  | [], hs, acc, r, h => by cases h; exact ⟨.refl, Nat.le_refl _⟩
  | d :: ds, hs, acc, r, h => by
    unfold lcOut at h
    split at h
    · split at h
      · rename_i e1
        split at h
        · rename_i e2
          split at h
          · rename_i e3
            obtain ⟨h1, h2⟩ := lcIn_grows e3
            obtain ⟨h3, h4⟩ := lcOut_grows h
            exact ⟨(((qc.q _ _ _ _ e1).trans (qs.q _ _ _ _ e2)).trans h1).trans h3, Nat.le_trans h2 h4⟩
          · cases h
        · cases h
      · rename_i e1
        obtain ⟨h1, h2⟩ := lcOut_grows h
        exact ⟨(qc.q _ _ _ _ e1).trans h1, h2⟩
      · cases h
    · cases h
instance {s : IM} {g : GM} {c : BM} {s1 : IM} {g1 : GM} {c1 : BM} {f : EM} {vs vs1 : List Nat} [a : QI s] [qc : QB c] [qs : QI s1] [qc1 : QB c1] [qf : QE f] : QE (mLc2 s g c s1 g1 c1 f vs vs1) := ⟨fun ρ hs d hs' h => by
  unfold mLc2 at h
  split at h
  · rename_i e1
    split at h
    · rename_i e2
      split at h
      · cases h
        exact ((a.q _ _ _ _ e1).trans (lcOut_grows e2).1).trans .one
      · cases h
    · cases h
  · cases h⟩
theorem rev_cons {K : PySem.W.Frag} {H : Hp} {m : List Addr} {acc : List D} {ys : List V} {d : D} {v : V} (r : Reps K H m acc.reverse ys) (q : Rep K H m d v) : Reps K H m (d :: acc).reverse (ys ++ [v]) := by
  rw [List.reverse_cons]
  exact r.append (.cons q .nil)
theorem Reps.mapR {K : PySem.W.Frag} {H H' : Hp} {m m' : List Addr} (f : ∀ d v, Rep K H m d v → Rep K H' m' d v) : ∀ {ds : List D} {vs : List V}, Reps K H m ds vs → Reps K H' m' ds vs
  | _, _, .nil => .nil
  | _, _, .cons r t => .cons (f _ _ r) (Reps.mapR f t)
theorem tm_lc2 {G : GX} {s : IM} {ts vs : List Nat} {g : GM} {c : BM} {s1 : IM} {ts1 vs1 : List Nat} {g1 : GM} {c1 : BM} {f : EM} [qc : QB c] [qs : QI s1] [qc1 : QB c1] [qf : QE f] (hts : ∀ i ∈ ts, i ∈ vs) (hts1 : ∀ i ∈ ts1, i ∈ vs1) {σ : L2.St} {H : Hp} {Q : VK}
    (h : TM G (mLc2 s g c s1 g1 c1 f vs vs1) σ H Q) : tLc2 (TIW G s) (TGM G ts g) (TB G c) (TIX G s1) (TGM G ts1 g1) (TB G c1) (TM G f) vs vs1 σ H Q := by
  obtain ⟨ρ, hs, m, sl, hr, r, hs', ee, q⟩ := h
  unfold mLc2 at ee
  split at ee
  · rename_i ds hs1 e1
    split at ee
    · rename_i xs hs2 eg
      split at ee
      · rename_i hcap
        have hcap := cap_le hcap
        cases ee
        refine ⟨ρ, hs, m, sl, hr, ds, hs1, e1, fun J H1 m1 n1 hr1 jw L hL => ?_⟩
        have sl1 := sl.nx hr n1
        have nL1 : L ∉ m1 := hr1.no_none hL
        refine ⟨fun i k H' => k = ds.length - i ∧ i ≤ ds.length ∧ ∃ m' r acc ys, Nx m1 H1 m' H' ∧ HR G m' (hs1 ++ r) H' ∧ L ∉ m' ∧ H' L = some (.lst ys) ∧ Reps G.K H' m' acc.reverse ys ∧ lcOut g c s1 g1 c1 f vs1 (wipeE ρ vs) (ds.drop i) (hs1 ++ r) acc = some (xs, hs2),
          ⟨ds.length, by simp, Nat.zero_le _, m1, [], [], [], (Nx.refl).aside hL, ?_, nL1, upd_same, .nil, by rw [List.append_nil]; exact eg⟩, ?_⟩
        · rw [List.append_nil]; exact hr1.more hL
        rintro i k H' ⟨rfl, hi, m', t, acc, ys, n', hr', nL, eL, racc, er⟩
        have qj := jw m' H' t n' hr' i
        by_cases hlt : i < ds.length
        · have ed : ds[i]? = some ds[i] := List.getElem?_eq_getElem hlt
          obtain ⟨go, yl⟩ := qj.1 _ ed
          rw [List.drop_eq_getElem_cons hlt] at er
          unfold lcOut at er
          refine .inr ⟨go, fun H'' => ∃ m' r acc ys, Nx m1 H1 m' H'' ∧ HR G m' (hs1 ++ r) H'' ∧ L ∉ m' ∧ H'' L = some (.lst ys) ∧ Reps G.K H'' m' acc.reverse ys ∧ lcOut g c s1 g1 c1 f vs1 (wipeE ρ vs) (ds.drop (i + 1)) (hs1 ++ r) acc = some (xs, hs2),
            fun H'' h => ⟨ds.length - (i + 1), by omega, rfl, hlt, h⟩, fun x H2 y => ?_⟩
          obtain ⟨n2, hr2, rx⟩ := yl x H2 y
          split at er
          · rename_i ρ2 e2
            refine ⟨ds[i], wipeE ρ vs, hs1 ++ t, m', (((sl1.nx hr1 n').nx hr' n2).wipe vs), hr2, rx, ρ2, e2, fun σ2 sl2 off => ?_⟩
            refine ⟨off.wipe hts, ?_⟩
            refine ⟨ρ2, hs1 ++ t, m', sl2, hr2, ?_⟩
            have racc2 := racc.nx hr' n2
            obtain ⟨eL2, _⟩ := n2.off eL nL (fun _ z => by cases z)
            split at er
            · rename_i hs3 e3
              obtain ⟨t3, rfl⟩ := qc.q _ _ _ _ e3
              refine ⟨true, _, e3, fun H3 m3 n3 hr3 => iteT ⟨ρ2, _, m3, sl2.nx hr2 n3, hr3, ?_⟩⟩
              obtain ⟨eL3, nL3⟩ := n3.off eL2 nL (fun _ z => by cases z)
              have racc3 := racc2.nx hr2 n3
              split at er
              · rename_i es hs4 e4
                obtain ⟨t4, rfl⟩ := qs.q _ _ _ _ e4
                split at er
                · rename_i acc' hs5 e5
                  refine ⟨es, _, e4, fun J1 H4 m4 n4 hr4 jx => ?_⟩
                  have jw1 := jx L ys eL3 nL3
                  obtain ⟨eL4, nL4⟩ := n4.off eL3 nL3 (fun _ z => by cases z)
                  have racc4 := racc3.nx hr3 n4
                  have sl4 := (sl2.nx hr2 n3).nx hr3 n4
                  have n04 := ((n'.trans n2).trans n3).trans n4
                  refine ⟨fun j k H5 => k = es.length - j ∧ j ≤ es.length ∧ ∃ m5 r5 acc5 ys5, NxL L m4 H4 m5 H5 ∧ Nx m1 H1 m5 H5 ∧ HR G m5 (hs1 ++ t ++ t3 ++ t4 ++ r5) H5 ∧ L ∉ m5 ∧ H5 L = some (.lst ys5) ∧ Reps G.K H5 m5 acc5.reverse ys5 ∧ lcIn g1 c1 f (wipeE ρ2 vs1) (es.drop j) (hs1 ++ t ++ t3 ++ t4 ++ r5) acc5 = some (acc', hs5),
                    ⟨es.length, by simp, Nat.zero_le _, m4, [], acc, ys, .refl, n04, by rw [List.append_nil]; exact hr4, nL4, eL4, racc4, by rw [List.append_nil]; exact e5⟩, ?_⟩
                  rintro j k H5 ⟨rfl, hj, m5, t5, acc5, ys5, n5, n05, hr5, nL5, eL5, racc5, er5⟩
                  have qj1 := jw1 m5 H5 t5 n5 hr5 j
                  by_cases hlt1 : j < es.length
                  · have ed1 : es[j]? = some es[j] := List.getElem?_eq_getElem hlt1
                    obtain ⟨go1, yl1⟩ := qj1.1 _ ed1
                    rw [List.drop_eq_getElem_cons hlt1] at er5
                    unfold lcIn at er5
                    refine .inr ⟨go1, fun H6 => ∃ m5 r5 acc5 ys5, NxL L m4 H4 m5 H6 ∧ Nx m1 H1 m5 H6 ∧ HR G m5 (hs1 ++ t ++ t3 ++ t4 ++ r5) H6 ∧ L ∉ m5 ∧ H6 L = some (.lst ys5) ∧ Reps G.K H6 m5 acc5.reverse ys5 ∧ lcIn g1 c1 f (wipeE ρ2 vs1) (es.drop (j + 1)) (hs1 ++ t ++ t3 ++ t4 ++ r5) acc5 = some (acc', hs5),
                      fun H6 h => ⟨es.length - (j + 1), by omega, rfl, hlt1, h⟩, fun x1 H6 y1 => ?_⟩
                    obtain ⟨n6, hr6, rx6⟩ := yl1 x1 H6 y1
                    split at er5
                    · rename_i ρ7 e7
                      refine ⟨es[j], wipeE ρ2 vs1, _, m5, (((sl4.nxl hr4 eL4 n5).nx hr5 n6).wipe vs1), hr6, rx6, ρ7, e7, fun σ7 sl7 off7 => ?_⟩
                      refine ⟨off7.wipe hts1, ?_⟩
                      refine ⟨ρ7, _, m5, sl7, hr6, ?_⟩
                      have racc6 := racc5.nx hr5 n6
                      obtain ⟨eL6, _⟩ := n6.off eL5 nL5 (fun _ z => by cases z)
                      split at er5
                      · rename_i hs8 e8
                        obtain ⟨t8, rfl⟩ := qc1.q _ _ _ _ e8
                        refine ⟨true, _, e8, fun H8 m8 n8 hr8 => iteT ⟨ρ7, _, m8, sl7.nx hr6 n8, hr8, ?_⟩⟩
                        split at er5
                        · rename_i x9 hs9 e9
                          obtain ⟨t9, rfl⟩ := qf.q _ _ _ _ e9
                          refine ⟨x9, _, e9, fun yv H9 m9 n9 hr9 ry => ?_⟩
                          obtain ⟨eL9, nL9⟩ := (n8.trans n9).off eL6 nL5 (fun _ z => by cases z)
                          have racc9 := (racc6.nx hr6 n8).nx hr8 n9
                          obtain ⟨hrA, goA⟩ := hr9.asideG (u' := .lst (ys5 ++ [yv])) eL9 nL9 (fun _ z => by cases z) (fun _ _ z => by cases z) (fun _ z => by cases z)
                          have h1L : H1 L = none := hL
                          have len9 := racc9.length
                          rw [List.length_reverse] at len9
                          have g1l := (lcIn_grows er5).2
                          have g2l := (lcOut_grows er).2
                          rw [List.length_cons] at g1l
                          have h4L : H4 L = some (.lst ys) := eL4
                          refine ⟨ys5, eL9, by simp only at g1l g2l; omega, m9, t5 ++ t8 ++ t9, x9 :: acc5, ys5 ++ [yv], ((n5.trans n6).trans (n8.trans n9)).put, ((n05.trans n6).trans (n8.trans n9)).aside hL, ?_, nL9, upd_same, Reps.mapR goA (rev_cons racc9 ry), ?_⟩
                          · have e5 : hs1 ++ t ++ t3 ++ t4 ++ (t5 ++ t8 ++ t9) = hs1 ++ t ++ t3 ++ t4 ++ t5 ++ t8 ++ t9 := by simp only [List.append_assoc]
                            rw [e5]
                            exact hrA
                          · have e5 : hs1 ++ t ++ t3 ++ t4 ++ (t5 ++ t8 ++ t9) = hs1 ++ t ++ t3 ++ t4 ++ t5 ++ t8 ++ t9 := by simp only [List.append_assoc]
                            rw [e5]; exact er5
                        · cases er5
                      · rename_i hs8 e8
                        obtain ⟨t8, rfl⟩ := qc1.q _ _ _ _ e8
                        refine ⟨false, _, e8, fun H8 m8 n8 hr8 => iteF ?_⟩
                        obtain ⟨eL8, nL8⟩ := n8.off eL6 nL5 (fun _ z => by cases z)
                        refine ⟨m8, t5 ++ t8, acc5, ys5, (n5.trans n6).trans n8, (n05.trans n6).trans n8, ?_, nL8, eL8, racc6.nx hr6 n8, ?_⟩
                        · rw [← List.append_assoc]; exact hr8
                        · rw [← List.append_assoc]; exact er5
                      · cases er5
                    · cases er5
                  · have ej : j = es.length := by omega
                    subst ej
                    rw [List.drop_length] at er5
                    cases er5
                    refine .inl ⟨qj1.2 (Nat.le_refl _), m5, t ++ t3 ++ t4 ++ t5, acc', ys5, n05, ?_, nL5, eL5, racc5, ?_⟩
                    · have e5 : hs1 ++ (t ++ t3 ++ t4 ++ t5) = hs1 ++ t ++ t3 ++ t4 ++ t5 := by simp only [List.append_assoc]
                      rw [e5]; exact hr5
                    · have e5 : hs1 ++ (t ++ t3 ++ t4 ++ t5) = hs1 ++ t ++ t3 ++ t4 ++ t5 := by simp only [List.append_assoc]
                      rw [e5]; exact er
                · cases er
              · cases er
            · rename_i hs3 e3
              obtain ⟨t3, rfl⟩ := qc.q _ _ _ _ e3
              refine ⟨false, _, e3, fun H3 m3 n3 hr3 => iteF ?_⟩
              obtain ⟨eL3, nL3⟩ := n3.off eL2 nL (fun _ z => by cases z)
              refine ⟨m3, t ++ t3, acc, ys, (n'.trans n2).trans n3, ?_, nL3, eL3, racc2.nx hr2 n3, ?_⟩
              · rw [← List.append_assoc]; exact hr3
              · rw [← List.append_assoc]; exact er
            · cases er
          · cases er
        · have ei : i = ds.length := by omega
          subst ei
          rw [List.drop_length] at er
          cases er
          refine .inl ⟨qj.2 (Nat.le_refl _), ?_⟩
          have h0 : H L = none := by
            cases z : H L with
            | none => rfl
            | some o => exact absurd hL (n1.there L (by rw [z]; simp))
          exact q _ H' (m' ++ [L]) ((n1.trans n').told h0) (hr'.adoptO nL ⟨ys, eL, racc⟩) (Rep.last hr')
      · cases ee
    · cases ee
  · cases ee

section
variable {X : Cx} {tb : List Addr} {elt tg iter tg1 iter1 : Expr} {ifs ifs1 : List Expr} {scope : Scope} {own : List (Str × Nat)} {pos : Pos} {s s1 : IM} {ts ts1 vs1 : List Nat} {g g1 : GM} {c c1 : BM} {f : EM}
theorem m_lc2 [qc : QB c] [qs : QI s1] [qc1 : QB c1] [qf : QE f] (hc : X.calm = true) (hN : X.N.Nodup) (hi : PI X tg iter (TIW (GO X tb) s)) (ok : BlkOk X.N X.env.scope scope own)
    (hg : ∀ (s : Shared) (H : Hp) (C : Addr) (cl : List (Str × Addr)) (fp : List Addr), PG (X.blk s H scope (compEnvC scope cl C X.env) fp) tg (TGM (GO X tb) ts g)) (ht : ∀ (s : Shared) (H : Hp) (C : Addr) (cl : List (Str × Addr)) (fp : List Addr), PTs (X.blk s H scope (compEnvC scope cl C X.env) fp) ifs (TB (GO X tb) c))
    (hi1 : ∀ (s : Shared) (H : Hp) (C : Addr) (cl : List (Str × Addr)) (fp : List Addr), PI (X.blk s H scope (compEnvC scope cl C X.env) fp) tg1 iter1 (TIX (GO X tb) s1))
    (hg1 : ∀ (s : Shared) (H : Hp) (C : Addr) (cl : List (Str × Addr)) (fp : List Addr), PG (X.blk s H scope (compEnvC scope cl C X.env) fp) tg1 (TGM (GO X tb) ts1 g1)) (ht1 : ∀ (s : Shared) (H : Hp) (C : Addr) (cl : List (Str × Addr)) (fp : List Addr), PTs (X.blk s H scope (compEnvC scope cl C X.env) fp) ifs1 (TB (GO X tb) c1))
    (he : ∀ (s : Shared) (H : Hp) (C : Addr) (cl : List (Str × Addr)) (fp : List Addr), PE (X.blk s H scope (compEnvC scope cl C X.env) fp) elt (TM (GO X tb) f)) (hts : ∀ i ∈ ts, i ∈ own.map (·.2) := by decide) (hts1 : ∀ i ∈ ts1, i ∈ vs1 := by decide) (hv : ∀ i ∈ vs1, i ∈ own.map (·.2) := by decide)
    (hs : ∀ x, foldedSetIterable iter X.env x = pure x := by intro _; rfl) (hs1 : ∀ env x, foldedSetIterable iter1 env x = pure x := by intro _ _; rfl) :
    PE X (.ListComp elt [⟨tg, iter, ifs, 0⟩, ⟨tg1, iter1, ifs1, 0⟩] scope pos) (TM (GO X tb) (mLc2 s g c s1 g1 c1 f (own.map (·.2)) vs1)) :=
  (pe_lc2 hc hN hi ok hv hg ht hi1 hg1 ht1 he hs hs1).imp fun _ _ _ => tm_lc2 hts hts1
theorem ms_setLc2 [qc : QB c] [qs : QI s1] [qc1 : QB c1] [qf : QE f] {i : Nat} {y : Str} {py spos : Pos} (hc : X.calm = true) (hN : X.N.Nodup) (hy : X.N[i]? = some y) (hyl : X.env.scope.names.lookup y = some .local)
    (hsw : swapsWith (.ListComp elt [⟨tg, iter, ifs, 0⟩, ⟨tg1, iter1, ifs1, 0⟩] scope pos) (some (.Name y py)) spos.line X.env = pure true) (hi : PI X tg iter (TIW (GO X tb) s)) (ok : BlkOk X.N X.env.scope scope own)
    (hg : ∀ (s : Shared) (H : Hp) (C : Addr) (cl : List (Str × Addr)) (fp : List Addr), PG (X.blk s H scope (compEnvC scope cl C X.env) fp) tg (TGM (GO X tb) ts g)) (ht : ∀ (s : Shared) (H : Hp) (C : Addr) (cl : List (Str × Addr)) (fp : List Addr), PTs (X.blk s H scope (compEnvC scope cl C X.env) fp) ifs (TB (GO X tb) c))
    (hi1 : ∀ (s : Shared) (H : Hp) (C : Addr) (cl : List (Str × Addr)) (fp : List Addr), PI (X.blk s H scope (compEnvC scope cl C X.env) fp) tg1 iter1 (TIX (GO X tb) s1))
    (hg1 : ∀ (s : Shared) (H : Hp) (C : Addr) (cl : List (Str × Addr)) (fp : List Addr), PG (X.blk s H scope (compEnvC scope cl C X.env) fp) tg1 (TGM (GO X tb) ts1 g1)) (ht1 : ∀ (s : Shared) (H : Hp) (C : Addr) (cl : List (Str × Addr)) (fp : List Addr), PTs (X.blk s H scope (compEnvC scope cl C X.env) fp) ifs1 (TB (GO X tb) c1))
    (he : ∀ (s : Shared) (H : Hp) (C : Addr) (cl : List (Str × Addr)) (fp : List Addr), PE (X.blk s H scope (compEnvC scope cl C X.env) fp) elt (TM (GO X tb) f)) (hts : ∀ i ∈ ts, i ∈ own.map (·.2) := by decide) (hts1 : ∀ i ∈ ts1, i ∈ vs1 := by decide) (hv : ∀ i ∈ vs1, i ∈ own.map (·.2) := by decide)
    (hs : ∀ x, foldedSetIterable iter X.env x = pure x := by intro _; rfl) (hs1 : ∀ env x, foldedSetIterable iter1 env x = pure x := by intro _ _; rfl) :
    PS X (.Assign [.Name y py] (.ListComp elt [⟨tg, iter, ifs, 0⟩, ⟨tg1, iter1, ifs1, 0⟩] scope pos) spos) (TSM (GO X tb) (mSet i (mLc2 s g c s1 g1 c1 f (own.map (·.2)) vs1))) := by
  refine (ps_setLc2 hc hN hy hyl hsw hi ok hv hg ht hi1 hg1 ht1 he hs hs1).imp fun D σ H ⟨ρ, hs, m, sl, hr, r, ee, q⟩ => ?_
  unfold mSet at ee
  split at ee
  · rename_i d hs' e'
    cases ee
    exact tm_lc2 hts hts1 ⟨ρ, hs, m, sl, hr, d, hs', e', fun v H' m' n' hr' rv => q _ H' m' n' hr' ((sl.nx hr n').set rv i)⟩
  · cases ee
end
end Mir

/-! MirN: what the top tells, defs by names. -/
namespace Mir
open PySem PySem.Spec PyProof.Rows L2

theorem _root_.L2.Room.u1 {k : Nat} {A : Around} (r : Room k A) : A.units + 1 < cLine := by have := r.un; omega
theorem _root_.L2.Room.u64 {k : Nat} {A : Around} (r : Room k A) : A.units + 64 < cLine := by have := r.un; omega
theorem _root_.L2.Room.u65 {k : Nat} {A : Around} (r : Room k A) : A.units + 65 < cLine := by have := r.un; omega

/-- what the top has left: fa facts, fn defs, tf the defs whose tables are empty -/
structure Tp (fa : List He.Fa) (fn : List He.DefD) (tf : List He.Defn) (w : World) (K : PySem.W.Frag) (mg : Str → Option Value) (base h : Heap) : Prop where
  X : K.In base
  G : base.Ns mainGlobals mg
  c : He.SaysX fa fn [] tf (fun _ => true) w h K
  TB : ∀ p ∈ tf.map (He.cT K), LamX.TabB base mg p.1 p.2
/-- the tables -/
def tbs (tf : List He.Defn) (K : PySem.W.Frag) : List Addr := (tf.map (He.cT K)).map (·.2)
section
variable {fa : List He.Fa} {fn : List He.DefD} {tf : List He.Defn} {w : World} {K : PySem.W.Frag} {mg : Str → Option Value} {base h : Heap}
theorem Tp.free (T : Tp fa fn tf w K mg base h) {x : Str} (i : Nat) (e : fa[i]? = some (.free x) := by rfl) : mg x = none := He.free_ok T.X T.G (T.c.t.d.fact i e)
theorem Tp.glo (T : Tp fa fn tf w K mg base h) {x : Str} (i : Nat) (e : fa[i]? = some (.glo x) := by rfl) : mg x = some (.ref (He.ga K x)) := He.glo_ok T.X T.G (T.c.t.d.fact i e)
theorem Tp.int (T : Tp fa fn tf w K mg base h) {x : Str} {z : Int} (i : Nat) (e : fa[i]? = some (.int x z) := by rfl) : ∃ t, mg x = some (.int z t) := He.int_ok T.X T.G (T.c.t.d.fact i e)
theorem Tp.str (T : Tp fa fn tf w K mg base h) {x z : Str} (i : Nat) (e : fa[i]? = some (.str x z) := by rfl) : ∃ t, mg x = some (.str z t) := He.str_ok T.X T.G (T.c.t.d.fact i e)
theorem Tp.tab (T : Tp fa fn tf w K mg base h) {p : He.Defn} (i : Nat) (e : tf[i]? = some p := by rfl) : GxR.TabB base mg (He.codeOf K p) (He.tabOf K (He.codeOf K p)) := by
  have t := T.TB (He.cT K p) (List.mem_map.mpr ⟨p, List.mem_of_getElem? e, rfl⟩)
  exact ⟨t.code, t.bm, t.gP⟩
theorem tab_mem {p : He.Defn} (i : Nat) (e : tf[i]? = some p := by rfl) : He.tabOf K (He.codeOf K p) ∈ tbs tf K := List.mem_map.mpr ⟨He.cT K p, List.mem_map.mpr ⟨p, List.mem_of_getElem? e, rfl⟩, rfl⟩
end
/-- a def as data -/
abbrev mkD (st : Stmt) (x : Str) : He.DefD := ⟨(x, none), x, x, defArgs st, defBody st, defScope st, [], []⟩
/-- the def named x keeps the promise told by F -/
structure OkF (P : Program) (w : World) (K : PySem.W.Frag) (mg : Str → Option Value) (base : Heap) (tb : List Addr) (k : Nat) (x : Str) (ps : List Str) (n : Nat) (F : FM) : Prop where
  ex : ∃ fd, FnOk P w K mg base CX0 k (He.fAd K (x, none)) fd ps (spM ⟨K, tb⟩ n F) ∧ Binds K fd ps [] ∧ PySem.W.keepIn K (.ref (He.fAd K (x, none))) = true
  mg : mg x = some (.ref (He.fAd K (x, none)))
theorem OkF.pure {P : Program} {w : World} {K : PySem.W.Frag} {mg : Str → Option Value} {base : Heap} {tb : List Addr} {k : Nat} {x : Str} {ps : List Str} {n : Nat} {F : FM} (o : OkF P w K mg base tb k x ps n F) : OkF P w K mg base tb k x ps n (FP F) := by
  obtain ⟨fd, h, r⟩ := o.ex
  exact ⟨⟨fd, h.imp fun _ _ _ _ z => spM_FP z, r⟩, o.mg⟩
theorem OkF.same {P : Program} {w : World} {K : PySem.W.Frag} {mg : Str → Option Value} {base : Heap} {tb : List Addr} {k : Nat} {x : Str} {ps : List Str} {n : Nat} {F : FM} (o : OkF P w K mg base tb k x ps n F) : OkF P w K mg base tb k x ps n F := o
/-- a simpler function that promises no more -/
theorem OkF.than {P : Program} {w : World} {K : PySem.W.Frag} {mg : Str → Option Value} {base : Heap} {tb : List Addr} {k : Nat} {x : Str} {ps : List Str} {n : Nat} {F F' : FM} (o : OkF P w K mg base tb k x ps n F) (h : ∀ ds hs r, ds.length = n → F' ds hs = some r → F ds hs = some r) : OkF P w K mg base tb k x ps n F' := by
  obtain ⟨fd, q, r⟩ := o.ex
  refine ⟨⟨fd, q.imp fun vs H Q E ⟨hl, ds, hs, m, hr, rp, d, hs', e, z⟩ => ⟨hl, ds, hs, m, hr, rp, d, hs', h _ _ _ (by rw [rp.length]; exact hl) e, z⟩, r⟩, o.mg⟩
abbrev DX (P : Program) (w : World) (K : PySem.W.Frag) (mg : Str → Option Value) (base : Heap) (N : List Str) (st : Stmt) (x : Str) (A : Around) (outer : List Env) (s : Shared) (H : Hp) (E : XK) : Cx :=
  (cxOf CX0 P w K mg base N x (defScope st) (He.fAd K (x, none)) (.ref (He.codeOf K (x, none))) A outer s H E).nox
theorem OkF.of {fa : List He.Fa} {fn : List He.DefD} {tf : List He.Defn} {P : Program} {w : World} {K : PySem.W.Frag} {mg : Str → Option Value} {base h : Heap} {st : Stmt} {x : Str} {N ps : List Str} {k n j : Nat} {f : SM} (T : Tp fa fn tf w K mg base h)
    (i i2 : Nat) (hd : fn[i]? = some (mkD st x)) (hgl : fa[i2]? = some (.glo x)) (S : FnScope N ps (defScope st)) (hp : ps.length = n) (hN : N.length = n + j)
    (hbind : ∀ (kV doc pm : Value) (an : Option Addr) (cdv ct : Value) (us : List Value), us.length = ps.length → bindArgs (PySem.W.fnOf x x (defArgs st) (defBody st) (defScope st) .none kV doc pm an cdv ct) ⟨us, []⟩ = Pure.pure (ps.zip us))
    (hb : ∀ (A : Around) (outer : List Env) (s : Shared) (H : Hp) (E : XK), Room k (DX P w K mg base N st x A outer s H E).A → PSs (DX P w K mg base N st x A outer s H E) (defBody st) (TSM ⟨K, tbs tf K⟩ f)) :
    OkF P w K mg base (tbs tf K) (k + 1) x ps n (mBody f j) := by
  obtain ⟨fd, F⟩ := T.c.t.d.def_ i hd
  exact ⟨⟨fd, fun_okM (p := (x, none)) F S hp hN hb, FunD.bindsN F hbind, F.kp⟩, T.glo i2 hgl⟩
section
variable {X : Cx} {tb : List Addr} {k n : Nat} {ps : List Str} {F : FM} {g : AM} {x : Str} {p pos : Pos} {e : Expr} {es : List Expr}
theorem m_callO {a : Nat} [AN g a] (O : OkF X.prog X.w X.K X.mg X.base tb k x ps a F) (hr : Room k X.A) (hg : Gl X x) (ha : PA X (e :: es) (TAm (GO X tb) g)) (hdb : (x == ("__debug__" : Str)) = false := by decide)
    (he : starEach (e :: es) X.env = (false, eval e X.env) :: starEach es X.env := by rfl) (hpl : (backTo pos (starEach es X.env)).any (·.1) = false := by rfl) :
    PE X (.Call (.Name x p) (e :: es) [] pos) (TM (GO X tb) (mCall F g)) := by
  obtain ⟨fd, FO, hb, hk⟩ := O.ex
  exact m_call FO hr hg O.mg hk hb ha hdb he hpl
theorem m_gint {G : GX} {z : Int} (hg : Gl X x) (hm : ∃ t, X.mg x = some (.int z t)) (hd : (x == ("__debug__" : Str)) = false := by decide) : PE X (.Name x pos) (TM G (mC (.int z))) := by
  obtain ⟨t, ht⟩ := hm
  exact m_glob hg ht (v := .int z) ⟨t, rfl⟩ (fun _ _ => .int z) hd
theorem m_gstr {G : GX} {z : Str} (hg : Gl X x) (hm : ∃ t, X.mg x = some (.str z t)) (hd : (x == ("__debug__" : Str)) = false := by decide) : PE X (.Name x pos) (TM G (mC (.str z))) := by
  obtain ⟨t, ht⟩ := hm
  exact m_glob hg ht (v := .str z) ⟨t, rfl⟩ (fun _ _ => .str z) hd
end
end Mir

/-! MirO: the end of a law by its mirror. -/
namespace Mir
open PySem PySem.Spec PyProof.Rows L2
theorem reps_ints {K : PySem.W.Frag} {H : Hp} {m : List Addr} : ∀ ns : List Int, Reps K H m (ns.map D.int) (ns.map V.int)
  | [] => .nil
  | n :: ns => .cons (.int n) (reps_ints ns)
/-! ### a body in pieces -/
def TSK (G : GX) (f : SM) (t : TS) : TS := fun D σ H => TSM G f { D with nx := fun σ' H' => t D σ' H' } σ H
section
variable {X : Cx} {G : GX} {st : Stmt} {rest : List Stmt} {f g : SM} {t : TS}
theorem mk_one (h : PS X st (TSM G f)) (r : PSs X rest t) : PSs X (st :: rest) (TSK G f t) := (pss_cons h r).imp fun D σ H q => q
theorem mk_cons (h : PS X st (TSM G f)) (r : PSs X rest (TSK G g t)) : PSs X (st :: rest) (TSK G (mSeq f g) t) := (pss_cons h r).imp fun D σ H q => by
  obtain ⟨ρ, hs, m, sl, hr, r, e, q⟩ := q
  unfold mSeq at e
  split at e
  · rename_i ρ' hs' e'
    exact ⟨ρ, hs, m, sl, hr, _, e', fun σ' H' m' n' hr' sl' => ⟨ρ', hs', m', sl', hr', r, e, q.nx n'⟩⟩
  · rename_i r' hn e'
    cases e
    refine ⟨ρ, hs, m, sl, hr, _, e', ?_⟩
    cases r with
    | nx ρ1 hs1 => exact absurd e' (fun z => hn _ _ rfl)
    | ret d hs1 => exact q
    | bk ρ1 hs1 => exact q
    | ct ρ1 hs1 => exact q
  · cases e
end
/-- forgotten: all slots but those of vs, the heap -/
def keepE : En → List Nat → Nat → En
  | [], _, _ => []
  | x :: r, vs, n => (match vs.contains n with | true => x | false => none) :: keepE r vs (n + 1)
theorem keepE_len : ∀ (ρ : En) (vs : List Nat) (n : Nat), (keepE ρ vs n).length = ρ.length
  | [], _, _ => rfl
  | _ :: r, vs, n => congrArg (· + 1) (keepE_len r vs (n + 1))
theorem SL.weaken {G : GX} {H : Hp} {m m' : List Addr} {ρ ρ' : En} {σ : L2.St} (s : SL G H m ρ σ) (hl : ρ'.length = ρ.length) (h : ∀ (i : Nat) (d : D), ρ'[i]? = some (some d) → ∃ d0, ρ[i]? = some (some d0) ∧ ∀ v, Rep G.K H m d0 v → Rep G.K H m' d v) : SL G H m' ρ' σ :=
  ⟨hl.trans s.len, fun i d e => by
    obtain ⟨d0, e0, f⟩ := h i d e
    obtain ⟨v, h1, h2⟩ := s.at_ i d0 e0
    exact ⟨v, h1, f v h2⟩⟩
theorem HR.none {G : GX} {H : Hp} {m : List Addr} {hs : Hs} (hr : HR G m hs H) : HR G [] [] H := ⟨rfl, .nil, fun i a o z => by simp at z, hr.tab⟩
/-- one list is kept -/
theorem HR.only {G : GX} {H : Hp} {m : List Addr} {hs : Hs} {j : Nat} {ns : List Int} (hr : HR G m hs H) (e : at? hs j = some (.lst (ns.map D.int))) : ∃ a, m[j]? = some a ∧ HR G [a] [.lst (ns.map D.int)] H := by
  have e' := e
  rw [at?_eq] at e'
  obtain ⟨h1, _⟩ := List.getElem?_eq_some_iff.mp e'
  have h2 : j < m.length := by rw [hr.len]; exact h1
  have ea : m[j]? = some m[j] := List.getElem?_eq_getElem h2
  refine ⟨m[j], ea, rfl, by simp, fun i a o e1 e2 => ?_, hr.tab⟩
  cases i with
  | zero =>
    simp only [List.getElem?_cons_zero, Option.some.injEq] at e1 e2
    subst e1; subst e2
    obtain ⟨xs, hx, rx⟩ := hr.lst ea e
    rw [rx.ints] at hx
    exact ⟨_, hx, reps_ints ns⟩
  | succ i => simp at e1
/-- the law's promise: the script as it may lie; the answer is True -/
def spLaw (G : GX) : Sp := fun vs H Q _ => ∃ (d : D) (hs : Hs) (m : List Addr) (ns : List Int), ((d = .fro (ns.map D.int) ∧ hs = []) ∨ (d = .ref 0 ∧ hs = [.lst (ns.map D.int)])) ∧ HR G m hs H ∧ Reps G.K H m [d] vs ∧ ns.length ≤ 63 ∧ (∀ z ∈ ns, Builtin.Int.intBits z ≤ 1048576) ∧ ∀ H', Q (.bl true) H'
theorem fun_okL {P : Program} {w : World} {K : PySem.W.Frag} {mg : Str → Option Value} {base : Heap} {st : Stmt} {x : Str} {fd : FuncData} {N : List Str} {y : Str} {k j : Nat} {t : TS} {tb : List Addr}
    (F : FunD K x x (defArgs st) (defBody st) (defScope st) [] [] (He.fAd K (x, none)) fd) (S : FnScope N [y] (defScope st)) (hN : N.length = 1 + j)
    (hb : ∀ (A : Around) (outer : List Env) (s : Shared) (H : Hp) (E : XK), Room k (DX P w K mg base N st x A outer s H E).A → PSs (DX P w K mg base N st x A outer s H E) (defBody st) t)
    (ht : ∀ (W : Ends) (σ : L2.St) (H : Hp) (d : D) (hs : Hs) (m : List Addr) (ns : List Int), ((d = .fro (ns.map D.int) ∧ hs = []) ∨ (d = .ref 0 ∧ hs = [.lst (ns.map D.int)])) → ns.length ≤ 63 → (∀ z ∈ ns, Builtin.Int.intBits z ≤ 1048576) → HR ⟨K, tb⟩ m hs H → SL ⟨K, tb⟩ H m (some d :: List.replicate j none) σ → (∀ H', W.rt (.bl true) H') → t W σ H) :
    FnOk P w K mg base CX0 (k + 1) (He.fAd K (x, none)) fd [y] (spLaw ⟨K, tb⟩) := by
  obtain ⟨oc, od, dV, kV, doc, pm, an, cdv, ct, osl, rfl, lk, hcd, _⟩ := F.ex
  obtain ⟨c, rfl⟩ := He.codeIn_ref hcd
  have ec : He.codeOf K (x, none) = c := He.codeOf_eq lk rfl
  rw [show DX P w K mg base N st x = fun A outer s H E => (cxOf CX0 P w K mg base N x (defScope st) (He.fAd K (x, none)) (.ref (He.codeOf K (x, none))) A outer s H E).nox from rfl, ec] at hb
  refine fn_of lk hcd S (fun vs H Q E h => ?_) fun A outer s H vs Q E hr hsp => ⟨_, (hb A outer s H E hr).nox, ?_⟩
  · obtain ⟨d, hs, m, ns, _, _, r, _⟩ := h
    rw [← r.length]; rfl
  · obtain ⟨d, hs, m, ns, hd, h1, r, h3, h4, q⟩ := hsp
    obtain ⟨v, rfl, rv⟩ := reps1 r
    refine ht _ _ H d hs m ns hd h3 h4 h1 ⟨?_, fun i d' e => ?_⟩ q
    · unfold L2.start
      simp only [List.length_cons, List.length_replicate, List.length_append, List.length_map, List.length_nil]
      try omega
    · cases i with
      | zero =>
        simp only [List.getElem?_cons_zero, Option.some.injEq] at e
        subst e
        exact ⟨v, rfl, rv⟩
      | succ i =>
        rw [List.getElem?_cons_succ, List.getElem?_replicate] at e
        split at e <;> cases e
theorem law_at {l : PySem.W.OpenLaw} {fa : List He.Fa} {fn : List He.DefD} {tf : List He.Defn} {w : World} {K : PySem.W.Frag} {mg : Str → Option Value} {fa0 : Addr} {h : Heap} {st : Stmt} {k : Nat} (KX : K.In h) (G : h.Ns mainGlobals mg) (hmg : mg "law" = some (.ref fa0))
    (c : He.SaysX fa fn [] tf (fun _ => true) w h K) (i i2 : Nat) (hd : fn[i]? = some (mkD st "law")) (hgl : fa[i2]? = some (.glo "law"))
    (hbind : ∀ (kV doc pm : Value) (an : Option Addr) (cdv ct : Value) (us : List Value), us.length = (["script"] : List Str).length → bindArgs (PySem.W.fnOf "law" "law" (defArgs st) (defBody st) (defScope st) .none kV doc pm an cdv ct) ⟨us, []⟩ = Pure.pure ((["script"] : List Str).zip us))
    (hF : ∀ (base : Heap) (fd : FuncData), Tp fa fn tf w K mg base h → FunD K "law" "law" (defArgs st) (defBody st) (defScope st) [] [] (He.fAd K ("law", none)) fd → FnOk l.prog w K mg base CX0 k (He.fAd K ("law", none)) fd ["script"] (spLaw ⟨K, tbs tf K⟩)) :
    LamX.LawAtS l w K CX0 k 63 "script" mg fa0 h := by
  obtain ⟨fd, FD⟩ := c.t.d.def_ i hd
  have e := hmg.symm.trans (He.glo_ok KX G (c.t.d.fact i2 hgl))
  have e0 : fa0 = He.ga K "law" := Value.ref.inj (Option.some.inj e)
  subst e0
  refine ⟨fd, tf.map (He.cT K), spLaw ⟨K, tbs tf K⟩, fun p hp => ?_, fun p hp => ?_, fun p hp => ?_, fun s u => FunD.bindsA FD hbind s [u] rfl, fun H a ns hl hb hT hS => ?_, fun base X' G' TB => ?_⟩
  · obtain ⟨q, hq, rfl⟩ := List.mem_map.mp hp
    exact c.empty q hq
  · obtain ⟨q, hq, rfl⟩ := List.mem_map.mp hp
    exact c.out q hq
  · obtain ⟨q, hq, rfl⟩ := List.mem_map.mp hp
    exact PySem.W.codeHd_of_K KX (c.hd q hq)
  · have tab : ∀ P ∈ tbs tf K, TabG H P := fun P hP => by
      obtain ⟨p, hp, rfl⟩ := List.mem_map.mp hP
      exact ⟨#[], hT p hp, trivial⟩
    have fro : ∀ (z : FrL K H a (ns.map V.int)), spLaw ⟨K, tbs tf K⟩ [.ref a] H (fun v _ => v = .bl true) fun _ _ _ => False := fun z =>
      ⟨_, [], [], ns, .inl ⟨rfl, rfl⟩, ⟨rfl, .nil, fun i a o z => by simp at z, tab⟩, .cons (.fro z (reps_ints ns)) .nil, hl, hb, fun _ => rfl⟩
    rcases hS with (z | z) | z
    · refine ⟨_, _, [a], ns, .inr ⟨rfl, rfl⟩, ⟨rfl, by simp, fun i b o e1 e2 => ?_, tab⟩, .cons (.ref rfl) .nil, hl, hb, fun _ => rfl⟩
      cases i with
      | zero =>
        simp only [List.getElem?_cons_zero, Option.some.injEq] at e1 e2
        subst e1; subst e2
        exact ⟨_, z, reps_ints ns⟩
      | succ i => simp at e1
    · exact fro (.inl z)
    · exact fro (.inr z)
  · exact hF base fd ⟨X', G', c, TB⟩ FD
end Mir

/-! MirP: the cell and the draws of every law. -/
namespace Mir
open PySem PySem.Spec PyProof.Rows L2

def cellM : SM := (mSeq (mIfS (mTest (mBin ltD (mVar 1) (mCall lenL (mCons (mVar 0) mNil)))) (mRet (mBin ixF (mVar 0) (mVar 1))) mNext) (mRet (mC (.int 0))))
def drawB : SM := (mSeq (mSet 5 (mBin modD (mCall int1 (mCons (mBin addD (mBin addD (mBin mulI (mVar 0) (mC (.int 48271))) (mBin mulI (mVar 4) (mC (.int 69621)))) (mC (.int 1))) mNil)) (mC (.int 2147483647)))) (mIfS (mTest (mBin geD (mVar 0) (mBin powD (mC (.int 10)) (mC (.int 18))))) (mSeq (mDrop (mApp (mVar 2) (mBin modD (mVar 3) (mC (.int 1009))))) (mSet 3 (mBin fdivD (mVar 3) (mC (.int 1009))))) (mDrop (mApp (mVar 2) (mBin fdivD (mBin modD (mCall int1 (mCons (mBin addD (mBin mulI (mVar 5) (mVar 5)) (mBin mulI (mVar 5) (mC (.int 40692)))) mNil)) (mC (.int 2147483399))) (mC (.int 7)))))))
def drawsM : SM := (mSeq (mSet 2 (mLst mNil)) (mSeq (mSet 3 (mCall int1 (mCons (mVar 0) mNil))) (mSeq (mFor (mRng1 (mCons (mVar 1) mNil)) (setN 4) drawB) (mRet (mVar 2)))))
theorem mulI_ok {i j : Int} {hs : Hs} (h : i.natAbs.log2 + j.natAbs.log2 ≤ 134217000) : mulI (.int i) (.int j) hs = some (.int (i * j), hs) := by
  show (if Nat.ble (i.natAbs.log2 + j.natAbs.log2) 134217000 = true then some (D.int (i * j), hs) else none) = _
  rw [if_pos (Nat.ble_eq_true_of_le h)]
theorem log2_small {i : Int} {b : Nat} (h0 : 0 < b) (h : i.natAbs < 2 ^ b) : i.natAbs.log2 < b := PySem.Flt.log2_lt_of h0 h
theorem bits_log {z : Int} (h : Builtin.Int.intBits z ≤ 1048576) : z.natAbs.log2 ≤ 1048576 := by
  unfold Builtin.Int.intBits at h
  split at h
  · rename_i e
    have e := eq_of_beq e
    subst e
    decide
  · omega
theorem draw_step {cell cnt rest k : Int} {x : Option D} {l : List D} (hb : Builtin.Int.intBits cell ≤ 1048576) (h0 : 0 ≤ k) (h1 : k < 1000) (hl : l.length < 1000) :
    ∃ v rest' mixed : Int, drawB [some (.int cell), some (.int cnt), some (.ref 0), some (.int rest), some (.int k), x] [.lst l] = some (.nx [some (.int cell), some (.int cnt), some (.ref 0), some (.int rest'), some (.int k), some (.int mixed)] [.lst (l ++ [.int v])]) := by
  have hc : cap (l.length + 1) = true := Nat.ble_eq_true_of_le (by omega)
  have e1 : mulI (.int cell) (.int 48271) [.lst l] = some (.int (cell * 48271), [.lst l]) := mulI_ok (by
    have a := bits_log hb
    have b : (48271 : Int).natAbs.log2 ≤ 16 := by decide
    omega)
  have e2 : mulI (.int k) (.int 69621) [.lst l] = some (.int (k * 69621), [.lst l]) := mulI_ok (by
    have a := log2_small (i := k) (b := 10) (by omega) (by omega)
    have b : (69621 : Int).natAbs.log2 ≤ 17 := by decide
    omega)
  have hm0 : 0 ≤ (cell * 48271 + k * 69621 + 1) % 2147483647 := Int.emod_nonneg _ (by omega)
  have hm1 : (cell * 48271 + k * 69621 + 1) % 2147483647 < 2147483647 := Int.emod_lt_of_pos _ (by omega)
  generalize hmx : (cell * 48271 + k * 69621 + 1) % 2147483647 = mixed at hm0 hm1
  have lg := log2_small (i := mixed) (b := 31) (by omega) (by omega)
  have e3 : mulI (.int mixed) (.int mixed) [.lst l] = some (.int (mixed * mixed), [.lst l]) := mulI_ok (by omega)
  have e4 : mulI (.int mixed) (.int 40692) [.lst l] = some (.int (mixed * 40692), [.lst l]) := mulI_ok (by
    have b : (40692 : Int).natAbs.log2 ≤ 16 := by decide
    omega)
  have ep : powD (.int 10) (.int 18) [.lst l] = some (.int (10 ^ 18), [.lst l]) := rfl
  have em : ∀ z : Int, modD (.int z) (.int 2147483647) [.lst l] = some (.int (z % 2147483647), [.lst l]) := fun _ => rfl
  have em2 : ∀ z : Int, modD (.int z) (.int 2147483399) [.lst l] = some (.int (z % 2147483399), [.lst l]) := fun _ => rfl
  have em3 : ∀ (z : Int) (hs : Hs), modD (.int z) (.int 1009) hs = some (.int (z % 1009), hs) := fun _ _ => rfl
  have ed : ∀ z : Int, fdivD (.int z) (.int 7) [.lst l] = some (.int (z / 7), [.lst l]) := fun z => by
    show (if Nat.blt (Nat.log2 (6 + 1)) 9000 = true then some (D.int (z / Int.ofNat (6 + 1)), [O.lst l]) else none) = _
    rw [if_pos (by decide)]
    rfl
  have ed3 : ∀ (z : Int) (hs : Hs), fdivD (.int z) (.int 1009) hs = some (.int (z / 1009), hs) := fun z hs => by
    show (if Nat.blt (Nat.log2 (1008 + 1)) 9000 = true then some (D.int (z / Int.ofNat (1008 + 1)), hs) else none) = _
    rw [if_pos (by decide)]
    rfl
  have ea : ∀ (i j : Int) (hs : Hs), addD (.int i) (.int j) hs = some (.int (i + j), hs) := fun _ _ _ => rfl
  have eg : ∀ (i j : Int) (hs : Hs), geD (.int i) (.int j) hs = some (.bl (decide (j ≤ i)), hs) := fun _ _ _ => rfl
  unfold drawB
  simp only [mSeq, mSet, mBin, mVar, mC, at?, mCall, mCons, mNil, int1, e1, e2, ea, em, hmx, put, mIfS, mTest, ep, eg]
  by_cases hc2 : (10 : Int) ^ 18 ≤ cell
  · simp only [decide_eq_true hc2, mDrop, mApp, mBin, mVar, mC, at?, em3, hc, ed3, put]
    exact ⟨_, _, _, rfl⟩
  · simp only [decide_eq_false hc2, mDrop, mApp, mBin, mVar, mC, mCall, mCons, mNil, int1, at?, e3, e4, ea, em2, ed, hc, put]
    exact ⟨_, _, _, rfl⟩
theorem draw_loop {cell cnt : Int} (hb : Builtin.Int.intBits cell ≤ 1048576) : ∀ (n : Nat) (k : Int) (rest : Int) (xk xm : Option D) (l : List Int), 0 ≤ k → k + n < 1000 → l.length + n < 1000 →
    ∃ (a : List Int) (ρ : En), a.length = n ∧ forGo (setN 4) drawB (rngL k n) [some (.int cell), some (.int cnt), some (.ref 0), some (.int rest), xk, xm] [.lst (l.map D.int)] = some (.nx ρ [.lst ((l ++ a).map D.int)]) ∧ at? ρ 2 = some (some (.ref 0))
  | 0, k, rest, xk, xm, l, _, _, _ => ⟨[], _, rfl, by rw [List.append_nil]; rfl, rfl⟩
  | n + 1, k, rest, xk, xm, l, h0, h1, h2 => by
    obtain ⟨v, rest', mixed, e⟩ := draw_step (cell := cell) (cnt := cnt) (rest := rest) (k := k) (x := xm) (l := l.map D.int) hb h0 (by omega) (by rw [List.length_map]; omega)
    obtain ⟨a, ρ, ha, e2, e3⟩ := draw_loop (cnt := cnt) hb n (k + 1) rest' (some (.int k)) (some (.int mixed)) (l ++ [v]) (by omega) (by omega) (by rw [List.length_append]; simp; omega)
    refine ⟨v :: a, ρ, by simp [ha], ?_, e3⟩
    have e5 : (l ++ v :: a).map D.int = ((l ++ [v]) ++ a).map D.int := by simp
    rw [e5, ← e2]
    have e6 : (l ++ [v]).map D.int = l.map D.int ++ [.int v] := by simp
    rw [e6]
    exact congrArg (fun r : Option Rs => match r with
      | some (.nx ρ2 hs2) => forGo (setN 4) drawB (rngL (k + 1) n) ρ2 hs2
      | some (.ct ρ2 hs2) => forGo (setN 4) drawB (rngL (k + 1) n) ρ2 hs2
      | some (.bk ρ2 hs2) => some (.nx ρ2 hs2)
      | some (.ret d hs2) => some (.ret d hs2)
      | none => none) e
theorem mSeq_nx {f g : SM} {ρ ρ' : En} {hs hs' : Hs} (h : f ρ hs = some (.nx ρ' hs')) : mSeq f g ρ hs = g ρ' hs' := by
  unfold mSeq
  rw [h]
theorem draws_ok {cell : Int} (hb : Builtin.Int.intBits cell ≤ 1048576) (n : Nat) (hn : n < 500) (hs : Hs) : ∃ a : List Int, a.length = n ∧ FP (mBody drawsM 4) [.int cell, .int n] hs = some (.ref hs.length, hs ++ [.lst (a.map D.int)]) := by
  obtain ⟨a, ρ, ha, e, e2⟩ := draw_loop (cnt := (n : Int)) hb n 0 cell none none [] (by omega) (by omega) (by simp; omega)
  refine ⟨a, ha, ?_⟩
  have hblt : Nat.blt (n : Int).natAbs (2 ^ 62) = true := Nat.ble_eq_true_of_le (Nat.le_trans (show n + 1 ≤ 500 by omega) (by decide))
  have er : mRng1 (mCons (mVar 1) mNil) [some (.int cell), some (.int (n : Int)), some (.ref 0), some (.int cell), none, none] [.lst []] = some (rngL 0 n, [.lst []]) := by
    show (if Nat.blt (n : Int).natAbs (2 ^ 62) = true then some (rngL 0 (n : Int).toNat, [O.lst []]) else none) = _
    rw [if_pos hblt]
    rfl
  have ef : mFor (mRng1 (mCons (mVar 1) mNil)) (setN 4) drawB [some (.int cell), some (.int (n : Int)), some (.ref 0), some (.int cell), none, none] [.lst []] = some (.nx ρ [.lst (a.map D.int)]) := by
    unfold mFor
    rw [er]
    exact e
  have es : drawsM [some (.int cell), some (.int (n : Int)), none, none, none, none] [] = some (.ret (.ref 0) [.lst (a.map D.int)]) := by
    unfold drawsM
    rw [mSeq_nx (ρ' := [some (.int cell), some (.int (n : Int)), some (.ref 0), none, none, none]) (hs' := [.lst []]) rfl]
    rw [mSeq_nx (ρ' := [some (.int cell), some (.int (n : Int)), some (.ref 0), some (.int cell), none, none]) (hs' := [.lst []]) rfl]
    rw [mSeq_nx ef]
    unfold mRet mVar
    rw [e2]
  have e0 : mBody drawsM 4 [.int cell, .int n] [] = some (.ref 0, [.lst (a.map D.int)]) := by
    show (match drawsM [some (.int cell), some (.int (n : Int)), none, none, none, none] [] with
      | some (.nx _ hs') => some (D.non, hs')
      | some (.ret d hs') => some (d, hs')
      | _ => none) = _
    rw [es]
  have sh : allL (shal 12) [.int cell, .int (n : Int)] = true := rfl
  have si : ∀ l : List Int, shL hs.length (l.map D.int) = l.map D.int := fun l => by
    induction l with
    | nil => unfold shL; rfl
    | cons x r ih =>
      rw [List.map_cons, shL, ih]
      unfold shD
      rfl
  show (match allL (shal 12) [.int cell, .int (n : Int)] with
    | true => match mBody drawsM 4 [.int cell, .int (n : Int)] [] with
      | some (d, hs') => match shal 12 d with
        | true => some (d, hs)
        | false => some (shD hs.length d, hs ++ hs'.map (shO hs.length))
      | none => none
    | false => none) = _
  rw [sh, e0]
  show some (shD hs.length (.ref 0), hs ++ [O.lst (shL hs.length (a.map D.int))]) = _
  rw [si]
  unfold shD
  rfl
/-- the script as it may lie -/
def Lies (d : D) (hs : Hs) (ns : List Int) : Prop := (d = .fro (ns.map D.int) ∧ hs = []) ∨ (d = .ref 0 ∧ hs = [.lst (ns.map D.int)])
theorem cell_ok {d : D} {hs : Hs} {ns : List Int} (h : Lies d hs ns) (hb : ∀ z ∈ ns, Builtin.Int.intBits z ≤ 1048576) : ∃ c : Int, Builtin.Int.intBits c ≤ 1048576 ∧ mBody cellM 0 [d, .int 0] hs = some (.int c, hs) := by
  cases ns with
  | nil =>
    refine ⟨0, by decide, ?_⟩
    rcases h with ⟨rfl, rfl⟩ | ⟨rfl, rfl⟩ <;> rfl
  | cons x r =>
    refine ⟨x, hb x List.mem_cons_self, ?_⟩
    have key : ∀ (l : List D), decide ((0 : Int) < ((D.int x :: l).length : Nat)) = true := fun l => decide_eq_true (by rw [List.length_cons]; omega)
    rcases h with ⟨rfl, rfl⟩ | ⟨rfl, rfl⟩
    · unfold mBody cellM
      simp only [List.map_cons, mSeq, mIfS, mTest, mBin, mVar, mCall, mCons, mNil, lenL, at?, List.map, List.replicate, List.append, HAppend.hAppend, Append.append]
      have e : ∀ (l : List D) (hs : Hs), ltD (.int 0) (.int ((D.int x :: l).length : Nat)) hs = some (.bl true, hs) := fun l hs => by
        show some (D.bl (decide ((0 : Int) < ((D.int x :: l).length : Nat))), hs) = _
        rw [key]
      simp only [e, mRet, mBin, mVar, at?]
      rfl
    · unfold mBody cellM
      simp only [List.map_cons, mSeq, mIfS, mTest, mBin, mVar, mCall, mCons, mNil, lenL, at?, List.map, List.replicate, List.append, HAppend.hAppend, Append.append]
      have e : ∀ (l : List D) (hs : Hs), ltD (.int 0) (.int ((D.int x :: l).length : Nat)) hs = some (.bl true, hs) := fun l hs => by
        show some (D.bl (decide ((0 : Int) < ((D.int x :: l).length : Nat))), hs) = _
        rw [key]
      simp only [e, mRet, mBin, mVar, at?]
      rfl

/-! ### a law's pieces -/
def iL (a : List Int) : List D := a.map D.int
theorem step_nx {G : GX} {f : SM} {t : TS} {W : Ends} {σ : L2.St} {H : Hp} {m : List Addr} {ρ ρ' : En} {hs hs' : Hs} (hr : HR G m hs H) (sl : SL G H m ρ σ) (e : f ρ hs = some (.nx ρ' hs'))
    (q : ∀ σ' H' m', HR G m' hs' H' → SL G H' m' ρ' σ' → t W σ' H') : TSK G f t W σ H := ⟨ρ, hs, m, sl, hr, _, e, fun σ' H' m' _ hr' sl' => q σ' H' m' hr' sl'⟩
theorem step_ret {G : GX} {f : SM} {W : Ends} {σ : L2.St} {H : Hp} {m : List Addr} {ρ : En} {hs hs' : Hs} (hr : HR G m hs H) (sl : SL G H m ρ σ) (e : f ρ hs = some (.ret (.bl true) hs')) (hw : ∀ H', W.rt (.bl true) H') : TSM G f W σ H :=
  ⟨ρ, hs, m, sl, hr, _, e, fun v H' m' _ _ rv => by
    cases rv
    exact hw H'⟩
def isT (r : Option Rs) : Bool := match r with
  | some (.ret (.bl true) _) => true
  | _ => false
theorem isT_ex {r : Option Rs} (h : isT r = true) : ∃ hs', r = some (.ret (.bl true) hs') := by
  unfold isT at h
  split at h
  · exact ⟨_, rfl⟩
  · cases h
/-- the state behind a piece: the draws still lie at slot 1 -/
def look1 (r : Option Rs) : Option (Option D) × Option O × Nat := match r with
  | some (.nx ρ hs) => (at? ρ 1, at? hs 0, ρ.length)
  | _ => (none, none, 0)
theorem look1_ex {r : Option Rs} {n : Nat} {L : List D} (h : look1 r = (some (some (.ref 0)), some (.lst L), n)) : ∃ ρ hs, r = some (.nx ρ hs) ∧ at? ρ 1 = some (some (.ref 0)) ∧ at? hs 0 = some (.lst L) ∧ ρ.length = n := by
  unfold look1 at h
  split at h
  · rename_i ρ hs
    injection h with h1 h2
    injection h2 with h2 h3
    exact ⟨ρ, hs, rfl, h1, h2, h3⟩
  · cases h
/-- slots: nothing but the draws -/
def rhoN (j : Nat) : En := none :: some (.ref 0) :: List.replicate j none
theorem rhoN_get {j i : Nat} {d : D} (h : (rhoN j)[i]? = some (some d)) : i = 1 ∧ d = .ref 0 := by
  unfold rhoN at h
  match i, h with
  | 0, h => simp at h
  | 1, h => simp at h; exact ⟨rfl, h.symm⟩
  | i + 2, h =>
    rw [List.getElem?_cons_succ, List.getElem?_cons_succ, List.getElem?_replicate] at h
    split at h <;> cases h
theorem junction {G : GX} {H : Hp} {m : List Addr} {ρ : En} {hs : Hs} {σ : L2.St} {a : List Int} {j k : Nat} (hr : HR G m hs H) (sl : SL G H m ρ σ) (e1 : at? ρ 1 = some (some (.ref k))) (e2 : at? hs k = some (.lst (iL a))) (hl : ρ.length = j + 2) :
    ∃ b, HR G [b] [.lst (iL a)] H ∧ SL G H [b] (rhoN j) σ := by
  obtain ⟨b, h1, h2⟩ := hr.only e2
  refine ⟨b, h2, sl.weaken (by simp [rhoN, hl]) fun i d h => ?_⟩
  obtain ⟨rfl, rfl⟩ := rhoN_get h
  refine ⟨.ref k, by rw [← at?_eq]; exact e1, fun v r => ?_⟩
  cases r with
  | ref e =>
    rw [h1] at e; cases e
    exact .ref rfl
/-- slots: nothing but ints; the draws are forgotten -/
theorem junction0 {G : GX} {H : Hp} {m : List Addr} {ρ ρ' : En} {hs : Hs} {σ : L2.St} (hr : HR G m hs H) (sl : SL G H m ρ σ) (hl : ρ'.length = ρ.length) (h : ∀ (i : Nat) (d : D), ρ'[i]? = some (some d) → ρ[i]? = some (some d) ∧ ∃ z, d = .int z) : HR G [] [] H ∧ SL G H [] ρ' σ := by
  refine ⟨hr.none, sl.weaken hl fun i d e => ?_⟩
  obtain ⟨h1, z, rfl⟩ := h i d e
  exact ⟨_, h1, fun v r => by cases r; exact .int z⟩
theorem mCons_of {f : EM} {g : AM} {ρ : En} {hs hs1 hs2 : Hs} {d : D} {ds : List D} (h1 : f ρ hs = some (d, hs1)) (h2 : g ρ hs1 = some (ds, hs2)) : mCons f g ρ hs = some (d :: ds, hs2) := by
  unfold mCons
  rw [h1]
  simp only
  rw [h2]
theorem mCall_of {F : FM} {g : AM} {ρ : En} {hs hs1 : Hs} {ds : List D} (h : g ρ hs = some (ds, hs1)) : mCall F g ρ hs = F ds hs1 := by
  unfold mCall
  rw [h]
/-- n = _law_draws(_law_cell(script, 0), count) -/
theorem law_step0 {G : GX} {count j : Nat} {t : TS} {W : Ends} {σ : L2.St} {H : Hp} {d : D} {hs : Hs} {m : List Addr} {ns : List Int} (hL : Lies d hs ns) (hb : ∀ z ∈ ns, Builtin.Int.intBits z ≤ 1048576) (hr : HR G m hs H) (sl : SL G H m (some d :: List.replicate (j + 1) none) σ) (hc : count < 500)
    (ht : ∀ (a : List Int) σ' H' b, a.length = count → HR G [b] [.lst (iL a)] H' → SL G H' [b] (rhoN j) σ' → t W σ' H') :
    TSK G (mSet 1 (mCall (FP (mBody drawsM 4)) (mCons (mCall (mBody cellM 0) (mCons (mVar 0) (mCons (mC (.int 0)) mNil))) (mCons (mC (.int count)) mNil)))) t W σ H := by
  obtain ⟨c, hc1, e1⟩ := cell_ok hL hb
  obtain ⟨a, ha, e2⟩ := draws_ok hc1 count hc hs
  refine step_nx hr sl (ρ' := some d :: some (.ref hs.length) :: List.replicate j none) (hs' := hs ++ [.lst (a.map D.int)]) ?_ fun σ' H' m' hr' sl' => ?_
  · have e3 : mCall (FP (mBody drawsM 4)) (mCons (mCall (mBody cellM 0) (mCons (mVar 0) (mCons (mC (.int 0)) mNil))) (mCons (mC (.int count)) mNil)) (some d :: List.replicate (j + 1) none) hs = some (.ref hs.length, hs ++ [.lst (a.map D.int)]) := by
      have e4 : mCall (mBody cellM 0) (mCons (mVar 0) (mCons (mC (.int 0)) mNil)) (some d :: List.replicate (j + 1) none) hs = some (.int c, hs) := e1
      rw [mCall_of (mCons_of e4 (mCons_of (d := .int count) (hs1 := hs) rfl (show mNil _ hs = some ([], hs) from rfl)))]
      exact e2
    unfold mSet
    rw [e3]
    rfl
  · obtain ⟨b, h1, h2⟩ := junction (j := j) (k := hs.length) (a := a) hr' sl' rfl (by rw [at?_eq, List.getElem?_append_right (Nat.le_refl _), Nat.sub_self]; rfl) (by simp)
    exact ht a σ' H' b ha h1 h2
end Mir

/-! the text of the law and what its top leaves -/
namespace K_
open PySem PySem.Spec PyProof.Rows L2 Mir
abbrev R : PySem.W.OpenRow := PySem.W.OpenLaw.row PySem.Challenge.rw_tuneworks_k07_whole_hockets_and_rings
def top (i : Nat) : Stmt := R.prog.main.body.getD i (.Pass ⟨0, 0, 0, 0⟩)
def nms : List PySem.Str := ["CantusError", "BadSet", "BadNumber", "TooMany", "is_number", "check_word", "check_sizes", "common", "to_power", "rings", "least_turn", "MOST_ROUND", "check_round", "set_of_pattern", "check_pattern", "joined_patterns", "clash", "never_clash", "hockets", "count_hockets", "joined_beats", "_law_cell", "_law_draws", "_law_common"]
def fn : List He.DefD := [mkD (top 6) "is_number", mkD (top 8) "check_word", mkD (top 9) "check_sizes", mkD (top 10) "common", mkD (top 11) "to_power", mkD (top 12) "rings", mkD (top 13) "least_turn", mkD (top 16) "check_round", mkD (top 18) "set_of_pattern", mkD (top 20) "check_pattern", mkD (top 21) "joined_patterns", mkD (top 22) "clash", mkD (top 23) "never_clash", mkD (top 24) "hockets", mkD (top 25) "count_hockets", mkD (top 27) "joined_beats", mkD (top 29) "_law_cell", mkD (top 30) "_law_draws", mkD (top 31) "_law_common", mkD (top 32) "law"]
def fa : List He.Fa := [.glo "is_number", .glo "check_word", .glo "check_sizes", .glo "common", .glo "to_power", .glo "rings", .glo "least_turn", .glo "check_round", .glo "set_of_pattern", .glo "check_pattern", .glo "joined_patterns", .glo "clash", .glo "never_clash", .glo "hockets", .glo "count_hockets", .glo "joined_beats", .glo "_law_cell", .glo "_law_draws", .glo "_law_common", .glo "law", .free "all", .free "any", .free "dict", .free "int", .free "isinstance", .free "len", .free "max", .free "min", .free "range", .free "sum", .free "tuple", .int "MOST_ROUND" 24]
def tf : List He.Defn := [("check_word", none), ("set_of_pattern", none), ("never_clash", none)]
/-! ### is_number -/
abbrev st_is_number : Stmt := top 6
theorem sc_is_number : FnScope ["value"] ["value"] (defScope st_is_number) := ⟨rfl, rfl, rfl, by decide +kernel, rfl, by decide +kernel, by decide +kernel⟩
def m_is_number : SM := (mRet (mAndV (mUn (isiF isInt) (mVar 0)) (mAndV (mBin (notF isD) (mVar 0) (mC (.bl true))) (mBin (notF isD) (mVar 0) (mC (.bl false))))))
def F_is_number : FM := FP (mBody m_is_number 0)
instance : QF F_is_number := inferInstanceAs (QF (FP _))
theorem ok_is_number {P : Program} {w : World} {K : PySem.W.Frag} {mg : Str → Option Value} {base h : Heap} (T : Tp fa fn tf w K mg base h) : OkF P w K mg base (tbs tf K) 1 "is_number" ["value"] 1 F_is_number := by
  refine OkF.pure (OkF.of (k := 0) (j := 0) (f := m_is_number) T 0 0 rfl rfl sc_is_number rfl rfl (fun _ _ _ _ _ _ us hl => match us, hl with | [_], _ => rfl) fun A outer s H E hr => ?_)
  exact (ms_one (ms_ret (m_and (m_isi isi_int (by rfl) (T.free 24) (by rfl) (T.free 23) (by rfl) (m_var 0)) (m_and (m_cmp op_isNotM (m_var 0) m_bl) (m_one (m_cmp op_isNotM (m_var 0) m_bl))))))
/-! ### check_word -/
abbrev st_check_word : Stmt := top 8
theorem sc_check_word : FnScope ["signs", "word", "one"] ["signs", "word"] (defScope st_check_word) := ⟨rfl, rfl, rfl, by decide +kernel, rfl, by decide +kernel, by decide +kernel⟩
def m_check_word : SM := (mSeq (mIfS (mOrB (mNotB (mTru (mCall F_is_number (mCons (mVar 0) mNil)))) (mNotB (mTest (mChain leD leD (mC (.int 1)) (mVar 0) (mC (.int 12)))))) mNever mNext) (mSeq (mIfS (mOrB (mNotB (mTru (mUn (isiF isTup) (mVar 1)))) (mOrB (mTest (mBin ltD (mCall lenL (mCons (mVar 1) mNil)) (mC (.int 1)))) (mTest (mBin gtD (mCall lenL (mCons (mVar 1) mNil)) (mC (.int 30)))))) mNever mNext) (mIfS (mNotB (mTru (mAg false (mSeqW (mVar 1)) (setN 2) mYes (mAndV (mCall F_is_number (mCons (mVar 2) mNil)) (mChain leD ltD (mC (.int 0)) (mVar 2) (mVar 0))) [2]))) mNever mNext)))
def F_check_word : FM := FP (mBody m_check_word 1)
instance : QF F_check_word := inferInstanceAs (QF (FP _))
theorem ok_check_word {P : Program} {w : World} {K : PySem.W.Frag} {mg : Str → Option Value} {base h : Heap} (T : Tp fa fn tf w K mg base h) : OkF P w K mg base (tbs tf K) 3 "check_word" ["signs", "word"] 2 F_check_word := by
  refine OkF.pure (OkF.of (k := 2) (j := 1) (f := m_check_word) T 1 1 rfl rfl sc_check_word rfl rfl (fun _ _ _ _ _ _ us hl => match us, hl with | [_, _], _ => rfl) fun A outer s H E hr => ?_)
  exact (ms_cons (ms_if (PW.pt (mw_or (mt_not (mt_truth (m_callO (ok_is_number T) (hr.mono (by decide)) (by rfl) (ma_cons (m_var 0) ma_nil)))) (mw_or1 (mt_not (mt_chain op_leM op_leM m_int (m_var 0) m_int))))) mss_never ms_nil)
    (ms_cons (ms_if (PW.pt (mw_or (mt_not (mt_truth (m_isi isi_tup (by rfl) (T.free 24) (by rfl) (T.free 30) (by rfl) (m_var 1)))) (mw_or (mt_cmp op_ltM (m_callB cr_len (by rfl) (T.free 25) (by rfl) (ma_cons (m_var 1) ma_nil)) m_int) (mw_or1 (mt_cmp op_gtM (m_callB cr_len (by rfl) (T.free 25) (by rfl) (ma_cons (m_var 1) ma_nil)) m_int))))) mss_never ms_nil)
    (ms_one (ms_if (mt_not (mt_truth (m_all (k := 1) hr (by rfl) (T.free 20) rfl sc_check_word.nd (T.tab 0) rfl (tab_mem 0) ⟨by rfl, by decide +kernel, by rfl⟩ (blkOk_by (own := [(("one" : Str), 2)]) (by rfl)) (mi_seqW (m_var 1)) (fun _ _ _ _ _ _ _ hr1 => (mg_name (i := 2) sc_check_word.nd rfl (by first | exact Or.inl rfl | exact Or.inr rfl))) (fun _ _ _ _ _ _ _ hr1 => mts_nil) (fun _ _ _ _ _ _ _ hr1 => (m_and (m_callO (ok_is_number T) hr1 (by rfl) (ma_cons (m_var 2) ma_nil)) (m_one (m_chain op_leM op_ltM m_int (m_var 2) (m_var 0)))))))) mss_never ms_nil))))
/-! ### check_sizes -/
abbrev st_check_sizes : Stmt := top 9
theorem sc_check_sizes : FnScope ["signs", "length"] ["signs", "length"] (defScope st_check_sizes) := ⟨rfl, rfl, rfl, by decide +kernel, rfl, by decide +kernel, by decide +kernel⟩
def m_check_sizes : SM := (mIfS (mOrB (mNotB (mTru (mCall F_is_number (mCons (mVar 0) mNil)))) (mOrB (mNotB (mTest (mChain leD leD (mC (.int 1)) (mVar 0) (mC (.int 12))))) (mOrB (mNotB (mTru (mCall F_is_number (mCons (mVar 1) mNil)))) (mNotB (mTest (mChain leD leD (mC (.int 1)) (mVar 1) (mC (.int 30)))))))) mNever mNext)
def F_check_sizes : FM := FP (mBody m_check_sizes 0)
instance : QF F_check_sizes := inferInstanceAs (QF (FP _))
theorem ok_check_sizes {P : Program} {w : World} {K : PySem.W.Frag} {mg : Str → Option Value} {base h : Heap} (T : Tp fa fn tf w K mg base h) : OkF P w K mg base (tbs tf K) 2 "check_sizes" ["signs", "length"] 2 F_check_sizes := by
  refine OkF.pure (OkF.of (k := 1) (j := 0) (f := m_check_sizes) T 2 2 rfl rfl sc_check_sizes rfl rfl (fun _ _ _ _ _ _ us hl => match us, hl with | [_, _], _ => rfl) fun A outer s H E hr => ?_)
  exact (ms_one (ms_if (PW.pt (mw_or (mt_not (mt_truth (m_callO (ok_is_number T) hr (by rfl) (ma_cons (m_var 0) ma_nil)))) (mw_or (mt_not (mt_chain op_leM op_leM m_int (m_var 0) m_int)) (mw_or (mt_not (mt_truth (m_callO (ok_is_number T) hr (by rfl) (ma_cons (m_var 1) ma_nil)))) (mw_or1 (mt_not (mt_chain op_leM op_leM m_int (m_var 1) m_int))))))) mss_never ms_nil))
/-! ### common -/
abbrev st_common : Stmt := top 10
theorem sc_common : FnScope ["first", "second"] ["first", "second"] (defScope st_common) := ⟨rfl, rfl, rfl, by decide +kernel, rfl, by decide +kernel, by decide +kernel⟩
def m_common : SM := (mSeq (mWhile 40 (mTest (mBin gtD (mVar 1) (mC (.int 0)))) (mPar 0 1 (mCons (mVar 1) (mCons (mBin modD (mVar 0) (mVar 1)) mNil)))) (mRet (mVar 0)))
def F_common : FM := FP (mBody m_common 0)
instance : QF F_common := inferInstanceAs (QF (FP _))
theorem ok_common {P : Program} {w : World} {K : PySem.W.Frag} {mg : Str → Option Value} {base h : Heap} (T : Tp fa fn tf w K mg base h) : OkF P w K mg base (tbs tf K) 1 "common" ["first", "second"] 2 F_common := by
  refine OkF.pure (OkF.of (k := 0) (j := 0) (f := m_common) T 3 3 rfl rfl sc_common rfl rfl (fun _ _ _ _ _ _ us hl => match us, hl with | [_, _], _ => rfl) fun A outer s H E hr => ?_)
  exact (ms_cons (ms_while 40 PassesOwn.never (mt_cmp op_gtM (m_var 1) m_int) (ms_one (ms_par (i := 0) (j := 1) rfl sc_common.nd rfl rfl (by decide) rfl rfl (ma_cons (m_var 1) (ma_cons (m_bin op_modM (m_var 0) (m_var 1)) ma_nil)) (by rfl))))
    (ms_one (ms_ret (m_var 0))))
/-! ### to_power -/
abbrev st_to_power : Stmt := top 11
theorem sc_to_power : FnScope ["base", "many", "result", "turn"] ["base", "many"] (defScope st_to_power) := ⟨rfl, rfl, rfl, by decide +kernel, rfl, by decide +kernel, by decide +kernel⟩
def m_to_power : SM := (mSeq (mSet 2 (mC (.int 1))) (mSeq (mFor (mRng1 (mCons (mVar 1) mNil)) (setN 3) (mSet 2 (mBin mulI (mVar 2) (mVar 0)))) (mRet (mVar 2))))
def F_to_power : FM := FP (mBody m_to_power 2)
instance : QF F_to_power := inferInstanceAs (QF (FP _))
theorem ok_to_power {P : Program} {w : World} {K : PySem.W.Frag} {mg : Str → Option Value} {base h : Heap} (T : Tp fa fn tf w K mg base h) : OkF P w K mg base (tbs tf K) 1 "to_power" ["base", "many"] 2 F_to_power := by
  refine OkF.pure (OkF.of (k := 0) (j := 2) (f := m_to_power) T 4 4 rfl rfl sc_to_power rfl rfl (fun _ _ _ _ _ _ us hl => match us, hl with | [_, _], _ => rfl) fun A outer s H E hr => ?_)
  exact (ms_cons (ms_set (i := 2) m_int sc_to_power.nd rfl (by first | exact Or.inl rfl | exact Or.inr rfl))
    (ms_cons (ms_for PassesOwn.never rfl (mi_range1 (by rfl) (T.free 28) (ma_cons (m_var 1) ma_nil)) (mg_name (i := 3) sc_to_power.nd rfl (by first | exact Or.inl rfl | exact Or.inr rfl)) (ms_one (ms_set (i := 2) (m_bin op_mulM (m_var 2) (m_var 0)) sc_to_power.nd rfl (by first | exact Or.inl rfl | exact Or.inr rfl))))
    (ms_one (ms_ret (m_var 2)))))
/-! ### rings -/
abbrev st_rings : Stmt := top 12
theorem sc_rings : FnScope ["signs", "length", "total", "turn"] ["signs", "length"] (defScope st_rings) := ⟨rfl, rfl, rfl, by decide +kernel, rfl, by decide +kernel, by decide +kernel⟩
def m_rings : SM := (mSeq (mDrop (mCall F_check_sizes (mCons (mVar 0) (mCons (mVar 1) mNil)))) (mSeq (mSet 2 (mC (.int 0))) (mSeq (mFor (mRng1 (mCons (mVar 1) mNil)) (setN 3) (mAug 2 (fun i j => i + j) (mCall F_to_power (mCons (mVar 0) (mCons (mCall F_common (mCons (mVar 1) (mCons (mVar 3) mNil))) mNil))))) (mRet (mBin fdivD (mVar 2) (mVar 1))))))
def F_rings : FM := FP (mBody m_rings 2)
instance : QF F_rings := inferInstanceAs (QF (FP _))
theorem ok_rings {P : Program} {w : World} {K : PySem.W.Frag} {mg : Str → Option Value} {base h : Heap} (T : Tp fa fn tf w K mg base h) : OkF P w K mg base (tbs tf K) 3 "rings" ["signs", "length"] 2 F_rings := by
  refine OkF.pure (OkF.of (k := 2) (j := 2) (f := m_rings) T 5 5 rfl rfl sc_rings rfl rfl (fun _ _ _ _ _ _ us hl => match us, hl with | [_, _], _ => rfl) fun A outer s H E hr => ?_)
  exact (ms_cons (ms_expr (m_callO (ok_check_sizes T) hr (by rfl) (ma_cons (m_var 0) (ma_cons (m_var 1) ma_nil))))
    (ms_cons (ms_set (i := 2) m_int sc_rings.nd rfl (by first | exact Or.inl rfl | exact Or.inr rfl))
    (ms_cons (ms_for PassesOwn.never rfl (mi_range1 (by rfl) (T.free 28) (ma_cons (m_var 1) ma_nil)) (mg_name (i := 3) sc_rings.nd rfl (by first | exact Or.inl rfl | exact Or.inr rfl)) (ms_one (ms_aug (i := 2) (m_callO (ok_to_power T) (hr.mono (by decide)) (by rfl) (ma_cons (m_var 0) (ma_cons (m_callO (ok_common T) (hr.mono (by decide)) (by rfl) (ma_cons (m_var 1) (ma_cons (m_var 3) ma_nil))) ma_nil))) sc_rings.nd rfl (by first | exact Or.inl rfl | exact Or.inr rfl) ip_add)))
    (ms_one (ms_ret (m_bin op_fdivM (m_var 2) (m_var 1)))))))
/-! ### least_turn -/
abbrev st_least_turn : Stmt := top 13
theorem sc_least_turn : FnScope ["signs", "word", "k"] ["signs", "word"] (defScope st_least_turn) := ⟨rfl, rfl, rfl, by decide +kernel, rfl, by decide +kernel, by decide +kernel⟩
def m_least_turn : SM := (mSeq (mDrop (mCall F_check_word (mCons (mVar 0) (mCons (mVar 1) mNil)))) (mRet (mQ (mCall minLM (mCons (mLc (mRng1 (mCons (mCall lenL (mCons (mVar 1) mNil)) mNil)) (setN 2) mYes (mBin addD (mSl slF (mVar 1) (mPart (mVar 2)) mNoPart) (mSl slF (mVar 1) mNoPart (mPart (mVar 2)))) [2]) mNil)))))
def F_least_turn : FM := FP (mBody m_least_turn 1)
instance : QF F_least_turn := inferInstanceAs (QF (FP _))
theorem ok_least_turn {P : Program} {w : World} {K : PySem.W.Frag} {mg : Str → Option Value} {base h : Heap} (T : Tp fa fn tf w K mg base h) : OkF P w K mg base (tbs tf K) 4 "least_turn" ["signs", "word"] 2 F_least_turn := by
  refine OkF.pure (OkF.of (k := 3) (j := 1) (f := m_least_turn) T 6 6 rfl rfl sc_least_turn rfl rfl (fun _ _ _ _ _ _ us hl => match us, hl with | [_, _], _ => rfl) fun A outer s H E hr => ?_)
  exact (ms_cons (ms_expr (m_callO (ok_check_word T) hr (by rfl) (ma_cons (m_var 0) (ma_cons (m_var 1) ma_nil))))
    (ms_one (ms_ret (m_Q (m_callB (cr_minLM rfl hr.u64) (by rfl) (T.free 27) (by rfl) (ma_cons (m_lc rfl sc_least_turn.nd (mi_w (mi_range1 (by rfl) (T.free 28) (ma_cons (m_callB cr_len (by rfl) (T.free 25) (by rfl) (ma_cons (m_var 1) ma_nil)) ma_nil))) (blkOk_by (own := [(("k" : Str), 2)]) (by rfl)) (fun _ _ _ _ _ => (mg_name (i := 2) sc_least_turn.nd rfl (by first | exact Or.inl rfl | exact Or.inr rfl))) (fun _ _ _ _ _ => mts_nil) (fun _ _ _ _ _ => (m_bin op_addM (m_slice (m_var 1) (mo_some (m_var 2)) mo_none) (m_slice (m_var 1) mo_none (mo_some (m_var 2)))))) ma_nil))))))
/-! ### check_round -/
abbrev st_check_round : Stmt := top 16
theorem sc_check_round : FnScope ["many"] ["many"] (defScope st_check_round) := ⟨rfl, rfl, rfl, by decide +kernel, rfl, by decide +kernel, by decide +kernel⟩
def m_check_round : SM := (mIfS (mOrB (mNotB (mTru (mCall F_is_number (mCons (mVar 0) mNil)))) (mNotB (mTest (mChain leD leD (mC (.int 1)) (mVar 0) (mC (.int 24)))))) mNever mNext)
def F_check_round : FM := FP (mBody m_check_round 0)
instance : QF F_check_round := inferInstanceAs (QF (FP _))
theorem ok_check_round {P : Program} {w : World} {K : PySem.W.Frag} {mg : Str → Option Value} {base h : Heap} (T : Tp fa fn tf w K mg base h) : OkF P w K mg base (tbs tf K) 2 "check_round" ["many"] 1 F_check_round := by
  refine OkF.pure (OkF.of (k := 1) (j := 0) (f := m_check_round) T 7 7 rfl rfl sc_check_round rfl rfl (fun _ _ _ _ _ _ us hl => match us, hl with | [_], _ => rfl) fun A outer s H E hr => ?_)
  exact (ms_one (ms_if (PW.pt (mw_or (mt_not (mt_truth (m_callO (ok_is_number T) hr (by rfl) (ma_cons (m_var 0) ma_nil)))) (mw_or1 (mt_not (mt_chain op_leM op_leM m_int (m_var 0) (m_gint (z := 24) (by rfl) (T.int 31))))))) mss_never ms_nil))
/-! ### set_of_pattern -/
abbrev st_set_of_pattern : Stmt := top 18
theorem sc_set_of_pattern : FnScope ["pattern", "one", "k"] ["pattern"] (defScope st_set_of_pattern) := ⟨rfl, rfl, rfl, by decide +kernel, rfl, by decide +kernel, by decide +kernel⟩
def m_set_of_pattern : SM := (mSeq (mIfS (mOrB (mNotB (mTru (mUn (isiF isTup) (mVar 0)))) (mNotB (mTru (mAg false (mSeqW (mVar 0)) (setN 1) mYes (mAndV (mBin inX (mVar 1) (mTup (mCons (mC (.int 0)) (mCons (mC (.int 1)) mNil)))) (mCall F_is_number (mCons (mVar 1) mNil))) [1])))) mNever mNext) (mSeq (mDrop (mCall F_check_round (mCons (mCall lenL (mCons (mVar 0) mNil)) mNil))) (mRet (mQ (mCall tupL (mCons (mLc (mRng1 (mCons (mCall lenL (mCons (mVar 0) mNil)) mNil)) (setN 2) (mTest (mBin eqD (mBin ixF (mVar 0) (mVar 2)) (mC (.int 1)))) (mVar 2) [2]) mNil))))))
def F_set_of_pattern : FM := FP (mBody m_set_of_pattern 2)
instance : QF F_set_of_pattern := inferInstanceAs (QF (FP _))
theorem ok_set_of_pattern {P : Program} {w : World} {K : PySem.W.Frag} {mg : Str → Option Value} {base h : Heap} (T : Tp fa fn tf w K mg base h) : OkF P w K mg base (tbs tf K) 3 "set_of_pattern" ["pattern"] 1 F_set_of_pattern := by
  refine OkF.pure (OkF.of (k := 2) (j := 2) (f := m_set_of_pattern) T 8 8 rfl rfl sc_set_of_pattern rfl rfl (fun _ _ _ _ _ _ us hl => match us, hl with | [_], _ => rfl) fun A outer s H E hr => ?_)
  exact (ms_cons (ms_if (PW.pt (mw_or (mt_not (mt_truth (m_isi isi_tup (by rfl) (T.free 24) (by rfl) (T.free 30) (by rfl) (m_var 0)))) (mw_or1 (mt_not (mt_truth (m_all (k := 1) hr (by rfl) (T.free 20) rfl sc_set_of_pattern.nd (T.tab 1) rfl (tab_mem 1) ⟨by rfl, by decide +kernel, by rfl⟩ (blkOk_by (own := [(("one" : Str), 1)]) (by rfl)) (mi_seqW (m_var 0)) (fun _ _ _ _ _ _ _ hr1 => (mg_name (i := 1) sc_set_of_pattern.nd rfl (by first | exact Or.inl rfl | exact Or.inr rfl))) (fun _ _ _ _ _ _ _ hr1 => mts_nil) (fun _ _ _ _ _ _ _ hr1 => (m_and (m_cmp (op_inX hr1.u65) (m_var 1) (m_tup (ma_cons m_int (ma_cons m_int ma_nil)))) (m_one (m_callO (ok_is_number T) hr1 (by rfl) (ma_cons (m_var 1) ma_nil))))))))))) mss_never ms_nil)
    (ms_cons (ms_expr (m_callO (ok_check_round T) hr (by rfl) (ma_cons (m_callB cr_len (by rfl) (T.free 25) (by rfl) (ma_cons (m_var 0) ma_nil)) ma_nil)))
    (ms_one (ms_ret (m_Q (m_callTy cr_tup (by rfl) (T.free 30) (by rfl) (ma_cons (m_lc rfl sc_set_of_pattern.nd (mi_w (mi_range1 (by rfl) (T.free 28) (ma_cons (m_callB cr_len (by rfl) (T.free 25) (by rfl) (ma_cons (m_var 0) ma_nil)) ma_nil))) (blkOk_by (own := [(("k" : Str), 2)]) (by rfl)) (fun _ _ _ _ _ => (mg_name (i := 2) sc_set_of_pattern.nd rfl (by first | exact Or.inl rfl | exact Or.inr rfl))) (fun _ _ _ _ _ => (mts_one (mt_cmp (op_eqM hr.u64) (m_ix (m_var 0) (m_var 2)) m_int))) (fun _ _ _ _ _ => (m_var 2))) ma_nil)))))))
/-! ### check_pattern -/
abbrev st_check_pattern : Stmt := top 20
theorem sc_check_pattern : FnScope ["pattern"] ["pattern"] (defScope st_check_pattern) := ⟨rfl, rfl, rfl, by decide +kernel, rfl, by decide +kernel, by decide +kernel⟩
def m_check_pattern : SM := (mDrop (mCall F_set_of_pattern (mCons (mVar 0) mNil)))
def F_check_pattern : FM := FP (mBody m_check_pattern 0)
instance : QF F_check_pattern := inferInstanceAs (QF (FP _))
theorem ok_check_pattern {P : Program} {w : World} {K : PySem.W.Frag} {mg : Str → Option Value} {base h : Heap} (T : Tp fa fn tf w K mg base h) : OkF P w K mg base (tbs tf K) 4 "check_pattern" ["pattern"] 1 F_check_pattern := by
  refine OkF.pure (OkF.of (k := 3) (j := 0) (f := m_check_pattern) T 9 9 rfl rfl sc_check_pattern rfl rfl (fun _ _ _ _ _ _ us hl => match us, hl with | [_], _ => rfl) fun A outer s H E hr => ?_)
  exact (ms_one (ms_expr (m_callO (ok_set_of_pattern T) hr (by rfl) (ma_cons (m_var 0) ma_nil))))
/-! ### joined_patterns -/
abbrev st_joined_patterns : Stmt := top 21
theorem sc_joined_patterns : FnScope ["patterns", "total", "pattern", "size", "at"] ["patterns"] (defScope st_joined_patterns) := ⟨rfl, rfl, rfl, by decide +kernel, rfl, by decide +kernel, by decide +kernel⟩
def m_joined_patterns : SM := (mSeq (mIfS (mOrB (mNotB (mTru (mUn (isiF isTup) (mVar 0)))) (mNotB (mTest (mChain leD leD (mC (.int 1)) (mCall lenL (mCons (mVar 0) mNil)) (mC (.int 6)))))) mNever mNext) (mSeq (mSet 1 (mC (.int 1))) (mSeq (mFor (mSeqS (mVar 0)) (setN 2) (mSeq (mDrop (mCall F_check_pattern (mCons (mVar 2) mNil))) (mSeq (mSet 3 (mCall lenL (mCons (mVar 2) mNil))) (mSet 1 (mBin fdivD (mBin mulI (mVar 1) (mVar 3)) (mCall F_common (mCons (mCall max2 (mCons (mVar 1) (mCons (mVar 3) mNil))) (mCons (mCall min2 (mCons (mVar 1) (mCons (mVar 3) mNil))) mNil)))))))) (mSeq (mIfS (mTest (mBin gtD (mVar 1) (mC (.int 20000)))) mNever mNext) (mRet (mQ (mCall tufL (mCons (mLc (mRng1 (mCons (mVar 1) mNil)) (setN 4) mYes (mQ (mCall sumL (mCons (mLc (mSeqW (mVar 0)) (setN 2) mYes (mBin ixF (mVar 2) (mBin modD (mVar 4) (mCall lenL (mCons (mVar 2) mNil)))) [2]) mNil))) [4]) mNil))))))))
def F_joined_patterns : FM := FP (mBody m_joined_patterns 4)
instance : QF F_joined_patterns := inferInstanceAs (QF (FP _))
theorem ok_joined_patterns {P : Program} {w : World} {K : PySem.W.Frag} {mg : Str → Option Value} {base h : Heap} (T : Tp fa fn tf w K mg base h) : OkF P w K mg base (tbs tf K) 5 "joined_patterns" ["patterns"] 1 F_joined_patterns := by
  refine OkF.pure (OkF.of (k := 4) (j := 4) (f := m_joined_patterns) T 10 10 rfl rfl sc_joined_patterns rfl rfl (fun _ _ _ _ _ _ us hl => match us, hl with | [_], _ => rfl) fun A outer s H E hr => ?_)
  exact (ms_cons (ms_if (PW.pt (mw_or (mt_not (mt_truth (m_isi isi_tup (by rfl) (T.free 24) (by rfl) (T.free 30) (by rfl) (m_var 0)))) (mw_or1 (mt_not (mt_chain op_leM op_leM m_int (m_callB cr_len (by rfl) (T.free 25) (by rfl) (ma_cons (m_var 0) ma_nil)) m_int))))) mss_never ms_nil)
    (ms_cons (ms_set (i := 1) m_int sc_joined_patterns.nd rfl (by first | exact Or.inl rfl | exact Or.inr rfl))
    (ms_cons (ms_for PassesOwn.never rfl (mi_seqS (m_var 0)) (mg_name (i := 2) sc_joined_patterns.nd rfl (by first | exact Or.inl rfl | exact Or.inr rfl)) (ms_cons (ms_expr (m_callO (ok_check_pattern T) hr (by rfl) (ma_cons (m_var 2) ma_nil)))
    (ms_cons (ms_set (i := 3) (m_callB cr_len (by rfl) (T.free 25) (by rfl) (ma_cons (m_var 2) ma_nil)) sc_joined_patterns.nd rfl (by first | exact Or.inl rfl | exact Or.inr rfl))
    (ms_one (ms_set (i := 1) (m_bin op_fdivM (m_bin op_mulM (m_var 1) (m_var 3)) (m_callO (ok_common T) (hr.mono (by decide)) (by rfl) (ma_cons (m_callB (cr_max2 rfl) (by rfl) (T.free 26) (by rfl) (ma_cons (m_var 1) (ma_cons (m_var 3) ma_nil))) (ma_cons (m_callB (cr_min2 rfl) (by rfl) (T.free 27) (by rfl) (ma_cons (m_var 1) (ma_cons (m_var 3) ma_nil))) ma_nil)))) sc_joined_patterns.nd rfl (by first | exact Or.inl rfl | exact Or.inr rfl))))))
    (ms_cons (ms_if (mt_cmp op_gtM (m_var 1) m_int) mss_never ms_nil)
    (ms_one (ms_ret (m_Q (m_callTy cr_tuf (by rfl) (T.free 30) (by rfl) (ma_cons (m_lc rfl sc_joined_patterns.nd (mi_w (mi_range1 (by rfl) (T.free 28) (ma_cons (m_var 1) ma_nil))) (blkOk_by (own := [(("at" : Str), 4)]) (by rfl)) (fun _ _ _ _ _ => (mg_name (i := 4) sc_joined_patterns.nd rfl (by first | exact Or.inl rfl | exact Or.inr rfl))) (fun _ _ _ _ _ => mts_nil) (fun _ _ _ _ _ => (m_Q (m_callB (cr_sumM rfl) (by rfl) (T.free 29) (by rfl) (ma_cons (m_lc rfl sc_joined_patterns.nd (mi_seqW (m_var 0)) (blkOk_by (own := [(("pattern" : Str), 2)]) (by rfl)) (fun _ _ _ _ _ => (mg_name (i := 2) sc_joined_patterns.nd rfl (by first | exact Or.inl rfl | exact Or.inr rfl))) (fun _ _ _ _ _ => mts_nil) (fun _ _ _ _ _ => (m_ix (m_var 2) (m_bin op_modM (m_var 4) (m_callB cr_len (by rfl) (T.free 25) (by rfl) (ma_cons (m_var 2) ma_nil)))))) ma_nil))))) ma_nil)))))))))
/-! ### clash -/
abbrev st_clash : Stmt := top 22
theorem sc_clash : FnScope ["first", "second", "found"] ["first", "second"] (defScope st_clash) := ⟨rfl, rfl, rfl, by decide +kernel, rfl, by decide +kernel, by decide +kernel⟩
def m_clash : SM := (mSeq (mSet 2 (mCall F_joined_patterns (mCons (mTup (mCons (mVar 0) (mCons (mVar 1) mNil))) mNil))) (mRet (mIfE (mTest (mBin inX (mC (.int 2)) (mNrm (mVar 2)))) (mTidx (mVar 2) (mC (.int 2))) (mC .non))))
def F_clash : FM := FP (mBody m_clash 1)
instance : QF F_clash := inferInstanceAs (QF (FP _))
theorem ok_clash {P : Program} {w : World} {K : PySem.W.Frag} {mg : Str → Option Value} {base h : Heap} (T : Tp fa fn tf w K mg base h) : OkF P w K mg base (tbs tf K) 6 "clash" ["first", "second"] 2 F_clash := by
  refine OkF.pure (OkF.of (k := 5) (j := 1) (f := m_clash) T 11 11 rfl rfl sc_clash rfl rfl (fun _ _ _ _ _ _ us hl => match us, hl with | [_, _], _ => rfl) fun A outer s H E hr => ?_)
  exact (ms_cons (ms_set (i := 2) (m_callO (ok_joined_patterns T) hr (by rfl) (ma_cons (m_tup (ma_cons (m_var 0) (ma_cons (m_var 1) ma_nil))) ma_nil)) sc_clash.nd rfl (by first | exact Or.inl rfl | exact Or.inr rfl))
    (ms_one (ms_ret (m_if (mt_cmp (op_inX hr.u65) m_int (m_nrm (m_var 2))) (m_tidx (m_var 2) m_int) m_non))))
/-! ### never_clash -/
abbrev st_never_clash : Stmt := top 23
theorem sc_never_clash : FnScope ["first", "second", "part", "ones", "at"] ["first", "second"] (defScope st_never_clash) := ⟨rfl, rfl, rfl, by decide +kernel, rfl, by decide +kernel, by decide +kernel⟩
def m_never_clash : SM := (mSeq (mDrop (mCall F_check_pattern (mCons (mVar 0) mNil))) (mSeq (mDrop (mCall F_check_pattern (mCons (mVar 1) mNil))) (mSeq (mSet 2 (mCall F_common (mCons (mCall max2 (mCons (mCall lenL (mCons (mVar 0) mNil)) (mCons (mCall lenL (mCons (mVar 1) mNil)) mNil))) (mCons (mCall min2 (mCons (mCall lenL (mCons (mVar 0) mNil)) (mCons (mCall lenL (mCons (mVar 1) mNil)) mNil))) mNil)))) (mSeq (mSet 3 (mDc (mRng1 (mCons (mCall lenL (mCons (mVar 0) mNil)) mNil)) (setN 4) (mTest (mBin eqD (mBin ixF (mVar 0) (mVar 4)) (mC (.int 1)))) (mBin modD (mVar 4) (mVar 2)) (mC (.bl true)) [4])) (mRet (mNotV (mAg true (mRng1 (mCons (mCall lenL (mCons (mVar 1) mNil)) mNil)) (setN 4) mYes (mAndV (mBin eqD (mBin ixF (mVar 1) (mVar 4)) (mC (.int 1))) (mBin inX (mBin modD (mVar 4) (mVar 2)) (mVar 3))) [4])))))))
def F_never_clash : FM := FP (mBody m_never_clash 3)
instance : QF F_never_clash := inferInstanceAs (QF (FP _))
theorem ok_never_clash {P : Program} {w : World} {K : PySem.W.Frag} {mg : Str → Option Value} {base h : Heap} (T : Tp fa fn tf w K mg base h) : OkF P w K mg base (tbs tf K) 5 "never_clash" ["first", "second"] 2 F_never_clash := by
  refine OkF.pure (OkF.of (k := 4) (j := 3) (f := m_never_clash) T 12 12 rfl rfl sc_never_clash rfl rfl (fun _ _ _ _ _ _ us hl => match us, hl with | [_, _], _ => rfl) fun A outer s H E hr => ?_)
  exact (ms_cons (ms_expr (m_callO (ok_check_pattern T) hr (by rfl) (ma_cons (m_var 0) ma_nil)))
    (ms_cons (ms_expr (m_callO (ok_check_pattern T) hr (by rfl) (ma_cons (m_var 1) ma_nil)))
    (ms_cons (ms_set (i := 2) (m_callO (ok_common T) (hr.mono (by decide)) (by rfl) (ma_cons (m_callB (cr_max2 rfl) (by rfl) (T.free 26) (by rfl) (ma_cons (m_callB cr_len (by rfl) (T.free 25) (by rfl) (ma_cons (m_var 0) ma_nil)) (ma_cons (m_callB cr_len (by rfl) (T.free 25) (by rfl) (ma_cons (m_var 1) ma_nil)) ma_nil))) (ma_cons (m_callB (cr_min2 rfl) (by rfl) (T.free 27) (by rfl) (ma_cons (m_callB cr_len (by rfl) (T.free 25) (by rfl) (ma_cons (m_var 0) ma_nil)) (ma_cons (m_callB cr_len (by rfl) (T.free 25) (by rfl) (ma_cons (m_var 1) ma_nil)) ma_nil))) ma_nil))) sc_never_clash.nd rfl (by first | exact Or.inl rfl | exact Or.inr rfl))
    (ms_cons (ms_set (i := 3) (m_dc rfl sc_never_clash.nd (mi_w (mi_range1 (by rfl) (T.free 28) (ma_cons (m_callB cr_len (by rfl) (T.free 25) (by rfl) (ma_cons (m_var 0) ma_nil)) ma_nil))) (blkOk_by (own := [(("at" : Str), 4)]) (by rfl)) (fun _ _ _ _ _ => (mg_name (i := 4) sc_never_clash.nd rfl (by first | exact Or.inl rfl | exact Or.inr rfl))) (fun _ _ _ _ _ => (mts_one (mt_cmp (op_eqM hr.u64) (m_ix (m_var 0) (m_var 4)) m_int))) (fun _ _ _ _ _ => (m_bin op_modM (m_var 4) (m_var 2))) (fun _ _ _ _ _ => m_bl)) sc_never_clash.nd rfl (by first | exact Or.inl rfl | exact Or.inr rfl))
    (ms_one (ms_ret (m_not (m_any (k := 3) hr (by rfl) (T.free 21) rfl sc_never_clash.nd (T.tab 2) rfl (tab_mem 2) ⟨by rfl, by decide +kernel, by rfl⟩ (blkOk_by (own := [(("at" : Str), 4)]) (by rfl)) (mi_w (mi_range1 (by rfl) (T.free 28) (ma_cons (m_callB cr_len (by rfl) (T.free 25) (by rfl) (ma_cons (m_var 1) ma_nil)) ma_nil))) (fun _ _ _ _ _ _ _ hr1 => (mg_name (i := 4) sc_never_clash.nd rfl (by first | exact Or.inl rfl | exact Or.inr rfl))) (fun _ _ _ _ _ _ _ hr1 => mts_nil) (fun _ _ _ _ _ _ _ hr1 => (m_and (m_cmp (op_eqM hr1.u64) (m_ix (m_var 1) (m_var 4)) m_int) (m_one (m_cmp (op_inX hr1.u65) (m_bin op_modM (m_var 4) (m_var 2)) (m_var 3)))))))))))))
/-! ### hockets -/
abbrev st_hockets : Stmt := top 24
theorem sc_hockets : FnScope ["many", "hands", "found", "at", "row", "hand"] ["many", "hands"] (defScope st_hockets) := ⟨rfl, rfl, rfl, by decide +kernel, rfl, by decide +kernel, by decide +kernel⟩
def m_hockets : SM := (mSeq (mIfS (mOrB (mNotB (mTru (mCall F_is_number (mCons (mVar 0) mNil)))) (mOrB (mNotB (mTest (mChain leD leD (mC (.int 1)) (mVar 0) (mC (.int 12))))) (mOrB (mNotB (mTru (mCall F_is_number (mCons (mVar 1) mNil)))) (mNotB (mTest (mChain leD leD (mC (.int 1)) (mVar 1) (mC (.int 4)))))))) mNever mNext) (mSeq (mSet 2 (mLst (mCons (mTup mNil) mNil))) (mSeq (mFor (mRng1 (mCons (mVar 0) mNil)) (setN 3) (mSet 2 (mLc2 (mSeqW (mVar 2)) (setN 4) mYes (mRng1 (mCons (mVar 1) mNil)) (setN 5) (mOrB (mTest (mBin eqD (mCall lenL (mCons (mVar 4) mNil)) (mC (.int 0)))) (mTest (mBin (notF eqD) (mBin ixF (mVar 4) (mUn negD (mC (.int 1)))) (mVar 5)))) (mBin addD (mVar 4) (mTup (mCons (mVar 5) mNil))) [4, 5] [5]))) (mRet (mQ (mCall tupL (mCons (mLc (mSeqW (mVar 2)) (setN 4) (mTest (mBin (notF eqD) (mBin ixF (mVar 4) (mC (.int 0))) (mBin ixF (mVar 4) (mUn negD (mC (.int 1)))))) (mVar 4) [4]) mNil)))))))
def F_hockets : FM := FP (mBody m_hockets 4)
instance : QF F_hockets := inferInstanceAs (QF (FP _))
theorem ok_hockets {P : Program} {w : World} {K : PySem.W.Frag} {mg : Str → Option Value} {base h : Heap} (T : Tp fa fn tf w K mg base h) : OkF P w K mg base (tbs tf K) 2 "hockets" ["many", "hands"] 2 F_hockets := by
  refine OkF.pure (OkF.of (k := 1) (j := 4) (f := m_hockets) T 13 13 rfl rfl sc_hockets rfl rfl (fun _ _ _ _ _ _ us hl => match us, hl with | [_, _], _ => rfl) fun A outer s H E hr => ?_)
  exact (ms_cons (ms_if (PW.pt (mw_or (mt_not (mt_truth (m_callO (ok_is_number T) hr (by rfl) (ma_cons (m_var 0) ma_nil)))) (mw_or (mt_not (mt_chain op_leM op_leM m_int (m_var 0) m_int)) (mw_or (mt_not (mt_truth (m_callO (ok_is_number T) hr (by rfl) (ma_cons (m_var 1) ma_nil)))) (mw_or1 (mt_not (mt_chain op_leM op_leM m_int (m_var 1) m_int))))))) mss_never ms_nil)
    (ms_cons (ms_set (i := 2) (m_lst (ma_cons (m_tup ma_nil) ma_nil)) sc_hockets.nd rfl (by first | exact Or.inl rfl | exact Or.inr rfl))
    (ms_cons (ms_for PassesOwn.never rfl (mi_range1 (by rfl) (T.free 28) (ma_cons (m_var 0) ma_nil)) (mg_name (i := 3) sc_hockets.nd rfl (by first | exact Or.inl rfl | exact Or.inr rfl)) (ms_one (ms_setLc2 (i := 2) (vs1 := [5]) rfl sc_hockets.nd rfl rfl (by first | rfl | exact sw_true rfl rfl rfl (by decide +kernel)) (mi_seqW (m_var 2)) (blkOk_by (own := [(("row" : Str), 4), (("hand" : Str), 5)]) (by rfl)) (fun _ _ _ _ _ => (mg_name (i := 4) sc_hockets.nd rfl (by first | exact Or.inl rfl | exact Or.inr rfl))) (fun _ _ _ _ _ => mts_nil) (fun _ _ _ _ _ => (mi_rangeX1 (by rfl) (T.free 28) (ma_cons (m_var 1) ma_nil))) (fun _ _ _ _ _ => (mg_name (i := 5) sc_hockets.nd rfl (by first | exact Or.inl rfl | exact Or.inr rfl))) (fun _ _ _ _ _ => (mts_one (PW.pt (mw_or (mt_cmp (op_eqM hr.u64) (m_callB cr_len (by rfl) (T.free 25) (by rfl) (ma_cons (m_var 4) ma_nil)) m_int) (mw_or1 (mt_cmp (op_neM hr.u64) (m_ix (m_var 4) (m_un un_negM m_int)) (m_var 5))))))) (fun _ _ _ _ _ => (m_bin op_addM (m_var 4) (m_tup (ma_cons (m_var 5) ma_nil)))))))
    (ms_one (ms_ret (m_Q (m_callTy cr_tup (by rfl) (T.free 30) (by rfl) (ma_cons (m_lc rfl sc_hockets.nd (mi_seqW (m_var 2)) (blkOk_by (own := [(("row" : Str), 4)]) (by rfl)) (fun _ _ _ _ _ => (mg_name (i := 4) sc_hockets.nd rfl (by first | exact Or.inl rfl | exact Or.inr rfl))) (fun _ _ _ _ _ => (mts_one (mt_cmp (op_neM hr.u64) (m_ix (m_var 4) m_int) (m_ix (m_var 4) (m_un un_negM m_int))))) (fun _ _ _ _ _ => (m_var 4))) ma_nil))))))))
/-! ### count_hockets -/
abbrev st_count_hockets : Stmt := top 25
theorem sc_count_hockets : FnScope ["many", "hands", "total", "turn"] ["many", "hands"] (defScope st_count_hockets) := ⟨rfl, rfl, rfl, by decide +kernel, rfl, by decide +kernel, by decide +kernel⟩
def m_count_hockets : SM := (mSeq (mIfS (mOrB (mNotB (mTru (mCall F_is_number (mCons (mVar 0) mNil)))) (mOrB (mNotB (mTest (mChain leD leD (mC (.int 1)) (mVar 0) (mC (.int 1000))))) (mOrB (mNotB (mTru (mCall F_is_number (mCons (mVar 1) mNil)))) (mNotB (mTest (mChain leD leD (mC (.int 1)) (mVar 1) (mC (.int 99)))))))) mNever mNext) (mSeq (mIfS (mTest (mBin eqD (mVar 0) (mC (.int 1)))) (mRet (mC (.int 0))) mNext) (mSeq (mSet 2 (mC (.int 1))) (mSeq (mFor (mRng1 (mCons (mVar 0) mNil)) (setN 3) (mSet 2 (mBin mulI (mVar 2) (mBin subD (mVar 1) (mC (.int 1)))))) (mRet (mBin addD (mVar 2) (mIfE (mTest (mBin eqD (mBin modD (mVar 0) (mC (.int 2))) (mC (.int 0)))) (mBin subD (mVar 1) (mC (.int 1))) (mBin subD (mC (.int 1)) (mVar 1)))))))))
def F_count_hockets : FM := FP (mBody m_count_hockets 2)
instance : QF F_count_hockets := inferInstanceAs (QF (FP _))
theorem ok_count_hockets {P : Program} {w : World} {K : PySem.W.Frag} {mg : Str → Option Value} {base h : Heap} (T : Tp fa fn tf w K mg base h) : OkF P w K mg base (tbs tf K) 2 "count_hockets" ["many", "hands"] 2 F_count_hockets := by
  refine OkF.pure (OkF.of (k := 1) (j := 2) (f := m_count_hockets) T 14 14 rfl rfl sc_count_hockets rfl rfl (fun _ _ _ _ _ _ us hl => match us, hl with | [_, _], _ => rfl) fun A outer s H E hr => ?_)
  exact (ms_cons (ms_if (PW.pt (mw_or (mt_not (mt_truth (m_callO (ok_is_number T) hr (by rfl) (ma_cons (m_var 0) ma_nil)))) (mw_or (mt_not (mt_chain op_leM op_leM m_int (m_var 0) m_int)) (mw_or (mt_not (mt_truth (m_callO (ok_is_number T) hr (by rfl) (ma_cons (m_var 1) ma_nil)))) (mw_or1 (mt_not (mt_chain op_leM op_leM m_int (m_var 1) m_int))))))) mss_never ms_nil)
    (ms_cons (ms_if (mt_cmp (op_eqM hr.u64) (m_var 0) m_int) (ms_one (ms_ret m_int)) ms_nil)
    (ms_cons (ms_set (i := 2) m_int sc_count_hockets.nd rfl (by first | exact Or.inl rfl | exact Or.inr rfl))
    (ms_cons (ms_for PassesOwn.never rfl (mi_range1 (by rfl) (T.free 28) (ma_cons (m_var 0) ma_nil)) (mg_name (i := 3) sc_count_hockets.nd rfl (by first | exact Or.inl rfl | exact Or.inr rfl)) (ms_one (ms_set (i := 2) (m_bin op_mulM (m_var 2) (m_bin op_subM (m_var 1) m_int)) sc_count_hockets.nd rfl (by first | exact Or.inl rfl | exact Or.inr rfl))))
    (ms_one (ms_ret (m_bin op_addM (m_var 2) (m_if (mt_cmp (op_eqM hr.u64) (m_bin op_modM (m_var 0) m_int) m_int) (m_bin op_subM (m_var 1) m_int) (m_bin op_subM m_int (m_var 1))))))))))
/-! ### joined_beats -/
abbrev st_joined_beats : Stmt := top 27
theorem sc_joined_beats : FnScope ["first", "second", "one", "total", "found", "at", "own"] ["first", "second"] (defScope st_joined_beats) := ⟨rfl, rfl, rfl, by decide +kernel, rfl, by decide +kernel, by decide +kernel⟩
def m_joined_beats : SM := (mSeq (mFor (mSeqS (mTup (mCons (mVar 0) (mCons (mVar 1) mNil)))) (setN 2) (mIfS (mOrB (mNotB (mTru (mCall F_is_number (mCons (mVar 2) mNil)))) (mNotB (mTest (mChain leD leD (mC (.int 1)) (mVar 2) (mC (.int 60)))))) mNever mNext)) (mSeq (mSet 3 (mBin fdivD (mBin mulI (mVar 0) (mVar 1)) (mCall F_common (mCons (mCall max2 (mCons (mVar 0) (mCons (mVar 1) mNil))) (mCons (mCall min2 (mCons (mVar 0) (mCons (mVar 1) mNil))) mNil))))) (mSeq (mSet 4 (mLst mNil)) (mSeq (mFor (mRng1 (mCons (mVar 3) mNil)) (setN 5) (mSeq (mSet 6 (mBin addD (mIfE (mTest (mBin eqD (mBin modD (mVar 5) (mBin fdivD (mVar 3) (mVar 0))) (mC (.int 0)))) (mC (.int 1)) (mC (.int 0))) (mIfE (mTest (mBin eqD (mBin modD (mVar 5) (mBin fdivD (mVar 3) (mVar 1))) (mC (.int 0)))) (mC (.int 2)) (mC (.int 0))))) (mIfS (mTest (mBin gtD (mVar 6) (mC (.int 0)))) (mDrop (mApp (mVar 4) (mTup (mCons (mVar 5) (mCons (mVar 6) mNil))))) mNext))) (mRet (mTup (mCons (mVar 3) (mCons (mCall tufL (mCons (mVar 4) mNil)) mNil))))))))
def F_joined_beats : FM := FP (mBody m_joined_beats 5)
instance : QF F_joined_beats := inferInstanceAs (QF (FP _))
theorem ok_joined_beats {P : Program} {w : World} {K : PySem.W.Frag} {mg : Str → Option Value} {base h : Heap} (T : Tp fa fn tf w K mg base h) : OkF P w K mg base (tbs tf K) 2 "joined_beats" ["first", "second"] 2 F_joined_beats := by
  refine OkF.pure (OkF.of (k := 1) (j := 5) (f := m_joined_beats) T 15 15 rfl rfl sc_joined_beats rfl rfl (fun _ _ _ _ _ _ us hl => match us, hl with | [_, _], _ => rfl) fun A outer s H E hr => ?_)
  exact (ms_cons (ms_for PassesOwn.never rfl (mi_seqS (m_tup (ma_cons (m_var 0) (ma_cons (m_var 1) ma_nil)))) (mg_name (i := 2) sc_joined_beats.nd rfl (by first | exact Or.inl rfl | exact Or.inr rfl)) (ms_one (ms_if (PW.pt (mw_or (mt_not (mt_truth (m_callO (ok_is_number T) hr (by rfl) (ma_cons (m_var 2) ma_nil)))) (mw_or1 (mt_not (mt_chain op_leM op_leM m_int (m_var 2) m_int))))) mss_never ms_nil)))
    (ms_cons (ms_set (i := 3) (m_bin op_fdivM (m_bin op_mulM (m_var 0) (m_var 1)) (m_callO (ok_common T) hr (by rfl) (ma_cons (m_callB (cr_max2 rfl) (by rfl) (T.free 26) (by rfl) (ma_cons (m_var 0) (ma_cons (m_var 1) ma_nil))) (ma_cons (m_callB (cr_min2 rfl) (by rfl) (T.free 27) (by rfl) (ma_cons (m_var 0) (ma_cons (m_var 1) ma_nil))) ma_nil)))) sc_joined_beats.nd rfl (by first | exact Or.inl rfl | exact Or.inr rfl))
    (ms_cons (ms_set (i := 4) (m_lst ma_nil) sc_joined_beats.nd rfl (by first | exact Or.inl rfl | exact Or.inr rfl))
    (ms_cons (ms_for PassesOwn.never rfl (mi_range1 (by rfl) (T.free 28) (ma_cons (m_var 3) ma_nil)) (mg_name (i := 5) sc_joined_beats.nd rfl (by first | exact Or.inl rfl | exact Or.inr rfl)) (ms_cons (ms_set (i := 6) (m_bin op_addM (m_if (mt_cmp (op_eqM hr.u64) (m_bin op_modM (m_var 5) (m_bin op_fdivM (m_var 3) (m_var 0))) m_int) m_int m_int) (m_if (mt_cmp (op_eqM hr.u64) (m_bin op_modM (m_var 5) (m_bin op_fdivM (m_var 3) (m_var 1))) m_int) m_int m_int)) sc_joined_beats.nd rfl (by first | exact Or.inl rfl | exact Or.inr rfl))
    (ms_one (ms_if (mt_cmp op_gtM (m_var 6) m_int) (ms_one (ms_expr (m_append (m_var 4) (m_tup (ma_cons (m_var 5) (ma_cons (m_var 6) ma_nil)))))) ms_nil))))
    (ms_one (ms_ret (m_tup (ma_cons (m_var 3) (ma_cons (m_callTy cr_tuf (by rfl) (T.free 30) (by rfl) (ma_cons (m_var 4) ma_nil)) ma_nil)))))))))
/-! ### _law_cell -/
abbrev st__law_cell : Stmt := top 29
theorem sc__law_cell : FnScope ["script", "k"] ["script", "k"] (defScope st__law_cell) := ⟨rfl, rfl, rfl, by decide +kernel, rfl, by decide +kernel, by decide +kernel⟩
def m__law_cell : SM := (mSeq (mIfS (mTest (mBin ltD (mVar 1) (mCall lenL (mCons (mVar 0) mNil)))) (mRet (mBin ixF (mVar 0) (mVar 1))) mNext) (mRet (mC (.int 0))))
def F__law_cell : FM := mBody m__law_cell 0
theorem ok__law_cell {P : Program} {w : World} {K : PySem.W.Frag} {mg : Str → Option Value} {base h : Heap} (T : Tp fa fn tf w K mg base h) : OkF P w K mg base (tbs tf K) 1 "_law_cell" ["script", "k"] 2 F__law_cell := by
  refine OkF.same (OkF.of (k := 0) (j := 0) (f := m__law_cell) T 16 16 rfl rfl sc__law_cell rfl rfl (fun _ _ _ _ _ _ us hl => match us, hl with | [_, _], _ => rfl) fun A outer s H E hr => ?_)
  exact (ms_cons (ms_if (mt_cmp op_ltM (m_var 1) (m_callB cr_len (by rfl) (T.free 25) (by rfl) (ma_cons (m_var 0) ma_nil))) (ms_one (ms_ret (m_ix (m_var 0) (m_var 1)))) ms_nil)
    (ms_one (ms_ret m_int)))
/-! ### _law_draws -/
abbrev st__law_draws : Stmt := top 30
theorem sc__law_draws : FnScope ["cell", "count", "result", "rest", "k", "mixed"] ["cell", "count"] (defScope st__law_draws) := ⟨rfl, rfl, rfl, by decide +kernel, rfl, by decide +kernel, by decide +kernel⟩
def m__law_draws : SM := (mSeq (mSet 2 (mLst mNil)) (mSeq (mSet 3 (mCall int1 (mCons (mVar 0) mNil))) (mSeq (mFor (mRng1 (mCons (mVar 1) mNil)) (setN 4) (mSeq (mSet 5 (mBin modD (mCall int1 (mCons (mBin addD (mBin addD (mBin mulI (mVar 0) (mC (.int 48271))) (mBin mulI (mVar 4) (mC (.int 69621)))) (mC (.int 1))) mNil)) (mC (.int 2147483647)))) (mIfS (mTest (mBin geD (mVar 0) (mBin powD (mC (.int 10)) (mC (.int 18))))) (mSeq (mDrop (mApp (mVar 2) (mBin modD (mVar 3) (mC (.int 1009))))) (mSet 3 (mBin fdivD (mVar 3) (mC (.int 1009))))) (mDrop (mApp (mVar 2) (mBin fdivD (mBin modD (mCall int1 (mCons (mBin addD (mBin mulI (mVar 5) (mVar 5)) (mBin mulI (mVar 5) (mC (.int 40692)))) mNil)) (mC (.int 2147483399))) (mC (.int 7)))))))) (mRet (mVar 2)))))
def F__law_draws : FM := FP (mBody m__law_draws 4)
instance : QF F__law_draws := inferInstanceAs (QF (FP _))
theorem ok__law_draws {P : Program} {w : World} {K : PySem.W.Frag} {mg : Str → Option Value} {base h : Heap} (T : Tp fa fn tf w K mg base h) : OkF P w K mg base (tbs tf K) 1 "_law_draws" ["cell", "count"] 2 F__law_draws := by
  refine OkF.pure (OkF.of (k := 0) (j := 4) (f := m__law_draws) T 17 17 rfl rfl sc__law_draws rfl rfl (fun _ _ _ _ _ _ us hl => match us, hl with | [_, _], _ => rfl) fun A outer s H E hr => ?_)
  exact (ms_cons (ms_set (i := 2) (m_lst ma_nil) sc__law_draws.nd rfl (by first | exact Or.inl rfl | exact Or.inr rfl))
    (ms_cons (ms_set (i := 3) (m_callTy cr_int (by rfl) (T.free 23) (by rfl) (ma_cons (m_var 0) ma_nil)) sc__law_draws.nd rfl (by first | exact Or.inl rfl | exact Or.inr rfl))
    (ms_cons (ms_for PassesOwn.never rfl (mi_range1 (by rfl) (T.free 28) (ma_cons (m_var 1) ma_nil)) (mg_name (i := 4) sc__law_draws.nd rfl (by first | exact Or.inl rfl | exact Or.inr rfl)) (ms_cons (ms_set (i := 5) (m_bin op_modM (m_callTy cr_int (by rfl) (T.free 23) (by rfl) (ma_cons (m_bin op_addM (m_bin op_addM (m_bin op_mulM (m_var 0) m_int) (m_bin op_mulM (m_var 4) m_int)) m_int) ma_nil)) m_int) sc__law_draws.nd rfl (by first | exact Or.inl rfl | exact Or.inr rfl))
    (ms_one (ms_if (mt_cmp op_geM (m_var 0) (m_bin op_powM m_int m_int)) (ms_cons (ms_expr (m_append (m_var 2) (m_bin op_modM (m_var 3) m_int)))
    (ms_one (ms_set (i := 3) (m_bin op_fdivM (m_var 3) m_int) sc__law_draws.nd rfl (by first | exact Or.inl rfl | exact Or.inr rfl)))) (ms_one (ms_expr (m_append (m_var 2) (m_bin op_fdivM (m_bin op_modM (m_callTy cr_int (by rfl) (T.free 23) (by rfl) (ma_cons (m_bin op_addM (m_bin op_mulM (m_var 5) (m_var 5)) (m_bin op_mulM (m_var 5) m_int)) ma_nil)) m_int) m_int))))))))
    (ms_one (ms_ret (m_var 2))))))
/-! ### _law_common -/
abbrev st__law_common : Stmt := top 31
theorem sc__law_common : FnScope ["first", "second"] ["first", "second"] (defScope st__law_common) := ⟨rfl, rfl, rfl, by decide +kernel, rfl, by decide +kernel, by decide +kernel⟩
def m__law_common : SM := (mSeq (mWhile 40 (mTest (mBin gtD (mVar 1) (mC (.int 0)))) (mPar 0 1 (mCons (mVar 1) (mCons (mBin modD (mVar 0) (mVar 1)) mNil)))) (mRet (mVar 0)))
def F__law_common : FM := FP (mBody m__law_common 0)
instance : QF F__law_common := inferInstanceAs (QF (FP _))
theorem ok__law_common {P : Program} {w : World} {K : PySem.W.Frag} {mg : Str → Option Value} {base h : Heap} (T : Tp fa fn tf w K mg base h) : OkF P w K mg base (tbs tf K) 1 "_law_common" ["first", "second"] 2 F__law_common := by
  refine OkF.pure (OkF.of (k := 0) (j := 0) (f := m__law_common) T 18 18 rfl rfl sc__law_common rfl rfl (fun _ _ _ _ _ _ us hl => match us, hl with | [_, _], _ => rfl) fun A outer s H E hr => ?_)
  exact (ms_cons (ms_while 40 PassesOwn.never (mt_cmp op_gtM (m_var 1) m_int) (ms_one (ms_par (i := 0) (j := 1) rfl sc__law_common.nd rfl rfl (by decide) rfl rfl (ma_cons (m_var 1) (ma_cons (m_bin op_modM (m_var 0) (m_var 1)) ma_nil)) (by rfl))))
    (ms_one (ms_ret (m_var 0))))
/-! ### law -/
abbrev st_law : Stmt := top 32
theorem sc_law : FnScope ["script", "n", "many", "hands", "rows", "firsts", "kinds", "due", "first", "second", "total", "marks", "one", "two", "both", "table", "at", "row", "k", "turn"] ["script"] (defScope st_law) := ⟨rfl, rfl, rfl, by decide +kernel, rfl, by decide +kernel, by decide +kernel⟩
def len_law : Nat := 20
/- places: script 0, n 1, many 2, hands 3, rows 4, firsts 5, kinds 6, due 7, first 8, second 9, total 10, marks 11, one 12, two 13, both 14, table 15, at 16, row 17, k 18, turn 19 -/
def m0_law : SM := (mSet 1 (mCall F__law_draws (mCons (mCall F__law_cell (mCons (mVar 0) (mCons (mC (.int 0)) mNil))) (mCons (mC (.int 8)) mNil))))
def m1_law : SM := (mAsgT (setT [2, 3]) (mTup (mCons (mBin addD (mBin modD (mBin ixF (mVar 1) (mC (.int 0))) (mC (.int 5))) (mC (.int 2))) (mCons (mBin addD (mBin modD (mBin ixF (mVar 1) (mC (.int 1))) (mC (.int 4))) (mC (.int 1))) mNil))))
def m2_law : SM := mSeq (mSet 4 (mCall F_hockets (mCons (mVar 2) (mCons (mVar 3) mNil))))
  (mSeq (mIfS (mTest (mBin (notF eqD) (mCall lenL (mCons (mVar 4) mNil)) (mCall F_count_hockets (mCons (mVar 2) (mCons (mVar 3) mNil))))) (mRet (mC (.bl false))) mNext)
  (mSeq (mSet 5 (mLc (mSeqW (mVar 4)) (setN 17) mYes (mCall F_least_turn (mCons (mVar 3) (mCons (mVar 17) mNil))) [17]))
  (mSeq (mSet 6 (mQ (mIfE (mTest (mBin ltD (mCall lenL (mCons (mVar 5) mNil)) (mC (.int 300)))) (mQ (mCall lenL (mCons (mLc (mRng1 (mCons (mCall lenL (mCons (mVar 5) mNil)) mNil)) (setN 18) (mTest (mBin (notF inX) (mBin ixF (mVar 5) (mVar 18)) (mSl slF (mVar 5) mNoPart (mPart (mVar 18))))) (mVar 18) [18]) mNil))) (mC .non))))
  (mSeq (mSet 7 (mQ (mCall sumL (mCons (mLc (mRng1 (mCons (mVar 2) mNil)) (setN 19) mYes (mCall F_count_hockets (mCons (mCall F__law_common (mCons (mVar 2) (mCons (mVar 19) mNil))) (mCons (mVar 3) mNil))) [19]) mNil))))
  ((mIfS (mOrB (mTest (mBin (notF eqD) (mBin modD (mVar 7) (mVar 2)) (mC (.int 0)))) (mOrB (mAndB (mTest (mBin (notF isD) (mVar 6) (mC .non))) (mTest (mBin (notF eqD) (mBin mulI (mVar 6) (mVar 2)) (mVar 7)))) (mTest (mBin gtD (mBin fdivD (mVar 7) (mVar 2)) (mCall F_rings (mCons (mVar 3) (mCons (mVar 2) mNil))))))) (mRet (mC (.bl false))) mNext))))))
def m3_law : SM := (mPar 8 9 (mCons (mBin addD (mBin modD (mBin ixF (mVar 1) (mC (.int 2))) (mC (.int 12))) (mC (.int 1))) (mCons (mBin addD (mBin modD (mBin ixF (mVar 1) (mC (.int 3))) (mC (.int 12))) (mC (.int 1))) mNil)))
def m4_law : SM := mSeq (mAsgT (setT [10, 11]) (mCall F_joined_beats (mCons (mVar 8) (mCons (mVar 9) mNil))))
  (mSeq (mSet 12 (mQ (mCall tupL (mCons (mLc (mRng1 (mCons (mBin fdivD (mVar 10) (mVar 8)) mNil)) (setN 18) mYes (mCall int1 (mCons (mBin eqD (mVar 18) (mC (.int 0))) mNil)) [18]) mNil))))
  (mSeq (mSet 13 (mQ (mCall tupL (mCons (mLc (mRng1 (mCons (mBin fdivD (mVar 10) (mVar 9)) mNil)) (setN 18) mYes (mCall int1 (mCons (mBin eqD (mVar 18) (mC (.int 0))) mNil)) [18]) mNil))))
  (mSeq (mSet 14 (mIfE (mAndB (mTest (mBin leD (mBin fdivD (mVar 10) (mVar 8)) (mC (.int 24)))) (mTest (mBin leD (mBin fdivD (mVar 10) (mVar 9)) (mC (.int 24))))) (mNrm (mCall F_joined_patterns (mCons (mTup (mCons (mVar 12) (mCons (mVar 13) mNil))) mNil))) (mTup mNil)))
  (mSeq (mSet 15 (mQ (mCall dictL (mCons (mVar 11) mNil))))
  (mSeq (mFor (mRng1 (mCons (mCall lenL (mCons (mVar 14) mNil)) mNil)) (setN 16) (mIfS (mQB (mTest (mBin (notF eqD) (mBin ixF (mVar 14) (mVar 16)) (mGet2 (mDisp (mPcons (mC (.int 1)) (mC (.int 1)) (mPcons (mC (.int 2)) (mC (.int 1)) (mPcons (mC (.int 3)) (mC (.int 2)) mPnil)))) (mGet2 (mVar 15) (mBin modD (mVar 16) (mVar 10)) (mC (.int 0))) (mC (.int 0)))))) (mRet (mC (.bl false))) mNext))
  (mSeq (mIfS (mAndB (mTest (mBin gtD (mCall lenL (mCons (mVar 14) mNil)) (mC (.int 0)))) (mOrB (mTest (mBin (notF eqD) (mCall F_clash (mCons (mVar 12) (mCons (mVar 13) mNil))) (mC (.int 0)))) (mTru (mCall F_never_clash (mCons (mVar 12) (mCons (mVar 13) mNil)))))) (mRet (mC (.bl false))) mNext)
  ((mRet (mC (.bl true))))))))))
theorem pss_law {P : Program} {w : World} {K : PySem.W.Frag} {mg : Str → Option Value} {base h : Heap} (T : Tp fa fn tf w K mg base h) (A : Around) (outer : List Env) (s : Shared) (H : Hp) (E : XK) (hr : Room 6 (DX P w K mg base ["script", "n", "many", "hands", "rows", "firsts", "kinds", "due", "first", "second", "total", "marks", "one", "two", "both", "table", "at", "row", "k", "turn"] st_law "law" A outer s H E).A) :
    PSs (DX P w K mg base ["script", "n", "many", "hands", "rows", "firsts", "kinds", "due", "first", "second", "total", "marks", "one", "two", "both", "table", "at", "row", "k", "turn"] st_law "law" A outer s H E) (defBody st_law) (TSK ⟨K, tbs tf K⟩ m0_law (TSK ⟨K, tbs tf K⟩ m1_law (TSK ⟨K, tbs tf K⟩ m2_law (TSK ⟨K, tbs tf K⟩ m3_law (TSM ⟨K, tbs tf K⟩ m4_law))))) :=
  (mk_one (ms_set (i := 1) (m_callO (ok__law_draws T) (hr.mono (by decide)) (by rfl) (ma_cons (m_callO (ok__law_cell T) (hr.mono (by decide)) (by rfl) (ma_cons (m_var 0) (ma_cons m_int ma_nil))) (ma_cons m_int ma_nil))) sc_law.nd rfl (by first | exact Or.inl rfl | exact Or.inr rfl))
    (mk_one (ms_asg (m_tup (ma_cons (m_bin op_addM (m_bin op_modM (m_ix (m_var 1) m_int) m_int) m_int) (ma_cons (m_bin op_addM (m_bin op_modM (m_ix (m_var 1) m_int) m_int) m_int) ma_nil))) (mg_tup (is := [2, 3]) rfl (mgs_cons (i := 2) sc_law.nd rfl (by first | exact Or.inl rfl | exact Or.inr rfl) (mgs_cons (i := 3) sc_law.nd rfl (by first | exact Or.inl rfl | exact Or.inr rfl) mgs_nil))))
    (mk_cons (ms_set (i := 4) (m_callO (ok_hockets T) (hr.mono (by decide)) (by rfl) (ma_cons (m_var 2) (ma_cons (m_var 3) ma_nil))) sc_law.nd rfl (by first | exact Or.inl rfl | exact Or.inr rfl))
    (mk_cons (ms_if (mt_cmp (op_neM hr.u64) (m_callB cr_len (by rfl) (T.free 25) (by rfl) (ma_cons (m_var 4) ma_nil)) (m_callO (ok_count_hockets T) (hr.mono (by decide)) (by rfl) (ma_cons (m_var 2) (ma_cons (m_var 3) ma_nil)))) (ms_one (ms_ret m_bl)) ms_nil)
    (mk_cons (ms_set (i := 5) (m_lc rfl sc_law.nd (mi_seqW (m_var 4)) (blkOk_by (own := [(("row" : Str), 17)]) (by rfl)) (fun _ _ _ _ _ => (mg_name (i := 17) sc_law.nd rfl (by first | exact Or.inl rfl | exact Or.inr rfl))) (fun _ _ _ _ _ => mts_nil) (fun _ _ _ _ _ => (m_callO (ok_least_turn T) (hr.mono (by decide)) (by rfl) (ma_cons (m_var 3) (ma_cons (m_var 17) ma_nil))))) sc_law.nd rfl (by first | exact Or.inl rfl | exact Or.inr rfl))
    (mk_cons (ms_set (i := 6) (m_Q (m_if (mt_cmp op_ltM (m_callB cr_len (by rfl) (T.free 25) (by rfl) (ma_cons (m_var 5) ma_nil)) m_int) (m_Q (m_callB cr_len (by rfl) (T.free 25) (by rfl) (ma_cons (m_lc rfl sc_law.nd (mi_w (mi_range1 (by rfl) (T.free 28) (ma_cons (m_callB cr_len (by rfl) (T.free 25) (by rfl) (ma_cons (m_var 5) ma_nil)) ma_nil))) (blkOk_by (own := [(("k" : Str), 18)]) (by rfl)) (fun _ _ _ _ _ => (mg_name (i := 18) sc_law.nd rfl (by first | exact Or.inl rfl | exact Or.inr rfl))) (fun _ _ _ _ _ => (mts_one (mt_cmp (op_notInX hr.u65) (m_ix (m_var 5) (m_var 18)) (m_slice (m_var 5) mo_none (mo_some (m_var 18)))))) (fun _ _ _ _ _ => (m_var 18))) ma_nil))) m_non)) sc_law.nd rfl (by first | exact Or.inl rfl | exact Or.inr rfl))
    (mk_cons (ms_set (i := 7) (m_Q (m_callB (cr_sumM rfl) (by rfl) (T.free 29) (by rfl) (ma_cons (m_lc rfl sc_law.nd (mi_w (mi_range1 (by rfl) (T.free 28) (ma_cons (m_var 2) ma_nil))) (blkOk_by (own := [(("turn" : Str), 19)]) (by rfl)) (fun _ _ _ _ _ => (mg_name (i := 19) sc_law.nd rfl (by first | exact Or.inl rfl | exact Or.inr rfl))) (fun _ _ _ _ _ => mts_nil) (fun _ _ _ _ _ => (m_callO (ok_count_hockets T) (hr.mono (by decide)) (by rfl) (ma_cons (m_callO (ok__law_common T) (hr.mono (by decide)) (by rfl) (ma_cons (m_var 2) (ma_cons (m_var 19) ma_nil))) (ma_cons (m_var 3) ma_nil))))) ma_nil))) sc_law.nd rfl (by first | exact Or.inl rfl | exact Or.inr rfl))
    (mk_one (ms_if (PW.pt (mw_or (mt_cmp (op_neM hr.u64) (m_bin op_modM (m_var 7) (m_var 2)) m_int) (mw_or (PW.pt (mw_and (mt_cmp op_isNotM (m_var 6) m_non) (mw_and1 (mt_cmp (op_neM hr.u64) (m_bin op_mulM (m_var 6) (m_var 2)) (m_var 7))))) (mw_or1 (mt_cmp op_gtM (m_bin op_fdivM (m_var 7) (m_var 2)) (m_callO (ok_rings T) (hr.mono (by decide)) (by rfl) (ma_cons (m_var 3) (ma_cons (m_var 2) ma_nil)))))))) (ms_one (ms_ret m_bl)) ms_nil)
    (mk_one (ms_par (i := 8) (j := 9) rfl sc_law.nd rfl rfl (by decide) rfl rfl (ma_cons (m_bin op_addM (m_bin op_modM (m_ix (m_var 1) m_int) m_int) m_int) (ma_cons (m_bin op_addM (m_bin op_modM (m_ix (m_var 1) m_int) m_int) m_int) ma_nil)) (by rfl))
    (ms_cons (ms_asg (m_callO (ok_joined_beats T) (hr.mono (by decide)) (by rfl) (ma_cons (m_var 8) (ma_cons (m_var 9) ma_nil))) (mg_tup (is := [10, 11]) rfl (mgs_cons (i := 10) sc_law.nd rfl (by first | exact Or.inl rfl | exact Or.inr rfl) (mgs_cons (i := 11) sc_law.nd rfl (by first | exact Or.inl rfl | exact Or.inr rfl) mgs_nil))))
    (ms_cons (ms_set (i := 12) (m_Q (m_callTy cr_tup (by rfl) (T.free 30) (by rfl) (ma_cons (m_lc rfl sc_law.nd (mi_w (mi_range1 (by rfl) (T.free 28) (ma_cons (m_bin op_fdivM (m_var 10) (m_var 8)) ma_nil))) (blkOk_by (own := [(("k" : Str), 18)]) (by rfl)) (fun _ _ _ _ _ => (mg_name (i := 18) sc_law.nd rfl (by first | exact Or.inl rfl | exact Or.inr rfl))) (fun _ _ _ _ _ => mts_nil) (fun _ _ _ _ _ => (m_callTy cr_int (by rfl) (T.free 23) (by rfl) (ma_cons (m_cmp (op_eqM hr.u64) (m_var 18) m_int) ma_nil)))) ma_nil))) sc_law.nd rfl (by first | exact Or.inl rfl | exact Or.inr rfl))
    (ms_cons (ms_set (i := 13) (m_Q (m_callTy cr_tup (by rfl) (T.free 30) (by rfl) (ma_cons (m_lc rfl sc_law.nd (mi_w (mi_range1 (by rfl) (T.free 28) (ma_cons (m_bin op_fdivM (m_var 10) (m_var 9)) ma_nil))) (blkOk_by (own := [(("k" : Str), 18)]) (by rfl)) (fun _ _ _ _ _ => (mg_name (i := 18) sc_law.nd rfl (by first | exact Or.inl rfl | exact Or.inr rfl))) (fun _ _ _ _ _ => mts_nil) (fun _ _ _ _ _ => (m_callTy cr_int (by rfl) (T.free 23) (by rfl) (ma_cons (m_cmp (op_eqM hr.u64) (m_var 18) m_int) ma_nil)))) ma_nil))) sc_law.nd rfl (by first | exact Or.inl rfl | exact Or.inr rfl))
    (ms_cons (ms_set (i := 14) (m_if (PW.pt (mw_and (mt_cmp op_leM (m_bin op_fdivM (m_var 10) (m_var 8)) m_int) (mw_and1 (mt_cmp op_leM (m_bin op_fdivM (m_var 10) (m_var 9)) m_int)))) (m_nrm (m_callO (ok_joined_patterns T) (hr.mono (by decide)) (by rfl) (ma_cons (m_tup (ma_cons (m_var 12) (ma_cons (m_var 13) ma_nil))) ma_nil))) (m_tup ma_nil)) sc_law.nd rfl (by first | exact Or.inl rfl | exact Or.inr rfl))
    (ms_cons (ms_set (i := 15) (m_Q (m_callTy (cr_dictL rfl) (by rfl) (T.free 22) (by rfl) (ma_cons (m_var 11) ma_nil))) sc_law.nd rfl (by first | exact Or.inl rfl | exact Or.inr rfl))
    (ms_cons (ms_for PassesOwn.never rfl (mi_range1 (by rfl) (T.free 28) (ma_cons (m_callB cr_len (by rfl) (T.free 25) (by rfl) (ma_cons (m_var 14) ma_nil)) ma_nil)) (mg_name (i := 16) sc_law.nd rfl (by first | exact Or.inl rfl | exact Or.inr rfl)) (ms_one (ms_if (mt_Q (mt_cmp (op_neM hr.u64) (m_ix (m_var 14) (m_var 16)) (m_get2 hr.u1 (m_disp' (mp_cons m_int m_int (mp_cons m_int m_int (mp_cons m_int m_int mp_nil)))) (m_get2 hr.u1 (m_var 15) (m_bin op_modM (m_var 16) (m_var 10)) m_int) m_int))) (ms_one (ms_ret m_bl)) ms_nil)))
    (ms_cons (ms_if (PW.pt (mw_and (mt_cmp op_gtM (m_callB cr_len (by rfl) (T.free 25) (by rfl) (ma_cons (m_var 14) ma_nil)) m_int) (mw_and1 (PW.pt (mw_or (mt_cmp (op_neM hr.u64) (m_callO (ok_clash T) hr (by rfl) (ma_cons (m_var 12) (ma_cons (m_var 13) ma_nil))) m_int) (mw_or1 (mt_truth (m_callO (ok_never_clash T) (hr.mono (by decide)) (by rfl) (ma_cons (m_var 12) (ma_cons (m_var 13) ma_nil)))))))))) (ms_one (ms_ret m_bl)) ms_nil)
    (ms_one (ms_ret m_bl))))))))))))))))))
/-! ### the plain part -/
def rho2 (i j : Int) : En := [none, some (.ref 0), some (.int i), some (.int j)] ++ List.replicate 16 none
def rho4 (i j : Int) : En := [none, none, none, none, none, none, none, none, some (.int i), some (.int j)] ++ List.replicate 10 none
abbrev Fine2 (i j : Int) : Prop := ∀ L : List D, look1 (m2_law (rho2 i j) [.lst L]) = (some (some (.ref 0)), some (.lst L), 20)
theorem p2_2_1 : Fine2 2 1 := by intro L; kernel_rfl
theorem p2_2_2 : Fine2 2 2 := by intro L; kernel_rfl
theorem p2_2_3 : Fine2 2 3 := by intro L; kernel_rfl
theorem p2_2_4 : Fine2 2 4 := by intro L; kernel_rfl
theorem p2_3_1 : Fine2 3 1 := by intro L; kernel_rfl
theorem p2_3_2 : Fine2 3 2 := by intro L; kernel_rfl
theorem p2_3_3 : Fine2 3 3 := by intro L; kernel_rfl
theorem p2_3_4 : Fine2 3 4 := by intro L; kernel_rfl
theorem p2_4_1 : Fine2 4 1 := by intro L; kernel_rfl
theorem p2_4_2 : Fine2 4 2 := by intro L; kernel_rfl
theorem p2_4_3 : Fine2 4 3 := by intro L; kernel_rfl
theorem p2_4_4 : Fine2 4 4 := by intro L; kernel_rfl
theorem p2_5_1 : Fine2 5 1 := by intro L; kernel_rfl
theorem p2_5_2 : Fine2 5 2 := by intro L; kernel_rfl
theorem p2_5_3 : Fine2 5 3 := by intro L; kernel_rfl
theorem p2_5_4 : Fine2 5 4 := by intro L; kernel_rfl
theorem p2_6_1 : Fine2 6 1 := by intro L; kernel_rfl
theorem p2_6_2 : Fine2 6 2 := by intro L; kernel_rfl
theorem p2_6_3 : Fine2 6 3 := by intro L; kernel_rfl
theorem p2_6_4 : Fine2 6 4 := by intro L; kernel_rfl
theorem p2 (x y : Int) : Fine2 (x % 5 + 2) (y % 4 + 1) := by
  have hx : x % 5 = 0 ∨ x % 5 = 1 ∨ x % 5 = 2 ∨ x % 5 = 3 ∨ x % 5 = 4 := by omega
  have hy : y % 4 = 0 ∨ y % 4 = 1 ∨ y % 4 = 2 ∨ y % 4 = 3 := by omega
  rcases hx with h | h | h | h | h <;> rcases hy with h2 | h2 | h2 | h2 <;> rw [h, h2]
  · exact p2_2_1
  · exact p2_2_2
  · exact p2_2_3
  · exact p2_2_4
  · exact p2_3_1
  · exact p2_3_2
  · exact p2_3_3
  · exact p2_3_4
  · exact p2_4_1
  · exact p2_4_2
  · exact p2_4_3
  · exact p2_4_4
  · exact p2_5_1
  · exact p2_5_2
  · exact p2_5_3
  · exact p2_5_4
  · exact p2_6_1
  · exact p2_6_2
  · exact p2_6_3
  · exact p2_6_4
theorem p4_1 : ∀ j : Fin 12, isT (m4_law (rho4 1 (j.val + 1 : Nat)) []) = true := by decide +kernel
theorem p4_2 : ∀ j : Fin 12, isT (m4_law (rho4 2 (j.val + 1 : Nat)) []) = true := by decide +kernel
theorem p4_3 : ∀ j : Fin 12, isT (m4_law (rho4 3 (j.val + 1 : Nat)) []) = true := by decide +kernel
theorem p4_4 : ∀ j : Fin 12, isT (m4_law (rho4 4 (j.val + 1 : Nat)) []) = true := by decide +kernel
theorem p4_5 : ∀ j : Fin 12, isT (m4_law (rho4 5 (j.val + 1 : Nat)) []) = true := by decide +kernel
theorem p4_6 : ∀ j : Fin 12, isT (m4_law (rho4 6 (j.val + 1 : Nat)) []) = true := by decide +kernel
theorem p4_7 : ∀ j : Fin 12, isT (m4_law (rho4 7 (j.val + 1 : Nat)) []) = true := by decide +kernel
theorem p4_8 : ∀ j : Fin 12, isT (m4_law (rho4 8 (j.val + 1 : Nat)) []) = true := by decide +kernel
theorem p4_9 : ∀ j : Fin 12, isT (m4_law (rho4 9 (j.val + 1 : Nat)) []) = true := by decide +kernel
theorem p4_10 : ∀ j : Fin 12, isT (m4_law (rho4 10 (j.val + 1 : Nat)) []) = true := by decide +kernel
theorem p4_11 : ∀ j : Fin 12, isT (m4_law (rho4 11 (j.val + 1 : Nat)) []) = true := by decide +kernel
theorem p4_12 : ∀ j : Fin 12, isT (m4_law (rho4 12 (j.val + 1 : Nat)) []) = true := by decide +kernel
theorem p4' : ∀ (i j : Fin 12), isT (m4_law (rho4 (i.val + 1 : Nat) (j.val + 1 : Nat)) []) = true := fun i j => match i with
  | ⟨0, _⟩ => p4_1 j
  | ⟨1, _⟩ => p4_2 j
  | ⟨2, _⟩ => p4_3 j
  | ⟨3, _⟩ => p4_4 j
  | ⟨4, _⟩ => p4_5 j
  | ⟨5, _⟩ => p4_6 j
  | ⟨6, _⟩ => p4_7 j
  | ⟨7, _⟩ => p4_8 j
  | ⟨8, _⟩ => p4_9 j
  | ⟨9, _⟩ => p4_10 j
  | ⟨10, _⟩ => p4_11 j
  | ⟨11, _⟩ => p4_12 j
theorem p4 (x y : Int) : isT (m4_law (rho4 (x % 12 + 1) (y % 12 + 1)) []) = true := by
  have h1 := Int.emod_nonneg x (show (12 : Int) ≠ 0 by decide)
  have h2 := Int.emod_lt_of_pos x (show (0 : Int) < 12 by decide)
  have h3 := Int.emod_nonneg y (show (12 : Int) ≠ 0 by decide)
  have h4 := Int.emod_lt_of_pos y (show (0 : Int) < 12 by decide)
  have e := p4' ⟨(x % 12).toNat, by omega⟩ ⟨(y % 12).toNat, by omega⟩
  have e1 : (((x % 12).toNat + 1 : Nat) : Int) = x % 12 + 1 := by omega
  have e2 : (((y % 12).toNat + 1 : Nat) : Int) = y % 12 + 1 := by omega
  simp only [e1, e2] at e
  exact e
theorem eight {a : List Int} (h : a.length = 8) : ∃ x y z w r, a = x :: y :: z :: w :: r := by
  match a, h with
  | x :: y :: z :: w :: r, _ => exact ⟨x, y, z, w, r, rfl⟩
theorem pure_law {K : PySem.W.Frag} (W : Ends) (σ : L2.St) (H : Hp) (d : D) (hs : Hs) (m : List Addr) (ns : List Int) (hL : Lies d hs ns) (_ : ns.length ≤ 63) (hb : ∀ z ∈ ns, Builtin.Int.intBits z ≤ 1048576) (hr : HR ⟨K, tbs tf K⟩ m hs H) (sl : SL ⟨K, tbs tf K⟩ H m (some d :: List.replicate (len_law - 1) none) σ) (hw : ∀ H', W.rt (.bl true) H') :
    TSK ⟨K, tbs tf K⟩ m0_law (TSK ⟨K, tbs tf K⟩ m1_law (TSK ⟨K, tbs tf K⟩ m2_law (TSK ⟨K, tbs tf K⟩ m3_law (TSM ⟨K, tbs tf K⟩ m4_law)))) W σ H := by
  refine law_step0 (count := 8) (j := 18) hL hb hr sl (by decide) fun a σ1 H1 b1 ha hr1 sl1 => ?_
  obtain ⟨x, y, z, w, r, rfl⟩ := eight ha
  refine step_nx hr1 sl1 (ρ' := rho2 (x % 5 + 2) (y % 4 + 1)) (hs' := [.lst (iL (x :: y :: z :: w :: r))]) (by rfl) fun σ2 H2 m2 hr2 sl2 => ?_
  obtain ⟨ρ3, hs3, e3, q1, q2, q3⟩ := look1_ex (p2 x y (iL (x :: y :: z :: w :: r)))
  refine step_nx hr2 sl2 e3 fun σ3 H3 m3 hr3 sl3 => ?_
  obtain ⟨b4, hr4, sl4⟩ := junction (j := 18) hr3 sl3 q1 q2 q3
  refine step_nx hr4 sl4 (ρ' := [none, some (.ref 0), none, none, none, none, none, none, some (.int (z % 12 + 1)), some (.int (w % 12 + 1))] ++ List.replicate 10 none) (hs' := [.lst (iL (x :: y :: z :: w :: r))]) (by rfl) fun σ5 H5 m5 hr5 sl5 => ?_
  obtain ⟨hr6, sl6⟩ := junction0 (ρ' := rho4 (z % 12 + 1) (w % 12 + 1)) hr5 sl5 rfl fun i d h => by
    unfold rho4 at h
    match i, h with
    | 0, h => cases h
    | 1, h => cases h
    | 2, h => cases h
    | 3, h => cases h
    | 4, h => cases h
    | 5, h => cases h
    | 6, h => cases h
    | 7, h => cases h
    | 8, h =>
      cases h
      exact ⟨rfl, _, rfl⟩
    | 9, h =>
      cases h
      exact ⟨rfl, _, rfl⟩
    | i + 10, h =>
      rw [List.getElem?_append_right (by simp), List.getElem?_replicate] at h
      split at h <;> cases h
  obtain ⟨hs7, e7⟩ := isT_ex (p4 z w)
  exact step_ret hr6 sl6 e7 hw
abbrev hk : PySem.W.Hook := He.hookX 4 fa fn [] tf fun _ => true
def ob (s : PySem.W.SharedT) : He.AlX := He.obsX 4 fa fn [] tf (fun _ => true) (HandSHeadRun.getT s)
theorem ob_eq (s : PySem.W.SharedT) : ob s = hk.obs s.abs := He.obsX_eq (HandSHeadRun.getT_eq s)
theorem run (w : World) : HandSHeadRun.RunEq R (PySem.W.view R.prog [32]) hk ob 6000 nms w := by
  intro os
  kernel_rfl
/-- the law keeps its promise -/
theorem okd_law {P : Program} {w : World} {K : PySem.W.Frag} {mg : Str → Option Value} {base h : Heap} {fd : FuncData} (T : Tp fa fn tf w K mg base h) (FD : FunD K "law" "law" (defArgs st_law) (defBody st_law) (defScope st_law) [] [] (He.fAd K ("law", none)) fd) :
    FnOk P w K mg base CX0 7 (He.fAd K ("law", none)) fd ["script"] (spLaw ⟨K, tbs tf K⟩) :=
  fun_okL (k := 6) (j := len_law - 1) FD sc_law rfl (fun A outer s H E hr => pss_law T A outer s H E hr) pure_law
end K_
open PySem PySem.W PySem.Calls PyProof.Rows
theorem PySem.Challenge.cw_tuneworks_k07_whole_hockets_and_rings_holds : PySem.Challenge.rw_tuneworks_k07_whole_hockets_and_rings.Holds := by
  w_on; o_law
  refine HandSHeadRun.head_any (r := K_.R) (q := view K_.R.prog [32]) (H := K_.hk) (ob := K_.ob) (M := 6000) (loose := K_.nms) (d := HandSHeadRun.topDef K_.R.prog 32) (kwd := []) K_.ob_eq
    (by kernel_rfl) (fun s => by kernel_rfl) K_.run (by kernel_rfl) (by kernel_rfl) (by kernel_rfl) (by rfl) (by first | assumption | decide +kernel) (by decide +kernel) ⟨rfl, rfl, rfl, rfl, rfl, by decide +kernel⟩ ?hw ?hc
  case hw => w_witness2
  case hc =>
    refine LamX.walk_ofTsE (l := PySem.Challenge.rw_tuneworks_k07_whole_hockets_and_rings) (n := 63) (k := 7) (x := "script") (CX := fun _ => L2.CX0) rfl (by decide) (by kernel_rfl) ⟨rfl, by decide, by decide⟩ ?F (fun _ _ _ _ _ z => z)
    intro w mg fa h Y G hmg0
    obtain ⟨K, KX, c⟩ := Y
    have hmg : mg ("law" : PySem.Str) = some (.ref fa) := by
      have e : (HandSHeadRun.topDef K_.R.prog 32).name = ("law" : PySem.Str) := by kernel_rfl
      rw [← e]
      exact hmg0
    exact ⟨K, KX, Mir.law_at KX G hmg c 19 19 rfl rfl (fun _ _ _ _ _ _ us hl => match us, hl with | [_], _ => rfl) fun base fd T FD => K_.okd_law T FD⟩
