import PyProof.Rows.All
import HandS.ForMost
import HandS.Exc
import HandS.TryOnly
import HandS.ExcOwn
import HandS.WordsExc
import HandS.AnyAll
import KE.KDictKeyed
import KE.KDictCopyH
import HandS.TupAny
import HandS.TupLe
import HandS.Wide
import HandS.WideBits
import HandS.Deep
import HandS.IsInst
import HandS.TupMul
import HandS.Text
import PyProof.Rows.SeqMore
import KE.KMulAny
import HandS.Rev
import HandS.RevTup
import HandS.ReCall
import HandS.More
import HandS.TupLen
import PyProof.Rows.TupDisplay
import HandS.Iter
import KE.GoesEnum
import KE.GoesMore
import HandS.DictTup
import HandS.Style
import HandS.ExcIs
import HandS.Comp
import HandS.GenList
import HandS.Defaults
import HandS.Head0
import HandS.Head1
import HandS.Head2
import HandS.HeadEnd
import HandS.HeadHook1
import HandS.HeadHook2
import HandS.HeadHook3
import HandS.HeadHook4
import HandS.HeadWalk
import PyProof.ListMulAny
import PyProof.Rows.ListMulArg
import HandS.SortInts
import PySem.Challenge.RW_sportsheld_k91_whole_penalty_kicks
set_option Elab.async false
set_option linter.all false
set_option maxRecDepth 100000
set_option maxHeartbeats 4000000
namespace PV
open PySem PySem.Spec PyProof.Rows L2

abbrev D := PyData
/-- the ground: the written part, the world -/
structure Gd where
  K : PySem.W.Frag
  w : World

/-- a slot: empty; data that never changes; an object of its own (fixed: the caller's); the same, locked while a loop walks it; an exception of class c -/
inductive Slot where
  | un | sh (d : D) | ow (fx : Bool) (d : D) | lk (fx : Bool) (d : D) | xc (c : Nat)
abbrev En := List Slot
/-- what an expression gives: data; a new object (nobody else knows it); the object of a slot; an exception -/
inductive Val where
  | d (x : D) | nw (x : D) | own (i : Nat) | xc (c : Nat)
inductive R (α : Type) where
  | stuck | ok (a : α) (e : En) | exc (c : Nat) (e : En)
def R.bind {α β : Type} (x : R α) (f : α → En → R β) : R β := match x with
  | .stuck => .stuck
  | .ok a e => f a e
  | .exc c e => .exc c e
abbrev ME := En → R Val
abbrev MT := En → R Bool

/-- the classes' addresses, the code tables, the heap at the def's entry -/
structure Cc where
  cl : Nat → Addr
  T : List Addr
  Hs : Hp

mutual
/-- a datum as a key -/
def nk : D → Option NestedKey
  | .none => some .none
  | .bool b => some (.num (if b = true then 1 else 0))
  | .int i => some (.num i)
  | .str x => some (.text x)
  | .tuple xs => match nks xs with
    | some ks => some (.tup ks)
    | none => none
  | .list _ => none
  | .dict _ => none
def nks : List D → Option (List NestedKey)
  | [] => some []
  | x :: xs => match nk x with
    | some k => match nks xs with
      | some ks => some (k :: ks)
      | none => none
    | none => none
end
def isTupD : D → Bool
  | .tuple _ => true
  | _ => false
/-- right keys: of one sort, not too deep, no two alike -/
structure DOk (kvs : List (D × D)) : Prop where
  key : ∀ p ∈ kvs, ∃ k, nk p.1 = some k ∧ k.depth ≤ 8
  one : ∃ b, ∀ p ∈ kvs, isTupD p.1 = b
  nd : (kvs.map fun p => nk p.1).Nodup
/-- at a stands a dict with these entries -/
def DictIs (a : Addr) (es : List DictEntry) : Heap → Prop := fun h => ∃ o ep, h.get? a = some o ∧ o.ExactDict ∧ o.data = .dict es.toArray ep

/-- a list that never changes -/
def SqF (K : PySem.W.Frag) (H : Hp) (a : Addr) (vs : List V) : Prop := (∃ o, H a = some (.frz o (.lst vs))) ∨
  ∃ (o : Obj) (its : Array Value) (n : Nat), K.lookup a = some o ∧ o.cls = .type "list" ∧ o.dict = none ∧ o.data = .seq its n ∧ its.size ≤ sizeLine ∧ Vals vs its.toList
/-- a tuple that bears no dict of its own -/
def SqU (K : PySem.W.Frag) (H : Hp) (a : Addr) (vs : List V) : Prop := (∃ o, H a = some (.frz o (.tup vs)) ∧ o.dict = none) ∨
  ∃ (o : Obj) (its : Array Value) (n : Nat), K.lookup a = some o ∧ o.cls = .type "tuple" ∧ o.dict = none ∧ o.data = .seq its n ∧ its.size ≤ sizeLine ∧ Vals vs its.toList
theorem SqU.sq {K : PySem.W.Frag} {H : Hp} {a : Addr} {vs : List V} (h : SqU K H a vs) : SqT K H a vs := h.imp (fun ⟨o, e, _⟩ => .inr ⟨o, e⟩) fun ⟨o, its, n, h1, h2, _, h3⟩ => ⟨o, its, n, h1, h2, h3⟩
theorem SqF.sq {K : PySem.W.Frag} {H : Hp} {a : Addr} {vs : List V} (h : SqF K H a vs) : SqL K H a vs := h.imp (fun ⟨o, e⟩ => .inr ⟨o, e⟩) id
mutual
inductive Rep (G : Gd) (H : Hp) : V → D → Prop where
  | non : Rep G H .non .none
  | bl (b : Bool) : Rep G H (.bl b) (.bool b)
  | int (i : Int) : Rep G H (.int i) (.int i)
  | str (x : Str) : Rep G H (.str x) (.str x)
  | tup {a : Addr} {vs : List V} {ds : List D} (h : SqU G.K H a vs) (r : Reps G H vs ds) : Rep G H (.ref a) (.tuple ds)
  | lst {a : Addr} {vs : List V} {ds : List D} (h : SqF G.K H a vs) (r : Reps G H vs ds) : Rep G H (.ref a) (.list ds)
  | dic {a : Addr} {o : Obj} {es : List DictEntry} {kvs : List (D × D)} (h : H a = some (.frz o (.ext (DictIs a es)))) (r : Ents G H es kvs) (ok : DOk kvs) (hz : kvs.length ≤ sizeLine) (hn : (a == sysModules) = false) : Rep G H (.ref a) (.dict kvs)
inductive Reps (G : Gd) (H : Hp) : List V → List D → Prop where
  | nil : Reps G H [] []
  | cons {v : V} {d : D} {vs : List V} {ds : List D} (h : Rep G H v d) (t : Reps G H vs ds) : Reps G H (v :: vs) (d :: ds)
inductive Ents (G : Gd) (H : Hp) : List DictEntry → List (D × D) → Prop where
  | nil : Ents G H [] []
  | cons {e : DictEntry} {es : List DictEntry} {k d : D} {kvs : List (D × D)} {x v : V} {key : NestedKey} (rk : RelV x e.key) (hk : Rep G H x k) (rv : RelV v e.val) (hv : Rep G H v d) (hh : nk k = some key) (hs : e.hash = key.hash G.w) (t : Ents G H es kvs) : Ents G H (e :: es) ((k, d) :: kvs)
end

/-- a mutable object, its parts never change -/
def Own (G : Gd) (H : Hp) (a : Addr) : D → Prop
  | .list ds => ∃ vs, H a = some (.lst vs) ∧ Reps G H vs ds
  | .dict kvs => ∃ es, H a = some (.ext (DictIs a es)) ∧ Ents G H es kvs ∧ DOk kvs ∧ kvs.length ≤ sizeLine ∧ (a == sysModules) = false
  | _ => False
/-- readable as d -/
def Dr (G : Gd) (H : Hp) (v : V) (d : D) : Prop := Rep G H v d ∨ ∃ a, v = .ref a ∧ Own G H a d

def Slot.ownd : Slot → Option D
  | .ow _ d => some d
  | .lk _ d => some d
  | _ => none
def SlotRel (G : Gd) (H : Hp) : Slot → Option (Option V) → Prop
  | .un, _ => True
  | .sh d, o => ∃ v, o = some (some v) ∧ Rep G H v d
  | .ow _ d, o => ∃ a, o = some (some (.ref a)) ∧ Own G H a d
  | .lk _ d, o => ∃ a, o = some (some (.ref a)) ∧ Own G H a d
  | .xc _, _ => False
/-- slot i owns the object at a -/
def Held (env : En) (σ : L2.St) (i : Nat) (a : Addr) : Prop := (∃ s d, env[i]? = some s ∧ s.ownd = some d) ∧ σ[i]? = some (some (.ref a))
/-- a may be changed through a slot -/
def MutAt (env : En) (σ : L2.St) (a : Addr) : Prop := ∃ (i : Nat) (b : Bool) (d : D), env[i]? = some (.ow b d) ∧ σ[i]? = some (some (.ref a))
theorem MutAt.held {env : En} {σ : L2.St} {a : Addr} (h : MutAt env σ a) : ∃ i, Held env σ i a := by
  obtain ⟨i, b, d, e, s⟩ := h
  exact ⟨i, ⟨_, d, e, rfl⟩, s⟩

def TabG (H : Hp) (P : Addr) : Prop := ∃ ps : Array Value, H P = some (.tbl ps) ∧ TriplesOk ps.toList

/-- slot i owns an object that the def has made itself -/
def Mine (env : En) (i : Nat) : Prop := ∃ d, env[i]? = some (.ow false d) ∨ env[i]? = some (.lk false d)

structure Rel (G : Gd) (C : Cc) (env : En) (σ : L2.St) (H : Hp) : Prop where
  len : env.length = σ.length
  slot : ∀ (i : Nat) (s : Slot), env[i]? = some s → SlotRel G H s σ[i]?
  inj : ∀ i j a, Held env σ i a → Held env σ j a → i = j
  tab : ∀ P ∈ C.T, TabG H P
  new : ∀ i a, Mine env i → σ[i]? = some (some (.ref a)) → C.Hs a = none
  old : ∀ a, C.Hs a ≠ none → H a ≠ none

structure Post (G : Gd) (C : Cc) (env : En) (σ : L2.St) (H : Hp) (env' : En) (σ' : L2.St) (H' : Hp) : Prop where
  rel : Rel G C env' σ' H'
  keep : ∀ a o, H a = some o → (∀ ps, o ≠ .tbl ps) → ¬ MutAt env σ a → H' a = some o
  there : ∀ a, H a ≠ none → H' a ≠ none
  mutb : ∀ a, MutAt env' σ' a → MutAt env σ a ∨ H a = none
  fixL : ∀ (i : Nat) b d, env[i]? = some (.lk b d) → env'[i]? = some (.lk b d) ∧ σ'[i]? = σ[i]?
  fixO : ∀ (i : Nat) d, env[i]? = some (.ow true d) → (∃ d', env'[i]? = some (.ow true d')) ∧ σ'[i]? = σ[i]?

/-- H' has all of H that data may lean on -/
def Kp (H H' : Hp) : Prop := (∀ a xs, H a = some (.tup xs) → H' a = some (.tup xs)) ∧ ∀ a o u, H a = some (.frz o u) → H' a = some (.frz o u)
theorem Kp.refl (H : Hp) : Kp H H := ⟨fun _ _ h => h, fun _ _ _ h => h⟩
theorem Kp.trans {H H1 H2 : Hp} (a : Kp H H1) (b : Kp H1 H2) : Kp H H2 := ⟨fun c xs h => b.1 c xs (a.1 c xs h), fun c o u h => b.2 c o u (a.2 c o u h)⟩
theorem Kp.sqT {G : Gd} {H H' : Hp} {a : Addr} {vs : List V} (k : Kp H H') (h : SqT G.K H a vs) : SqT G.K H' a vs := by
  rcases h with (h | ⟨o, h⟩) | h
  · exact .inl (.inl (k.1 _ _ h))
  · exact .inl (.inr ⟨o, k.2 _ _ _ h⟩)
  · exact .inr h
theorem Kp.sqU {G : Gd} {H H' : Hp} {a : Addr} {vs : List V} (k : Kp H H') (h : SqU G.K H a vs) : SqU G.K H' a vs := h.imp (fun ⟨o, e, d⟩ => ⟨o, k.2 _ _ _ e, d⟩) id
theorem Kp.sqF {G : Gd} {H H' : Hp} {a : Addr} {vs : List V} (k : Kp H H') (h : SqF G.K H a vs) : SqF G.K H' a vs := h.imp (fun ⟨o, e⟩ => ⟨o, k.2 _ _ _ e⟩) id
mutual
theorem Rep.mono {G : Gd} {H H' : Hp} (k : Kp H H') : ∀ {v : V} {d : D}, Rep G H v d → Rep G H' v d
  | _, _, .non => .non
  | _, _, .bl b => .bl b
  | _, _, .int i => .int i
  | _, _, .str x => .str x
  | _, _, .tup h r => .tup (k.sqU h) (Reps.mono k r)
  | _, _, .lst h r => .lst (k.sqF h) (Reps.mono k r)
  | _, _, .dic h r ok hz hn => .dic (k.2 _ _ _ h) (Ents.mono k r) ok hz hn
theorem Reps.mono {G : Gd} {H H' : Hp} (k : Kp H H') : ∀ {vs : List V} {ds : List D}, Reps G H vs ds → Reps G H' vs ds
  | _, _, .nil => .nil
  | _, _, .cons h t => .cons (Rep.mono k h) (Reps.mono k t)
theorem Ents.mono {G : Gd} {H H' : Hp} (k : Kp H H') : ∀ {es : List DictEntry} {kvs : List (D × D)}, Ents G H es kvs → Ents G H' es kvs
  | _, _, .nil => .nil
  | _, _, .cons rk hk rv hv hh hs t => .cons rk (Rep.mono k hk) rv (Rep.mono k hv) hh hs (Ents.mono k t)
end
theorem Own.mono {G : Gd} {H H' : Hp} {a : Addr} {d : D} (k : Kp H H') (h : Own G H a d) (s : H' a = H a) : Own G H' a d := by
  cases d with
  | list ds =>
    obtain ⟨vs, h1, h2⟩ := h
    exact ⟨vs, by rw [s]; exact h1, h2.mono k⟩
  | dict kvs =>
    obtain ⟨es, h1, h2, h3⟩ := h
    exact ⟨es, by rw [s]; exact h1, h2.mono k, h3⟩
  | _ => exact h.elim
theorem Own.obj {G : Gd} {H : Hp} {a : Addr} {d : D} (h : Own G H a d) : ∃ o, H a = some o ∧ (∀ ps, o ≠ .tbl ps) ∧ (∀ xs, o ≠ .tup xs) ∧ ∀ ob u, o ≠ .frz ob u := by
  cases d with
  | list ds =>
    obtain ⟨vs, h1, _⟩ := h
    exact ⟨_, h1, fun _ z => (nomatch z), fun _ z => (nomatch z), fun _ _ z => (nomatch z)⟩
  | dict kvs =>
    obtain ⟨es, h1, _⟩ := h
    exact ⟨_, h1, fun _ z => (nomatch z), fun _ z => (nomatch z), fun _ _ z => (nomatch z)⟩
  | _ => exact h.elim
theorem SlotRel.own {G : Gd} {H : Hp} {s : Slot} {o : Option (Option V)} {d : D} (h : SlotRel G H s o) (e : s.ownd = some d) : ∃ a, o = some (some (.ref a)) ∧ Own G H a d := by
  cases s with
  | ow b x => cases e; exact h
  | lk b x => cases e; exact h
  | _ => cases e
section
variable {G : Gd} {C : Cc} {env env' env2 : En} {σ σ' σ2 : L2.St} {H H' H2 : Hp}
theorem Rel.held (r : Rel G C env σ H) {i : Nat} {a : Addr} (h : Held env σ i a) : ∃ d, Own G H a d := by
  obtain ⟨⟨s, d, e1, e2⟩, e3⟩ := h
  obtain ⟨a', q, o⟩ := (r.slot i s e1).own e2
  rw [e3] at q
  cases q
  exact ⟨d, o⟩
theorem Rel.notMut (r : Rel G C env σ H) {a : Addr} {o : HO} (h : H a = some o) (ht : (∃ xs, o = .tup xs) ∨ ∃ ob u, o = .frz ob u) : ¬ MutAt env σ a := fun m => by
  obtain ⟨i, hh⟩ := m.held
  obtain ⟨d, ow⟩ := r.held hh
  obtain ⟨o', e, _, n1, n2⟩ := ow.obj
  rw [h] at e; cases e
  rcases ht with ⟨xs, z⟩ | ⟨ob, u, z⟩
  · exact n1 xs z
  · exact n2 ob u z
theorem Post.kp (r : Rel G C env σ H) (p : Post G C env σ H env' σ' H') : Kp H H' :=
  ⟨fun a xs h => p.keep a _ h (fun _ z => (nomatch z)) (r.notMut h (.inl ⟨_, rfl⟩)), fun a o u h => p.keep a _ h (fun _ z => (nomatch z)) (r.notMut h (.inr ⟨_, _, rfl⟩))⟩
theorem Post.refl (r : Rel G C env σ H) : Post G C env σ H env σ H :=
  ⟨r, fun _ _ h _ _ => h, fun _ h => h, fun _ h => .inl h, fun _ _ _ h => ⟨h, rfl⟩, fun _ d h => ⟨⟨d, h⟩, rfl⟩⟩
theorem Post.trans (p : Post G C env σ H env' σ' H') (q : Post G C env' σ' H' env2 σ2 H2) : Post G C env σ H env2 σ2 H2 where
  rel := q.rel
  keep := fun a o h ht hm => q.keep a o (p.keep a o h ht hm) ht fun m => by
    rcases p.mutb a m with z | z
    · exact hm z
    · rw [h] at z; cases z
  there := fun a h => q.there a (p.there a h)
  mutb := fun a m => by
    rcases q.mutb a m with z | z
    · exact p.mutb a z
    · refine .inr ?_
      cases e : H a with
      | none => rfl
      | some o => exact absurd z (p.there a (by rw [e]; simp))
  fixL := fun i b d h => by
    obtain ⟨h1, h2⟩ := p.fixL i b d h
    obtain ⟨h3, h4⟩ := q.fixL i b d h1
    exact ⟨h3, h4.trans h2⟩
  fixO := fun i d h => by
    obtain ⟨⟨d1, h1⟩, h2⟩ := p.fixO i d h
    obtain ⟨h3, h4⟩ := q.fixO i d1 h1
    exact ⟨h3, h4.trans h2⟩
/-- the heap has grown; nothing that was there has changed -/
theorem Rel.same (r : Rel G C env σ H) (s : Same H H') : Rel G C env σ H' where
  len := r.len
  slot := fun i sl e => by
    have h := r.slot i sl e
    have k : Kp H H' := ⟨fun a xs h => s a _ h, fun a o u h => s a _ h⟩
    have ow : ∀ {a d}, Own G H a d → Own G H' a d := fun {a d} o => o.mono k (by
      obtain ⟨o', e, _⟩ := o.obj
      rw [e]; exact s _ _ e)
    cases sl with
    | un => trivial
    | sh d => obtain ⟨v, e, q⟩ := h; exact ⟨v, e, q.mono k⟩
    | ow b d => obtain ⟨a, e, q⟩ := h; exact ⟨a, e, ow q⟩
    | lk b d => obtain ⟨a, e, q⟩ := h; exact ⟨a, e, ow q⟩
    | xc c => exact h.elim
  inj := r.inj
  tab := fun P hP => by
    obtain ⟨ps, h, t⟩ := r.tab P hP
    exact ⟨ps, s _ _ h, t⟩
  new := r.new
  old := fun a h => by
    have h1 := r.old a h
    cases e : H a with
    | none => exact absurd e h1
    | some o => rw [s a o e]; simp
theorem Post.same (r : Rel G C env σ H) (s : Same H H') : Post G C env σ H env σ H' :=
  ⟨r.same s, fun a o h _ _ => s a o h, fun a h => by
    cases e : H a with
    | none => exact absurd e h
    | some o => rw [s a o e]; simp, fun _ h => .inl h, fun _ _ _ h => ⟨h, rfl⟩, fun _ d h => ⟨⟨d, h⟩, rfl⟩⟩
theorem Same.kp (s : Same H H') : Kp H H' := ⟨fun a xs h => s a _ h, fun a o u h => s a _ h⟩
end

/-- by the heap ahead (H), the slots and heap behind -/
def ValRel (G : Gd) (H : Hp) (env' : En) (σ : L2.St) (H' : Hp) (v : V) : Val → Prop
  | .d x => Rep G H' v x
  | .nw x => ∃ a, v = .ref a ∧ H a = none ∧ Own G H' a x
  | .own i => σ[i]? = some (some v) ∧ i < env'.length
  | .xc _ => False
/-- the datum that a value is now -/
def deref (env : En) : Val → Option D
  | .d x => some x
  | .nw x => some x
  | .own i => match env[i]? with
    | some (.sh d) => some d
    | some (.ow _ d) => some d
    | some (.lk _ d) => some d
    | _ => none
  | .xc _ => none

section
variable {G : Gd} {C : Cc} {env env' env2 : En} {σ σ' σ2 : L2.St} {H H0 H' H2 : Hp} {v : V} {r : Val}
theorem deref_ok (q : Rel G C env σ H) (h : ValRel G H0 env σ H v r) {d : D} (e : deref env r = some d) : Dr G H v d := by
  cases r with
  | d x => cases e; exact .inl h
  | nw x =>
    cases e
    obtain ⟨a, e1, _, e2⟩ := h
    exact .inr ⟨a, e1, e2⟩
  | own i =>
    obtain ⟨h1, h2⟩ := h
    unfold deref at e
    cases hs : env[i]? with
    | none => simp [hs] at e
    | some s =>
      have q' := q.slot i s hs
      rw [h1] at q'
      cases s with
      | un => simp [hs] at e
      | xc c => exact q'.elim
      | sh x =>
        simp [hs] at e
        subst e
        obtain ⟨v', e', q2⟩ := q'
        cases e'
        exact .inl q2
      | ow b x =>
        simp [hs] at e
        subst e
        obtain ⟨a, e', q2⟩ := q'
        cases e'
        exact .inr ⟨a, rfl, q2⟩
      | lk b x =>
        simp [hs] at e
        subst e
        obtain ⟨a, e', q2⟩ := q'
        cases e'
        exact .inr ⟨a, rfl, q2⟩
  | xc c => exact h.elim
/-- a value stays while other things are reckoned -/
theorem ValRel.post (q : Rel G C env σ H') (h : ValRel G H env σ H' v r) (hh : ∀ a, H a = none → ¬ ∃ i, Held env σ i a) (p : Post G C env σ H' env2 σ H2) : ValRel G H env2 σ H2 v r := by
  have k := p.kp q
  cases r with
  | d x => exact Rep.mono k h
  | nw x =>
    obtain ⟨a, e1, e2, e3⟩ := h
    refine ⟨a, e1, e2, e3.mono k ?_⟩
    obtain ⟨o, e, n1, _⟩ := e3.obj
    rw [e]
    exact p.keep a o e n1 fun m => hh a e2 m.held
  | own i =>
    obtain ⟨h1, h2⟩ := h
    exact ⟨h1, by rw [p.rel.len, ← q.len]; exact h2⟩
  | xc c => exact h.elim
end
end PV

set_option Elab.async false
set_option linter.all false
set_option maxRecDepth 100000
set_option maxHeartbeats 4000000
namespace PV
open PySem PySem.Spec PyProof.Rows L2

abbrev gd (X : Cx) : Gd := ⟨X.K, X.w⟩
/-- behind an expression: no slot is new -/
structure PostE (G : Gd) (C : Cc) (env : En) (σ : L2.St) (H : Hp) (env' : En) (H' : Hp) : Prop extends Post G C env σ H env' σ H' where
  sub : ∀ i a, Held env' σ i a → Held env σ i a

section
variable {G : Gd} {C : Cc} {env env' env2 : En} {σ σ' σ2 : L2.St} {H H0 H' H2 : Hp}
theorem PostE.refl (r : Rel G C env σ H) : PostE G C env σ H env H := { Post.refl r with sub := fun _ _ h => h }
theorem PostE.trans (p : PostE G C env σ H env' H') (q : PostE G C env' σ H' env2 H2) : PostE G C env σ H env2 H2 :=
  { Post.trans p.toPost q.toPost with sub := fun i a h => p.sub i a (q.sub i a h) }
theorem PostE.same (r : Rel G C env σ H) (s : Same H H') : PostE G C env σ H env H' := { Post.same r s with sub := fun _ _ h => h }
theorem Rel.heldSome (r : Rel G C env σ H) {a : Addr} (h : ∃ i, Held env σ i a) : H a ≠ none := by
  obtain ⟨i, h⟩ := h
  obtain ⟨d, o⟩ := r.held h
  obtain ⟨o', e, _⟩ := o.obj
  rw [e]; simp
theorem PostE.noHeld (r : Rel G C env σ H) (p : PostE G C env σ H env' H') : ∀ a, H a = none → ¬ ∃ i, Held env' σ i a := fun a h ⟨i, q⟩ => r.heldSome ⟨i, p.sub i a q⟩ h
end

/-- values in a row -/
inductive ValRels (G : Gd) (H : Hp) (env' : En) (σ : L2.St) (H' : Hp) : List V → List Val → Prop where
  | nil : ValRels G H env' σ H' [] []
  | cons {v : V} {r : Val} {vs : List V} {rs : List Val} (h : ValRel G H env' σ H' v r) (t : ValRels G H env' σ H' vs rs) : ValRels G H env' σ H' (v :: vs) (r :: rs)

section
variable {G : Gd} {C : Cc} {env env' env2 : En} {σ σ' σ2 : L2.St} {H H0 H' H2 : Hp} {v : V} {r : Val} {vs : List V} {rs : List Val}
theorem ValRel.anti (s : ∀ a, H0 a ≠ none → H a ≠ none) (h : ValRel G H env' σ H' v r) : ValRel G H0 env' σ H' v r := by
  cases r with
  | nw x =>
    obtain ⟨a, e1, e2, e3⟩ := h
    refine ⟨a, e1, ?_, e3⟩
    cases e : H0 a with
    | none => rfl
    | some o => exact absurd e2 (s a (by rw [e]; simp))
  | _ => exact h
theorem ValRels.anti (s : ∀ a, H0 a ≠ none → H a ≠ none) : ∀ {vs : List V} {rs : List Val}, ValRels G H env' σ H' vs rs → ValRels G H0 env' σ H' vs rs
  | _, _, .nil => .nil
  | _, _, .cons h t => .cons (h.anti s) (ValRels.anti s t)
theorem ValRels.post (q : Rel G C env σ H') (hh : ∀ a, H a = none → ¬ ∃ i, Held env σ i a) (p : Post G C env σ H' env2 σ H2) : ∀ {vs : List V} {rs : List Val}, ValRels G H env σ H' vs rs → ValRels G H env2 σ H2 vs rs
  | _, _, .nil => .nil
  | _, _, .cons h t => .cons (h.post q hh p) (ValRels.post q hh p t)
end

/-- what must hold so that the result k of a denotation is what is wanted; all against the slots and heap at the start -/
def tK {α β : Type} (C : Cc) (G : Gd) (W : WX) (rel : Hp → En → L2.St → Hp → β → α → Prop) (env : En) (σ : L2.St) (H : Hp) (k : R α) (Q : β → Hp → Prop) : Prop := match k with
  | .stuck => False
  | .ok r env' => ∀ v H', PostE G C env σ H env' H' → rel H env' σ H' v r → Q v H'
  | .exc c env' => ∀ H', PostE G C env σ H env' H' → W (.ref (C.cl c)) none σ H'
def tE (C : Cc) (G : Gd) (W : WX) (m : ME) : TE := fun σ H Q => ∃ env, Rel G C env σ H ∧ tK C G W (ValRel G) env σ H (m env) Q
abbrev tBr : Hp → En → L2.St → Hp → Bool → Bool → Prop := fun _ _ _ _ b r => b = r
def tT (C : Cc) (G : Gd) (W : WX) (m : MT) : TT := fun σ H Q => ∃ env, Rel G C env σ H ∧ tK C G W tBr env σ H (m env) Q
def tA (C : Cc) (G : Gd) (W : WX) (m : En → R (List Val)) : TA := fun σ H Q => ∃ env, Rel G C env σ H ∧ tK C G W (ValRels G) env σ H (m env) Q

section
variable {C : Cc} {G : Gd} {W : WX} {env e1 : En} {σ : L2.St} {H H1 : Hp}
/-- the next part, behind p -/
theorem tK_next {α α' β β' : Type} {relA : Hp → En → L2.St → Hp → β → α → Prop} {relB : Hp → En → L2.St → Hp → β' → α' → Prop}
    (anti : ∀ {H H0 : Hp} {e H2 v r}, (∀ a, H0 a ≠ none → H a ≠ none) → relA H e σ H2 v r → relA H0 e σ H2 v r) (p : PostE G C env σ H e1 H1)
    {ma : R α} {f : α → En → R α'} {Q : β' → Hp → Prop} (h : tK C G W relB env σ H (ma.bind f) Q) :
    tK C G W relA e1 σ H1 ma (fun v H2 => ∃ r e2, PostE G C e1 σ H1 e2 H2 ∧ PostE G C env σ H e2 H2 ∧ relA H e2 σ H2 v r ∧ tK C G W relB env σ H (f r e2) Q) := by
  cases ma with
  | stuck => exact h
  | exc c e => exact fun H2 p2 => h H2 (p.trans p2)
  | ok r e2 => exact fun v H2 p2 vr => ⟨r, e2, p2, p.trans p2, anti p.there vr, h⟩
theorem tK_E {α' β' : Type} {relB : Hp → En → L2.St → Hp → β' → α' → Prop} (p : PostE G C env σ H e1 H1) {ma : R Val} {f : Val → En → R α'} {Q : β' → Hp → Prop} (h : tK C G W relB env σ H (ma.bind f) Q) :
    tK C G W (ValRel G) e1 σ H1 ma (fun v H2 => ∃ r e2, PostE G C e1 σ H1 e2 H2 ∧ PostE G C env σ H e2 H2 ∧ ValRel G H e2 σ H2 v r ∧ tK C G W relB env σ H (f r e2) Q) := tK_next (fun s q => q.anti s) p h
theorem tK_A {α' β' : Type} {relB : Hp → En → L2.St → Hp → β' → α' → Prop} (p : PostE G C env σ H e1 H1) {ma : R (List Val)} {f : List Val → En → R α'} {Q : β' → Hp → Prop} (h : tK C G W relB env σ H (ma.bind f) Q) :
    tK C G W (ValRels G) e1 σ H1 ma (fun v H2 => ∃ r e2, PostE G C e1 σ H1 e2 H2 ∧ PostE G C env σ H e2 H2 ∧ ValRels G H e2 σ H2 v r ∧ tK C G W relB env σ H (f r e2) Q) := tK_next (fun s q => q.anti s) p h
theorem tK_T {α' β' : Type} {relB : Hp → En → L2.St → Hp → β' → α' → Prop} (p : PostE G C env σ H e1 H1) {ma : R Bool} {f : Bool → En → R α'} {Q : β' → Hp → Prop} (h : tK C G W relB env σ H (ma.bind f) Q) :
    tK C G W tBr e1 σ H1 ma (fun b H2 => ∃ e2, PostE G C e1 σ H1 e2 H2 ∧ PostE G C env σ H e2 H2 ∧ tK C G W relB env σ H (f b e2) Q) := by
  cases ma with
  | stuck => exact h
  | exc c e => exact fun H2 p2 => h H2 (p.trans p2)
  | ok r e2 => exact fun v H2 p2 vr => by subst vr; exact ⟨e2, p2, p.trans p2, h⟩
/-- the last part, behind p -/
theorem tK_last {α β : Type} {rel : Hp → En → L2.St → Hp → β → α → Prop} (anti : ∀ {H H0 : Hp} {e H2 v r}, (∀ a, H0 a ≠ none → H a ≠ none) → rel H e σ H2 v r → rel H0 e σ H2 v r) (p : PostE G C env σ H e1 H1)
    {k : R α} {Q : β → Hp → Prop} (h : tK C G W rel env σ H k Q) : tK C G W rel e1 σ H1 k Q := by
  cases k with
  | stuck => exact h
  | exc c e => exact fun H2 p2 => h H2 (p.trans p2)
  | ok r e2 => exact fun v H2 p2 vr => h v H2 (p.trans p2) (anti p.there vr)
theorem tK_lastE (p : PostE G C env σ H e1 H1) {k : R Val} {Q : VK} (h : tK C G W (ValRel G) env σ H k Q) : tK C G W (ValRel G) e1 σ H1 k Q := tK_last (fun s q => q.anti s) p h
theorem tK_lastT (p : PostE G C env σ H e1 H1) {k : R Bool} {Q : Bool → Hp → Prop} (h : tK C G W tBr env σ H k Q) : tK C G W tBr e1 σ H1 k Q := tK_last (fun _ q => q) p h
/-- what is wanted may be less -/
theorem tK_mono {α β : Type} {rel : Hp → En → L2.St → Hp → β → α → Prop} {k : R α} {Q Q' : β → Hp → Prop} (h : tK C G W rel env σ H k Q) (hq : ∀ v H', Q v H' → Q' v H') : tK C G W rel env σ H k Q' := by
  cases k with
  | stuck => exact h
  | ok r e => exact fun v H' p vr => hq _ _ (h v H' p vr)
  | exc c e => exact h
end

section
variable {X : Cx}
theorem _root_.L2.PE.imp {e : Expr} {t t' : TE} (h : PE X e t) (i : ∀ σ H Q, t' σ H Q → t σ H Q) : PE X e t' := ⟨fun pins s σ H Q I hq => h.run pins s σ H Q I (i σ H Q hq)⟩
theorem _root_.L2.PT.imp {e : Expr} {t t' : TT} (h : PT X e t) (i : ∀ σ H Q, t' σ H Q → t σ H Q) : PT X e t' := ⟨fun pins s σ H Q I hq => h.run pins s σ H Q I (i σ H Q hq)⟩
theorem _root_.L2.PW.imp {e : Expr} {t t' : TT} (h : PW X e t) (i : ∀ σ H Q, t' σ H Q → t σ H Q) : PW X e t' := ⟨fun wh pins s σ H Q I hq => h.run wh pins s σ H Q I (i σ H Q hq)⟩
theorem _root_.L2.PA.imp {es : List Expr} {t t' : TA} (h : PA X es t) (i : ∀ σ H Q, t' σ H Q → t σ H Q) : PA X es t' := ⟨fun pos pins s σ H Q I hq => h.run pos pins s σ H Q I (i σ H Q hq)⟩
theorem _root_.L2.PS.imp {e : Stmt} {t t' : TS} (h : PS X e t) (i : ∀ D σ H, t' D σ H → t D σ H) : PS X e t' := ⟨fun pins s σ H D I hq => h.run pins s σ H D I (i D σ H hq)⟩
theorem _root_.L2.PSs.imp {e : List Stmt} {t t' : TS} (h : PSs X e t) (i : ∀ D σ H, t' D σ H → t D σ H) : PSs X e t' := ⟨fun pins s σ H D I hq => h.run pins s σ H D I (i D σ H hq)⟩
end

def mVar (i : Nat) : ME := fun env => match env[i]? with
  | some (.sh d) => .ok (.d d) env
  | some (.ow _ _) => .ok (.own i) env
  | some (.lk _ _) => .ok (.own i) env
  | some (.xc c) => .ok (.xc c) env
  | _ => .stuck
def mC (d : D) : ME := fun env => .ok (.d d) env
section
variable {X : Cx} {C : Cc} {W : WX}
theorem e_var {e : Expr} {i : Nat} (h : PE X e (tVar i)) : PE X e (tE C (gd X) W (mVar i)) := h.imp fun σ H Q ⟨env, q, hk⟩ => by
  unfold mVar at hk
  have lt : ∀ {s}, env[i]? = some s → i < env.length := fun {s} e => (List.getElem?_eq_some_iff.mp e).1
  cases hs : env[i]? with
  | none => rw [hs] at hk; exact hk.elim
  | some s =>
    have sr := q.slot i s hs
    rw [hs] at hk
    cases s with
    | un => exact hk.elim
    | xc c => exact sr.elim
    | sh d =>
      obtain ⟨v, e1, e2⟩ := sr
      exact ⟨v, e1, hk v H (.refl q) e2⟩
    | ow b d =>
      obtain ⟨a, e1, e2⟩ := sr
      exact ⟨.ref a, e1, hk _ H (.refl q) ⟨e1, lt hs⟩⟩
    | lk b d =>
      obtain ⟨a, e1, e2⟩ := sr
      exact ⟨.ref a, e1, hk _ H (.refl q) ⟨e1, lt hs⟩⟩
/-- data that stands written, or needs no heap -/
theorem e_const {e : Expr} {v : V} {d : D} (h : PE X e (tC v)) (r : ∀ H, Rep (gd X) H v d) : PE X e (tE C (gd X) W (mC d)) := h.imp fun σ H Q ⟨env, q, hk⟩ => hk v H (.refl q) (r H)
theorem e_int {i j pos} : PE X (.Constant (.int i) j pos) (tE C (gd X) W (mC (.int i))) := e_const pe_int fun _ => .int i
theorem e_str {i j pos} : PE X (.Constant (.str i) j pos) (tE C (gd X) W (mC (.str i))) := e_const pe_str fun _ => .str i
theorem e_bl {i j pos} : PE X (.Constant (.bool i) j pos) (tE C (gd X) W (mC (.bool i))) := e_const pe_bl fun _ => .bl i
theorem e_non {j pos} : PE X (.Constant .none j pos) (tE C (gd X) W (mC .none)) := e_const pe_non fun _ => .non
end

/-- the answer of an operation on data, in a heap that has grown -/
def RV (G : Gd) (H H' : Hp) (v : V) : Val → Prop
  | .d x => Rep G H' v x
  | .nw x => ∃ a, v = .ref a ∧ H a = none ∧ Own G H' a x
  | _ => False
theorem RV.rel {G : Gd} {H H' : Hp} {env : En} {σ : L2.St} {v : V} {r : Val} (h : RV G H H' v r) : ValRel G H env σ H' v r := by
  cases r with
  | d x => exact h
  | nw x => exact h
  | _ => exact h.elim
/-- a two-place operation is g -/
def Op2 (G : Gd) (rd : R2) (g : D → D → Option Val) : Prop := ∀ (x y : V) (dx dy : D) (H : Hp) (Q : VK) (r : Val), Dr G H x dx → Dr G H y dy → g dx dy = some r →
  (∀ v H', Same H H' → RV G H H' v r → Q v H') → rd x y H Q
def Op1 (G : Gd) (rd : V → Hp → VK → Prop) (g : D → Option Val) : Prop := ∀ (x : V) (dx : D) (H : Hp) (Q : VK) (r : Val), Dr G H x dx → g dx = some r →
  (∀ v H', Same H H' → RV G H H' v r → Q v H') → rd x H Q
inductive Drs (G : Gd) (H : Hp) : List V → List D → Prop where
  | nil : Drs G H [] []
  | cons {v : V} {d : D} {vs : List V} {ds : List D} (h : Dr G H v d) (t : Drs G H vs ds) : Drs G H (v :: vs) (d :: ds)
def Opn (G : Gd) (rd : List V → Hp → VK → Prop) (g : List D → Option Val) : Prop := ∀ (xs : List V) (ds : List D) (H : Hp) (Q : VK) (r : Val), Drs G H xs ds → g ds = some r →
  (∀ v H', Same H H' → RV G H H' v r → Q v H') → rd xs H Q
def fin (e : En) : Option Val → R Val
  | some r => .ok r e
  | none => .stuck
def out1 (g : D → Option Val) (a : Val) (e : En) : R Val := match deref e a with
  | some x => fin e (g x)
  | none => .stuck
def out2 (g : D → D → Option Val) (a b : Val) (e : En) : R Val := match deref e a with
  | some x => match deref e b with
    | some y => fin e (g x y)
    | none => .stuck
  | none => .stuck
def derefs (e : En) : List Val → Option (List D)
  | [] => some []
  | v :: vs => match deref e v with
    | some d => match derefs e vs with
      | some ds => some (d :: ds)
      | none => none
    | none => none
def outn (g : List D → Option Val) (as : List Val) (e : En) : R Val := match derefs e as with
  | some xs => fin e (g xs)
  | none => .stuck
section
variable {C : Cc} {G : Gd} {W : WX} {env e1 : En} {σ : L2.St} {H H0 Hz H1 : Hp} {Q : VK}
theorem fin_ok {o : Option Val} (p : PostE G C env σ H e1 H1) (h : tK C G W (ValRel G) env σ H (fin e1 o) Q) : ∃ r, o = some r ∧ ∀ v H', Same H1 H' → RV G H1 H' v r → Q v H' := by
  cases o with
  | none => exact h.elim
  | some r => exact ⟨r, rfl, fun v H' s rv => h v H' (p.trans (.same p.rel s)) (rv.rel.anti p.there)⟩
theorem out1_ok {g : D → Option Val} {a : Val} {x : V} (p : PostE G C env σ H e1 H1) (ha : ValRel G H0 e1 σ H1 x a) (h : tK C G W (ValRel G) env σ H (out1 g a e1) Q) :
    ∃ dx r, Dr G H1 x dx ∧ g dx = some r ∧ ∀ v H', Same H1 H' → RV G H1 H' v r → Q v H' := by
  unfold out1 at h
  cases q1 : deref e1 a with
  | none => rw [q1] at h; exact h.elim
  | some dx =>
    rw [q1] at h
    obtain ⟨r, e, z⟩ := fin_ok p h
    exact ⟨dx, r, deref_ok p.rel ha q1, e, z⟩
theorem out2_ok {g : D → D → Option Val} {a b : Val} {x y : V} (p : PostE G C env σ H e1 H1) (ha : ValRel G H0 e1 σ H1 x a) (hb : ValRel G Hz e1 σ H1 y b) (h : tK C G W (ValRel G) env σ H (out2 g a b e1) Q) :
    ∃ dx dy r, Dr G H1 x dx ∧ Dr G H1 y dy ∧ g dx dy = some r ∧ ∀ v H', Same H1 H' → RV G H1 H' v r → Q v H' := by
  unfold out2 at h
  cases q1 : deref e1 a with
  | none => rw [q1] at h; exact h.elim
  | some dx =>
    cases q2 : deref e1 b with
    | none => rw [q1, q2] at h; exact h.elim
    | some dy =>
      rw [q1, q2] at h
      obtain ⟨r, e, z⟩ := fin_ok p h
      exact ⟨dx, dy, r, deref_ok p.rel ha q1, deref_ok p.rel hb q2, e, z⟩
theorem derefs_ok (q : Rel G C env σ H) : ∀ {xs : List V} {as : List Val} {ds : List D}, ValRels G H0 env σ H xs as → derefs env as = some ds → Drs G H xs ds
  | _, _, _, .nil, e => by cases e; exact .nil
  | _, _, ds, .cons (r := a) (rs := as) h t, e => by
    unfold derefs at e
    cases e1 : deref env a with
    | none => simp [e1] at e
    | some d =>
      cases e2 : derefs env as with
      | none => simp [e1, e2] at e
      | some ds' =>
        simp [e1, e2] at e
        subst e
        exact .cons (deref_ok q h e1) (derefs_ok q t e2)
theorem outn_ok {g : List D → Option Val} {as : List Val} {xs : List V} (p : PostE G C env σ H e1 H1) (ha : ValRels G H0 e1 σ H1 xs as) (h : tK C G W (ValRel G) env σ H (outn g as e1) Q) :
    ∃ ds r, Drs G H1 xs ds ∧ g ds = some r ∧ ∀ v H', Same H1 H' → RV G H1 H' v r → Q v H' := by
  unfold outn at h
  cases q1 : derefs e1 as with
  | none => rw [q1] at h; exact h.elim
  | some ds =>
    rw [q1] at h
    obtain ⟨r, e, z⟩ := fin_ok p h
    exact ⟨ds, r, derefs_ok p.rel ha q1, e, z⟩
end

def mUn (g : D → Option Val) (m : ME) : ME := fun env => (m env).bind (out1 g)
def mBin (g : D → D → Option Val) (ma mb : ME) : ME := fun env => (ma env).bind fun a e => (mb e).bind fun b e2 => out2 g a b e2
section
variable {X : Cx} {C : Cc} {W : WX} {a b : Expr} {ma mb : ME} {pos : Pos}
/-- two values in a row -/
theorem binK {g : D → D → Option Val} {rd : R2} (hg : Op2 (gd X) rd g) {σ : L2.St} {H : Hp} {Q : VK} (h : tE C (gd X) W (mBin g ma mb) σ H Q) : tOp rd (tE C (gd X) W ma) (tE C (gd X) W mb) σ H Q := by
  obtain ⟨env, q, h⟩ := h
  refine ⟨env, q, tK_mono (tK_E (.refl q) h) fun v H1 ⟨r, e1, _, p1, vr, h1⟩ => ⟨e1, p1.rel, tK_mono (tK_E p1 h1) fun u H2 ⟨r2, e2, i2, p2, vr2, h2⟩ => ?_⟩⟩
  obtain ⟨dx, dy, ro, d1, d2, eg, z⟩ := out2_ok p2 (vr.post p1.rel (p1.noHeld q) i2.toPost) vr2 h2
  exact hg v u dx dy H2 Q ro d1 d2 eg z
theorem e_bin {op : Operator} {rd : R2} {g : D → D → Option Val} (ho : OpR X (binaryOp op) rd) (hg : Op2 (gd X) rd g) (ha : PE X a (tE C (gd X) W ma)) (hb : PE X b (tE C (gd X) W mb)) :
    PE X (.BinOp a op b pos) (tE C (gd X) W (mBin g ma mb)) := (pe_op ho ha hb).imp fun _ _ _ h => binK hg h
theorem e_cmp {op : CmpOp} {rd : R2} {g : D → D → Option Val} (ho : OpR X (compareOp op) rd) (hg : Op2 (gd X) rd g) (ha : PE X a (tE C (gd X) W ma)) (hb : PE X b (tE C (gd X) W mb)) (hm : behindInMarks op b = false) :
    PE X (.Compare a [op] [b] pos) (tE C (gd X) W (mBin g ma mb)) := (pe_cmpR ho ha hb hm).imp fun _ _ _ h => binK hg h
theorem e_un {op : UnaryOp} {rd : V → Hp → VK → Prop} {g : D → Option Val} (ho : UnR X (unaryOp op) rd) (hg : Op1 (gd X) rd g) (ha : PE X a (tE C (gd X) W ma)) : PE X (.UnaryOp op a pos) (tE C (gd X) W (mUn g ma)) :=
  (pe_un ho ha).imp fun σ H Q ⟨env, q, h⟩ => ⟨env, q, tK_mono (tK_E (.refl q) h) fun v H1 ⟨r, e1, _, p1, vr, h1⟩ => by
    obtain ⟨dx, ro, d1, eg, z⟩ := out1_ok p1 vr h1
    exact hg v dx H1 Q ro d1 eg z⟩
theorem e_ix {rd : R2} {g : D → D → Option Val} (hr : IxR X rd) (hg : Op2 (gd X) rd g) (ha : PE X a (tE C (gd X) W ma)) (hb : PE X b (tE C (gd X) W mb)) (hs : PlainIx b) : PE X (.Subscript a b pos) (tE C (gd X) W (mBin g ma mb)) :=
  (pe_ix hr ha hb hs).imp fun _ _ _ h => binK hg h
end

def asB : Val → Option Bool
  | .d (.bool b) => some b
  | _ => none
/-- a value that is a truth value -/
def mTB (m : ME) : MT := fun env => (m env).bind fun r e => match asB r with
  | some b => .ok b e
  | none => .stuck
/-- any value's truth -/
def truD : D → Option Bool
  | .none => some false
  | .bool b => some b
  | .int i => some (i != 0)
  | .str x => if x.length ≤ sizeLine then some ((x.length : Int) != 0) else none
  | .list xs => some (!xs.isEmpty)
  | .tuple xs => some (!xs.isEmpty)
  | .dict _ => none
def mTru (m : ME) : MT := fun env => (m env).bind fun r e => match deref e r with
  | some d => match truD d with
    | some b => .ok b e
    | none => .stuck
  | none => .stuck
theorem Reps.isEmpty {G : Gd} {H : Hp} {vs : List V} {ds : List D} (r : Reps G H vs ds) : vs.isEmpty = ds.isEmpty := by cases r <;> rfl
theorem Reps.length {G : Gd} {H : Hp} : ∀ {vs : List V} {ds : List D}, Reps G H vs ds → vs.length = ds.length
  | _, _, .nil => rfl
  | _, _, .cons _ t => by rw [List.length_cons, List.length_cons, Reps.length t]
/-- a list that may be read -/
theorem Dr.lst {G : Gd} {H : Hp} {v : V} {ds : List D} (h : Dr G H v (.list ds)) : ∃ a vs, v = .ref a ∧ SqL G.K H a vs ∧ Reps G H vs ds := by
  rcases h with h | ⟨a, e, vs, h1, h2⟩
  · cases h with
    | lst h r => exact ⟨_, _, rfl, h.sq, r⟩
  · exact ⟨a, vs, e, .of h1, h2⟩
theorem Dr.tup {G : Gd} {H : Hp} {v : V} {ds : List D} (h : Dr G H v (.tuple ds)) : ∃ a vs, v = .ref a ∧ SqT G.K H a vs ∧ Reps G H vs ds := by
  rcases h with h | ⟨a, e, h1⟩
  · cases h with
    | tup h r => exact ⟨_, _, rfl, h.sq, r⟩
  · exact h1.elim
theorem Dr.tupU {G : Gd} {H : Hp} {v : V} {ds : List D} (h : Dr G H v (.tuple ds)) : ∃ a vs, v = .ref a ∧ SqU G.K H a vs ∧ Reps G H vs ds := by
  rcases h with h | ⟨a, e, h1⟩
  · cases h with
    | tup h r => exact ⟨_, _, rfl, h, r⟩
  · exact h1.elim
theorem Dr.int {G : Gd} {H : Hp} {v : V} {i : Int} (h : Dr G H v (.int i)) : v = .int i := by
  rcases h with h | ⟨a, e, h1⟩
  · cases h; rfl
  · exact h1.elim
theorem Dr.str {G : Gd} {H : Hp} {v : V} {i : Str} (h : Dr G H v (.str i)) : v = .str i := by
  rcases h with h | ⟨a, e, h1⟩
  · cases h; rfl
  · exact h1.elim
theorem Dr.bool {G : Gd} {H : Hp} {v : V} {i : Bool} (h : Dr G H v (.bool i)) : v = .bl i := by
  rcases h with h | ⟨a, e, h1⟩
  · cases h; rfl
  · exact h1.elim
theorem Dr.non {G : Gd} {H : Hp} {v : V} (h : Dr G H v .none) : v = .non := by
  rcases h with h | ⟨a, e, h1⟩
  · cases h; rfl
  · exact h1.elim
theorem tru_of {G : Gd} {H : Hp} {v : V} {d : D} {b : Bool} (h : Dr G H v d) (e : truD d = some b) : TruV G.K v H b := by
  cases d with
  | none => rw [h.non]; cases e; rfl
  | bool c => rw [h.bool]; cases e; rfl
  | int i => rw [h.int]; cases e; rfl
  | str x =>
    rw [h.str]
    have e : (if x.length ≤ sizeLine then some ((x.length : Int) != 0) else Option.none) = some b := e
    split at e
    · cases e; exact ⟨by assumption, rfl⟩
    · cases e
  | list xs =>
    obtain ⟨a, vs, rfl, h1, h2⟩ := h.lst
    cases e
    exact .inl ⟨vs, h1, by rw [h2.isEmpty]⟩
  | tuple xs =>
    obtain ⟨a, vs, rfl, h1, h2⟩ := h.tup
    cases e
    exact .inr (.inl ⟨vs, h1, by rw [h2.isEmpty]⟩)
  | dict _ => cases e
def mAnd (a b : MT) : MT := fun env => (a env).bind fun c e => if c then b e else .ok false e
def mOr (a b : MT) : MT := fun env => (a env).bind fun c e => if c then .ok true e else b e
def mNot (a : MT) : MT := fun env => (a env).bind fun c e => .ok (!c) e
section
variable {X : Cx} {C : Cc} {W : WX} {a b : Expr} {ma mb : ME} {mt mu : MT} {pos : Pos} {rest : List Expr}
theorem mTB_ok {σ : L2.St} {H : Hp} {Q : Bool → Hp → Prop} (h : tT C (gd X) W (mTB ma) σ H Q) : tE C (gd X) W ma σ H (fun x H' => ∃ k, x = .bl k ∧ Q k H') := by
  obtain ⟨env, q, h⟩ := h
  refine ⟨env, q, tK_mono (tK_E (.refl q) h) fun v H1 ⟨r, e1, _, p1, vr, h1⟩ => ?_⟩
  cases e : asB r with
  | none => rw [e] at h1; exact h1.elim
  | some k =>
    rw [e] at h1
    cases r with
    | d x =>
      cases x with
      | bool b =>
        cases e
        cases vr
        exact ⟨k, rfl, h1 k H1 p1 rfl⟩
      | _ => cases e
    | _ => cases e
theorem t_cmp {op : CmpOp} {rd : R2} {g : D → D → Option Val} (ho : OpR X (compareOp op) rd) (hg : Op2 (gd X) rd g) (ha : PE X a (tE C (gd X) W ma)) (hb : PE X b (tE C (gd X) W mb)) (hm : behindInMarks op b = false) :
    PT X (.Compare a [op] [b] pos) (tT C (gd X) W (mTB (mBin g ma mb))) := (pt_cmpR ho ha hb hm).imp fun _ _ _ h => binK hg (mTB_ok h)
/-- an expression by its value's truth -/
theorem t_tru (ha : PE X a (tE C (gd X) W ma)) (he : ∀ whole, isTrue a X.env whole = (do let v ← whole; standAt a.pos; holding [v] (truthy v)) := by intro _; rfl) : PT X a (tT C (gd X) W (mTru ma)) :=
  (pt_truth ha he).imp fun σ H Q ⟨env, q, h⟩ => ⟨env, q, tK_mono (tK_E (.refl q) h) fun v H1 ⟨r, e1, _, p1, vr, h1⟩ => by
    cases e : deref e1 r with
    | none => rw [e] at h1; exact h1.elim
    | some d =>
      rw [e] at h1
      cases e2 : truD d with
      | none =>
        have h1 : tK C (gd X) W tBr env σ H (match truD d with | some b => R.ok b e1 | none => .stuck) Q := h1
        rw [e2] at h1; exact h1.elim
      | some k =>
        have h1 : tK C (gd X) W tBr env σ H (match truD d with | some b => R.ok b e1 | none => .stuck) Q := h1
        rw [e2] at h1
        exact ⟨k, tru_of (deref_ok p1.rel vr e) e2, h1 k H1 p1 rfl⟩⟩
theorem w_and1 (ha : PT X a (tT C (gd X) W mt)) : PW X (.BoolOp .And [a] pos) (tT C (gd X) W mt) := pw_and1 ha
theorem w_or1 (ha : PT X a (tT C (gd X) W mt)) : PW X (.BoolOp .Or [a] pos) (tT C (gd X) W mt) := pw_or1 ha
theorem w_and (ha : PT X a (tT C (gd X) W mt)) (hb : PW X (.BoolOp .And (b :: rest) pos) (tT C (gd X) W mu)) : PW X (.BoolOp .And (a :: b :: rest) pos) (tT C (gd X) W (mAnd mt mu)) :=
  (pw_and ha hb).imp fun σ H Q ⟨env, q, h⟩ => ⟨env, q, tK_mono (tK_T (.refl q) h) fun c H1 ⟨e1, _, p1, h1⟩ => by
    cases c with
    | true => exact iteT ⟨e1, p1.rel, tK_lastT p1 h1⟩
    | false => exact iteF (h1 false H1 p1 rfl)⟩
theorem w_or (ha : PT X a (tT C (gd X) W mt)) (hb : PW X (.BoolOp .Or (b :: rest) pos) (tT C (gd X) W mu)) : PW X (.BoolOp .Or (a :: b :: rest) pos) (tT C (gd X) W (mOr mt mu)) :=
  (pw_or ha hb).imp fun σ H Q ⟨env, q, h⟩ => ⟨env, q, tK_mono (tK_T (.refl q) h) fun c H1 ⟨e1, _, p1, h1⟩ => by
    cases c with
    | false => exact iteF ⟨e1, p1.rel, tK_lastT p1 h1⟩
    | true => exact iteT (h1 true H1 p1 rfl)⟩
theorem t_not (ha : PT X a (tT C (gd X) W mt)) : PT X (.UnaryOp .Not a pos) (tT C (gd X) W (mNot mt)) :=
  (pt_not ha).imp fun σ H Q ⟨env, q, h⟩ => ⟨env, q, tK_mono (tK_T (.refl q) h) fun c H1 ⟨e1, _, p1, h1⟩ => h1 (!c) H1 p1 rfl⟩
end

def mAndV (a b : ME) : ME := fun env => (a env).bind fun r e => match asB r with
  | some c => if c then b e else .ok (.d (.bool false)) e
  | none => .stuck
def mOrV (a b : ME) : ME := fun env => (a env).bind fun r e => match asB r with
  | some c => if c then .ok (.d (.bool true)) e else b e
  | none => .stuck
def mNotV (a : ME) : ME := fun env => (a env).bind fun r e => match asB r with
  | some c => .ok (.d (.bool (!c))) e
  | none => .stuck
def mIf (t : MT) (a b : ME) : ME := fun env => (t env).bind fun c e => if c then a e else b e
section
variable {X : Cx} {C : Cc} {W : WX} {a b c : Expr} {ma mb : ME} {mt : MT} {pos : Pos} {rest : List Expr}
theorem asB_ok {G : Gd} {H : Hp} {env : En} {σ : L2.St} {H' : Hp} {v : V} {r : Val} {k : Bool} (h : ValRel G H env σ H' v r) (e : asB r = some k) : v = .bl k := by
  cases r with
  | d x =>
    cases x with
    | bool b =>
      cases e
      cases h
      rfl
    | _ => cases e
  | _ => cases e
theorem e_one {op} (h : PE X a (tE C (gd X) W ma)) : PE X (.BoolOp op [a] pos) (tE C (gd X) W ma) := pe_one h
theorem e_and (ha : PE X a (tE C (gd X) W ma)) (hb : PE X (.BoolOp .And (b :: rest) pos) (tE C (gd X) W mb)) : PE X (.BoolOp .And (a :: b :: rest) pos) (tE C (gd X) W (mAndV ma mb)) :=
  (pe_and ha hb).imp fun σ H Q ⟨env, q, h⟩ => ⟨env, q, tK_mono (tK_E (.refl q) h) fun v H1 ⟨r, e1, _, p1, vr, h1⟩ => by
    cases e : asB r with
    | none => rw [e] at h1; exact h1.elim
    | some k =>
      rw [e] at h1
      refine ⟨k, asB_ok vr e, ?_⟩
      cases k with
      | true => exact iteT ⟨e1, p1.rel, tK_lastE p1 h1⟩
      | false => exact iteF (h1 _ H1 p1 (.bl false))⟩
theorem e_or (ha : PE X a (tE C (gd X) W ma)) (hb : PE X (.BoolOp .Or (b :: rest) pos) (tE C (gd X) W mb)) : PE X (.BoolOp .Or (a :: b :: rest) pos) (tE C (gd X) W (mOrV ma mb)) :=
  (pe_or ha hb).imp fun σ H Q ⟨env, q, h⟩ => ⟨env, q, tK_mono (tK_E (.refl q) h) fun v H1 ⟨r, e1, _, p1, vr, h1⟩ => by
    cases e : asB r with
    | none => rw [e] at h1; exact h1.elim
    | some k =>
      rw [e] at h1
      refine ⟨k, asB_ok vr e, ?_⟩
      cases k with
      | false => exact iteF ⟨e1, p1.rel, tK_lastE p1 h1⟩
      | true => exact iteT (h1 _ H1 p1 (.bl true))⟩
theorem e_not (ha : PE X a (tE C (gd X) W ma)) : PE X (.UnaryOp .Not a pos) (tE C (gd X) W (mNotV ma)) :=
  (pe_not ha).imp fun σ H Q ⟨env, q, h⟩ => ⟨env, q, tK_mono (tK_E (.refl q) h) fun v H1 ⟨r, e1, _, p1, vr, h1⟩ => by
    cases e : asB r with
    | none => rw [e] at h1; exact h1.elim
    | some k =>
      rw [e] at h1
      exact ⟨k, asB_ok vr e, h1 _ H1 p1 (.bl _)⟩⟩
theorem e_if (hc : PT X c (tT C (gd X) W mt)) (ha : PE X a (tE C (gd X) W ma)) (hb : PE X b (tE C (gd X) W mb)) : PE X (.IfExp c a b pos) (tE C (gd X) W (mIf mt ma mb)) :=
  (pe_ifExp hc ha hb).imp fun σ H Q ⟨env, q, h⟩ => ⟨env, q, tK_mono (tK_T (.refl q) h) fun k H1 ⟨e1, _, p1, h1⟩ => by
    cases k with
    | true => exact iteT ⟨e1, p1.rel, tK_lastE p1 h1⟩
    | false => exact iteF ⟨e1, p1.rel, tK_lastE p1 h1⟩⟩
end

def aNil : En → R (List Val) := fun env => .ok [] env
def aCons (m : ME) (r : En → R (List Val)) : En → R (List Val) := fun env => (m env).bind fun v e => (r e).bind fun vs e2 => .ok (v :: vs) e2
section
variable {X : Cx} {C : Cc} {W : WX} {e : Expr} {es : List Expr} {m : ME} {mr : En → R (List Val)} {pos : Pos}
theorem a_nil : PA X [] (tA C (gd X) W aNil) := pa_nil.imp fun σ H Q ⟨env, q, h⟩ => h [] H (.refl q) .nil
theorem a_cons (ha : PE X e (tE C (gd X) W m)) (hr : PA X es (tA C (gd X) W mr)) (hs : starEach (e :: es) X.env = (false, eval e X.env) :: starEach es X.env := by rfl) : PA X (e :: es) (tA C (gd X) W (aCons m mr)) :=
  (pa_cons ha hr hs).imp fun σ H Q ⟨env, q, h⟩ => ⟨env, q, tK_mono (tK_E (.refl q) h) fun v H1 ⟨r, e1, _, p1, vr, h1⟩ =>
    ⟨e1, p1.rel, tK_mono (tK_A p1 h1) fun vs H2 ⟨rs, e2, i2, p2, vrs, h2⟩ => h2 (v :: vs) H2 p2 (.cons (vr.post p1.rel (p1.noHeld q) i2.toPost) vrs)⟩⟩
end
end PV

set_option Elab.async false
set_option linter.all false
set_option maxRecDepth 100000
set_option maxHeartbeats 4000000
namespace PV
open PySem PySem.Spec PyProof.Rows L2

/-- what may be frozen -/
def Frzb : HO → Prop
  | .lst _ => True
  | .ext _ => True
  | _ => False
theorem frz_inv {X : Cx} {pins : List (Addr × Obj)} {σ : L2.St} {H : Hp} {s : Shared} {a : Addr} {u : HO} (I : Inv X pins σ H s) (h : H a = some u) (hf : Frzb u) : ∃ o, Inv X pins σ (upd H a (.frz o u)) s := by
  have hob := I.hok a u h
  obtain ⟨o, ho⟩ : ∃ o, s.heap.get? a = some o := by
    cases u with
    | lst xs => obtain ⟨_, _, _, _, e⟩ := hob; exact ⟨_, e⟩
    | ext φ => obtain ⟨_, ⟨o, e⟩, _⟩ := hob; exact ⟨o, e⟩
    | _ => exact hf.elim
  have ne : ∀ b, H b = none → b ≠ a := fun b e z => by rw [z, h] at e; cases e
  have net : ∀ b u', H b = some u' → ¬ Frzb u' → b ≠ a := fun b u' e nf z => by rw [z, h] at e; cases e; exact nf hf
  have tup : ∀ b xs, H b = some (.tup xs) → upd H a (.frz o u) b = some (.tup xs) := fun b xs e => by rw [upd_ne (net b _ e fun z => z)]; exact e
  have own : ∀ b x, H b = some (.own x) → upd H a (.frz o u) b = some (.own x) := fun b xs e => by rw [upd_ne (net b _ e fun z => z)]; exact e
  have stay : ∀ b w, ObjOk X.prog X.w H s.heap b w → ObjOk X.prog X.w (upd H a (.frz o u)) s.heap b w := fun b w q => q.stay (fun _ _ _ e => e) (fun c e => own c b e) fun c xs e => tup c xs e
  refine ⟨o, I.ok, I.os, I.bare, ⟨I.base.keep, I.base.slot, fun b ob e n hx => ?_, I.base.there, fun b xs e => tup b xs (I.base.tups b xs e), fun b ob w e => ?_, fun b ps e => ?_⟩, I.loc, I.cell, ?_, fun x c e => ?_, fun p hp => ?_, fun b w e => ?_, I.len⟩
  · rw [upd_ne (ne b (I.base.free b ob e n hx))]
    exact I.base.free b ob e n hx
  · have q := I.base.frzs b ob w e
    rw [upd_ne (net b _ q fun z => z)]
    exact q
  · obtain ⟨more, q⟩ := I.base.tbls b ps e
    exact ⟨more, by rw [upd_ne (net b _ q fun z => z)]; exact q⟩
  · rw [upd_ne (ne _ I.free)]; exact I.free
  · rw [upd_ne (ne _ (I.freeC x c e))]; exact I.freeC x c e
  · obtain ⟨p1, p2, p3⟩ := I.pin p hp
    exact ⟨p1, by rw [upd_ne (ne _ p2)]; exact p2, p3⟩
  · by_cases hb : b = a
    · subst hb
      rw [upd_same] at e
      cases e
      exact ⟨ho, stay b u hob⟩
    · rw [upd_ne hb] at e
      exact stay b w (I.hok b w e)

theorem Own.frzb {G : Gd} {H : Hp} {a : Addr} {d : D} (h : Own G H a d) : ∃ u, H a = some u ∧ Frzb u ∧ ∀ o, Rep G (upd H a (.frz o u)) (.ref a) d := by
  have kp : ∀ {u o}, H a = some u → Frzb u → Kp H (upd H a (.frz o u)) := fun {u o} e f => by
    have ne : ∀ b w, H b = some w → ¬ Frzb w → b ≠ a := fun b w q nf z => by rw [z, e] at q; cases q; exact nf f
    exact ⟨fun b xs q => by rw [upd_ne (ne b _ q fun z => z)]; exact q, fun b ob w q => by rw [upd_ne (ne b _ q fun z => z)]; exact q⟩
  cases d with
  | list ds =>
    obtain ⟨vs, h1, h2⟩ := h
    exact ⟨_, h1, trivial, fun o => .lst (.inl ⟨_, upd_same⟩) (h2.mono (kp h1 trivial))⟩
  | dict kvs =>
    obtain ⟨es, h1, h2, h3, h4, h5⟩ := h
    exact ⟨_, h1, trivial, fun o => .dic upd_same (h2.mono (kp h1 trivial)) h3 h4 h5⟩
  | _ => exact h.elim
theorem Own.kp {G : Gd} {H : Hp} {a : Addr} {d : D} {u : HO} {o : Obj} (h : Own G H a d) (e : H a = some u) : Kp H (upd H a (.frz o u)) := by
  obtain ⟨o', e', _, n1, n2⟩ := h.obj
  rw [e] at e'; cases e'
  have ne : ∀ b w, H b = some w → w ≠ u → b ≠ a := fun b w q nf z => by rw [z, e] at q; cases q; exact nf rfl
  exact ⟨fun b xs q => by rw [upd_ne (ne b _ q fun z => n1 xs z.symm)]; exact q, fun b ob w q => by rw [upd_ne (ne b _ q fun z => n2 ob w z.symm)]; exact q⟩

/-- a value as data: its object is frozen, where it is not yet -/
def frz1 (r : Val) (e : En) : Option (D × En) := match r with
  | .d x => some (x, e)
  | .nw x => some (x, e)
  | .own j => match e[j]? with
    | some (.sh d) => some (d, e)
    | some (.ow false d) => some (d, e.set j (.sh d))
    | _ => none
  | .xc _ => none
def frzs : List Val → En → Option (List D × En)
  | [], e => some ([], e)
  | r :: rs, e => match frz1 r e with
    | some (d, e1) => match frzs rs e1 with
      | some (ds, e2) => some (d :: ds, e2)
      | none => none
    | none => none

/-- a value, or a new object that is frozen already -/
def ValRelF (G : Gd) (H : Hp) (env' : En) (σ : L2.St) (H' : Hp) (v : V) (r : Val) : Prop := ValRel G H env' σ H' v r ∨ ∃ x, r = .nw x ∧ Rep G H' v x

section
variable {G : Gd} {C : Cc} {env env' env2 e1 : En} {σ σ' σ2 : L2.St} {H H0 H' H1 H2 : Hp} {v : V} {r : Val}
/-- an object that no slot has, new against the start, is frozen -/
theorem PostE.frzNew (q : Rel G C env σ H) (p : PostE G C env σ H e1 H1) {a : Addr} {d : D} {u : HO} {o : Obj} (hn : H a = none) (ow : Own G H1 a d) (hu : H1 a = some u) : PostE G C env σ H e1 (upd H1 a (.frz o u)) := by
  have kp := ow.kp (o := o) hu
  have nh := p.noHeld q a hn
  have ne : ∀ b w, H b = some w → b ≠ a := fun b w e z => by rw [z, hn] at e; cases e
  have rel : Rel G C e1 σ (upd H1 a (.frz o u)) := {
    len := p.rel.len
    slot := fun i sl e => by
      have h := p.rel.slot i sl e
      have ow' : ∀ {b d}, Held e1 σ i b → Own G H1 b d → Own G (upd H1 a (.frz o u)) b d := fun {b d} hh q => q.mono kp (upd_ne fun z => nh ⟨i, z ▸ hh⟩)
      cases sl with
      | un => trivial
      | xc c => exact h.elim
      | sh d => obtain ⟨v, e, q⟩ := h; exact ⟨v, e, q.mono kp⟩
      | ow b d => obtain ⟨b', e', q⟩ := h; exact ⟨b', e', ow' ⟨⟨_, d, e, rfl⟩, e'⟩ q⟩
      | lk b d => obtain ⟨b', e', q⟩ := h; exact ⟨b', e', ow' ⟨⟨_, d, e, rfl⟩, e'⟩ q⟩
    inj := p.rel.inj
    tab := fun P hP => by
      obtain ⟨ps, h, t⟩ := p.rel.tab P hP
      refine ⟨ps, ?_, t⟩
      rw [upd_ne]
      · exact h
      · intro z
        obtain ⟨o', e', n, _⟩ := ow.obj
        rw [z, e'] at h
        cases h
        exact n ps rfl
    new := p.rel.new
    old := fun b h => by
      by_cases z : b = a
      · rw [z, upd_same]; simp
      · rw [upd_ne z]; exact p.rel.old b h }
  exact {
    rel := rel
    keep := fun b w h ht hm => by rw [upd_ne (ne b w h)]; exact p.keep b w h ht hm
    there := fun b h => by
      by_cases z : b = a
      · rw [z, upd_same]; simp
      · rw [upd_ne z]; exact p.there b h
    mutb := p.mutb
    fixL := p.fixL
    fixO := p.fixO
    sub := p.sub }
theorem Held.set {i j : Nat} {b : Addr} {d : D} (h : Held (e1.set j (.sh d)) σ i b) : Held e1 σ i b ∧ i ≠ j := by
  obtain ⟨⟨s, x, h1, h2⟩, h3⟩ := h
  by_cases z : i = j
  · subst z
    by_cases hl : i < e1.length
    · rw [List.getElem?_set_self hl] at h1; cases h1; cases h2
    · rw [List.getElem?_eq_none (by simpa using hl)] at h1; cases h1
  · rw [List.getElem?_set_ne (Ne.symm z)] at h1
    exact ⟨⟨⟨s, x, h1, h2⟩, h3⟩, z⟩
/-- the object of slot j is frozen -/
theorem PostE.frzOwn (q : Rel G C env σ H) (p : PostE G C env σ H e1 H1) {j : Nat} {a : Addr} {d : D} {u : HO} {o : Obj} (hj : e1[j]? = some (.ow false d)) (ha : σ[j]? = some (some (.ref a))) (ow : Own G H1 a d) (hu : H1 a = some u) (rep : Rep G (upd H1 a (.frz o u)) (.ref a) d) :
    PostE G C env σ H (e1.set j (.sh d)) (upd H1 a (.frz o u)) := by
  have kp := ow.kp (o := o) hu
  have hl : j < e1.length := (List.getElem?_eq_some_iff.mp hj).1
  have hme : Held e1 σ j a := ⟨⟨_, d, hj, rfl⟩, ha⟩
  have ne : ∀ i, i ≠ j → (e1.set j (.sh d))[i]? = e1[i]? := fun i z => List.getElem?_set_ne (Ne.symm z)
  have hm : MutAt env σ a ∨ H a = none := p.mutb a ⟨j, false, d, hj, ha⟩
  have rel : Rel G C (e1.set j (.sh d)) σ (upd H1 a (.frz o u)) := {
    len := by rw [List.length_set]; exact p.rel.len
    slot := fun i sl e => by
      by_cases z : i = j
      · subst z
        rw [List.getElem?_set_self hl] at e
        cases e
        exact ⟨_, ha, rep⟩
      · rw [ne i z] at e
        have h := p.rel.slot i sl e
        have ow' : ∀ {b x}, Held e1 σ i b → Own G H1 b x → Own G (upd H1 a (.frz o u)) b x := fun {b x} hh q => q.mono kp (upd_ne fun w => z (p.rel.inj i j a (w ▸ hh) hme))
        cases sl with
        | un => trivial
        | xc c => exact h.elim
        | sh x => obtain ⟨v, e, q⟩ := h; exact ⟨v, e, q.mono kp⟩
        | ow b x => obtain ⟨b', e', q⟩ := h; exact ⟨b', e', ow' ⟨⟨_, x, e, rfl⟩, e'⟩ q⟩
        | lk b x => obtain ⟨b', e', q⟩ := h; exact ⟨b', e', ow' ⟨⟨_, x, e, rfl⟩, e'⟩ q⟩
    inj := fun i k b h1 h2 => p.rel.inj i k b h1.set.1 h2.set.1
    tab := fun P hP => by
      obtain ⟨ps, h, t⟩ := p.rel.tab P hP
      refine ⟨ps, ?_, t⟩
      rw [upd_ne]
      · exact h
      · intro z
        obtain ⟨o', e', n, _⟩ := ow.obj
        rw [z, e'] at h
        cases h
        exact n ps rfl
    new := fun i b hm hs => by
      obtain ⟨x, hx⟩ := hm
      have z : i ≠ j := fun z => by
        subst z
        rw [List.getElem?_set_self hl] at hx
        rcases hx with hx | hx <;> cases hx
      rw [ne i z] at hx
      exact p.rel.new i b ⟨x, hx⟩ hs
    old := fun b h => by
      by_cases z : b = a
      · rw [z, upd_same]; simp
      · rw [upd_ne z]; exact p.rel.old b h }
  exact {
    rel := rel
    keep := fun b w h ht nm => by
      have z : b ≠ a := fun z => by
        subst z
        rcases hm with m | m
        · exact nm m
        · rw [h] at m; cases m
      rw [upd_ne z]
      exact p.keep b w h ht nm
    there := fun b h => by
      by_cases z : b = a
      · rw [z, upd_same]; simp
      · rw [upd_ne z]; exact p.there b h
    mutb := fun b ⟨i, bb, x, h1, h2⟩ => by
      have z : i ≠ j := fun z => by
        subst z
        rw [List.getElem?_set_self hl] at h1
        cases h1
      rw [ne i z] at h1
      exact p.mutb b ⟨i, bb, x, h1, h2⟩
    fixL := fun i b x h => by
      obtain ⟨h1, h2⟩ := p.fixL i b x h
      have z : i ≠ j := fun z => by subst z; rw [hj] at h1; cases h1
      exact ⟨by rw [ne i z]; exact h1, h2⟩
    fixO := fun i x h => by
      obtain ⟨⟨x', h1⟩, h2⟩ := p.fixO i x h
      have z : i ≠ j := fun z => by subst z; rw [hj] at h1; cases h1
      exact ⟨⟨x', by rw [ne i z]; exact h1⟩, h2⟩
    sub := fun i b h => p.sub i b h.set.1 }

/-- another value stays when a is frozen -/
theorem ValRelF.frz (kp : Kp H1 (upd H1 a (.frz o u))) (hu : H1 a = some u) (hrep : ∀ d, Own G H1 a d → Rep G (upd H1 a (.frz o u)) (.ref a) d) (hl : e1.length = e2.length) (h : ValRelF G H e1 σ H1 v r) : ValRelF G H e2 σ (upd H1 a (.frz o u)) v r := by
  rcases h with h | ⟨x, e, h⟩
  · cases r with
    | d x => exact .inl (Rep.mono kp h)
    | nw x =>
      obtain ⟨b, q1, q2, q3⟩ := h
      by_cases z : b = a
      · subst z
        subst q1
        exact .inr ⟨x, rfl, hrep x q3⟩
      · exact .inl ⟨b, q1, q2, q3.mono kp (upd_ne z)⟩
    | own i => exact .inl ⟨h.1, by rw [← hl]; exact h.2⟩
    | xc c => exact h.elim
  · exact .inr ⟨x, e, h.mono kp⟩
end
theorem Own.repAll {G : Gd} {H : Hp} {a : Addr} {u : HO} {o : Obj} (hu : H a = some u) (d : D) (h : Own G H a d) : Rep G (upd H a (.frz o u)) (.ref a) d := by
  obtain ⟨u', e, _, r⟩ := h.frzb
  rw [hu] at e; cases e
  exact r o

section
variable {X : Cx} {C : Cc} {env e1 e2 : En} {σ : L2.St} {H H1 : Hp} {pins : List (Addr × Obj)} {s : Shared}
/-- one value -/
theorem frz1_ok {v : V} {r : Val} {d : D} (I : Inv X pins σ H1 s) (q : Rel (gd X) C env σ H) (p : PostE (gd X) C env σ H e1 H1) (h : ValRelF (gd X) H e1 σ H1 v r) (e : frz1 r e1 = some (d, e2)) :
    ∃ H2, Inv X pins σ H2 s ∧ PostE (gd X) C env σ H e2 H2 ∧ Rep (gd X) H2 v d ∧ Kp H1 H2 ∧ ∀ v' r', ValRelF (gd X) H e1 σ H1 v' r' → ValRelF (gd X) H e2 σ H2 v' r' := by
  have keep : ∀ {x}, Rep (gd X) H1 v x → frz1 r e1 = some (x, e1) → ∃ H2, Inv X pins σ H2 s ∧ PostE (gd X) C env σ H e2 H2 ∧ Rep (gd X) H2 v d ∧ Kp H1 H2 ∧ ∀ v' r', ValRelF (gd X) H e1 σ H1 v' r' → ValRelF (gd X) H e2 σ H2 v' r' := fun {x} hx ee => by
    rw [e] at ee
    cases ee
    exact ⟨H1, I, p, hx, Kp.refl _, fun _ _ z => z⟩
  rcases h with h | ⟨x, rfl, h⟩
  · cases r with
    | d x => exact keep (x := x) h rfl
    | nw x =>
      obtain ⟨a, e1', hn, ow⟩ := h
      cases e
      subst e1'
      obtain ⟨u, hu, hf, _⟩ := ow.frzb
      obtain ⟨o, I2⟩ := frz_inv I hu hf
      have kp := ow.kp (o := o) hu
      exact ⟨_, I2, p.frzNew q hn ow hu, ow.repAll hu _, kp, fun v' r' z => z.frz kp hu (Own.repAll hu) rfl⟩
    | own j =>
      obtain ⟨h1, h2⟩ := h
      have sl := p.rel.slot j
      unfold frz1 at e
      cases hs : e1[j]? with
      | none => simp [hs] at e
      | some sj =>
        have sr := sl sj hs
        rw [h1] at sr
        cases sj with
        | sh x =>
          simp [hs] at e
          obtain ⟨rfl, rfl⟩ := e
          obtain ⟨v', e', q'⟩ := sr
          cases e'
          exact ⟨H1, I, p, q', Kp.refl _, fun _ _ z => z⟩
        | ow b x =>
          cases b with
          | true => simp [hs] at e
          | false =>
            simp [hs] at e
            obtain ⟨rfl, rfl⟩ := e
            obtain ⟨a, e', ow⟩ := sr
            cases e'
            obtain ⟨u, hu, hf, _⟩ := ow.frzb
            obtain ⟨o, I2⟩ := frz_inv I hu hf
            have kp := ow.kp (o := o) hu
            exact ⟨_, I2, p.frzOwn q hs h1 ow hu (ow.repAll hu _), ow.repAll hu _, kp, fun v' r' z => z.frz kp hu (Own.repAll hu) (by rw [List.length_set])⟩
        | _ => simp [hs] at e
    | xc c => exact h.elim
  · cases e
    exact ⟨H1, I, p, h, Kp.refl _, fun _ _ z => z⟩
theorem frzs_ok (q : Rel (gd X) C env σ H) : ∀ {vs : List V} {rs : List Val} {ds : List D} {e1 e2 : En} {H1 : Hp}, Inv X pins σ H1 s → PostE (gd X) C env σ H e1 H1 → vs.length = rs.length → (∀ (i : Nat) v r, vs[i]? = some v → rs[i]? = some r → ValRelF (gd X) H e1 σ H1 v r) → frzs rs e1 = some (ds, e2) →
    ∃ H2, Inv X pins σ H2 s ∧ PostE (gd X) C env σ H e2 H2 ∧ Reps (gd X) H2 vs ds ∧ Kp H1 H2
  | [], [], _, _, _, H1, I, p, _, _, e => by cases e; exact ⟨H1, I, p, .nil, Kp.refl _⟩
  | [], _ :: _, _, _, _, _, _, _, l, _, _ => by cases l
  | _ :: _, [], _, _, _, _, _, _, l, _, _ => by cases l
  | v :: vs, r :: rs, ds, e1, e2, H1, I, p, l, h, e => by
    unfold frzs at e
    cases q1 : frz1 r e1 with
    | none => simp [q1] at e
    | some de =>
      obtain ⟨d, e'⟩ := de
      cases q2 : frzs rs e' with
      | none => simp [q1, q2] at e
      | some de2 =>
        obtain ⟨ds', e''⟩ := de2
        simp [q1, q2] at e
        obtain ⟨rfl, rfl⟩ := e
        obtain ⟨H2, I2, p2, r2, k2, t2⟩ := frz1_ok I q p (h 0 v r rfl rfl) q1
        obtain ⟨H3, I3, p3, r3, k3⟩ := frzs_ok q I2 p2 (by simpa using l) (fun i v' r' a b => t2 v' r' (h (i + 1) v' r' a b)) q2
        exact ⟨H3, I3, p3, .cons (r2.mono k3) r3, k2.trans k3⟩
theorem frzs_keep (q : Rel (gd X) C env σ H) : ∀ {vs : List V} {rs : List Val} {ds : List D} {e1 e2 : En} {H1 : Hp}, Inv X pins σ H1 s → PostE (gd X) C env σ H e1 H1 → vs.length = rs.length → (∀ (i : Nat) v r, vs[i]? = some v → rs[i]? = some r → ValRelF (gd X) H e1 σ H1 v r) → frzs rs e1 = some (ds, e2) →
    ∃ H2, Inv X pins σ H2 s ∧ PostE (gd X) C env σ H e2 H2 ∧ Reps (gd X) H2 vs ds ∧ Kp H1 H2 ∧ ∀ v r, ValRelF (gd X) H e1 σ H1 v r → ValRelF (gd X) H e2 σ H2 v r
  | [], [], _, _, _, H1, I, p, _, _, e => by cases e; exact ⟨H1, I, p, .nil, Kp.refl _, fun _ _ z => z⟩
  | [], _ :: _, _, _, _, _, _, _, l, _, _ => by cases l
  | _ :: _, [], _, _, _, _, _, _, l, _, _ => by cases l
  | v :: vs, r :: rs, ds, e1, e2, H1, I, p, l, h, e => by
    unfold frzs at e
    cases q1 : frz1 r e1 with
    | none => simp [q1] at e
    | some de =>
      obtain ⟨d, e'⟩ := de
      cases q2 : frzs rs e' with
      | none => simp [q1, q2] at e
      | some de2 =>
        obtain ⟨ds', e''⟩ := de2
        simp [q1, q2] at e
        obtain ⟨rfl, rfl⟩ := e
        obtain ⟨H2, I2, p2, r2, k2, t2⟩ := frz1_ok I q p (h 0 v r rfl rfl) q1
        obtain ⟨H3, I3, p3, r3, k3, t3⟩ := frzs_keep q I2 p2 (by simpa using l) (fun i v' r' a b => t2 v' r' (h (i + 1) v' r' a b)) q2
        exact ⟨H3, I3, p3, .cons (r2.mono k3) r3, k2.trans k3, fun v r a => t3 v r (t2 v r a)⟩
theorem ValRels.at {G : Gd} {H : Hp} {e : En} {σ : L2.St} {H' : Hp} : ∀ {vs : List V} {rs : List Val}, ValRels G H e σ H' vs rs → vs.length = rs.length ∧ ∀ (i : Nat) v r, vs[i]? = some v → rs[i]? = some r → ValRel G H e σ H' v r
  | _, _, .nil => ⟨rfl, fun i v r a => by simp at a⟩
  | _, _, .cons h t => by
    obtain ⟨l, q⟩ := t.at
    refine ⟨by simp [l], fun i v r a b => ?_⟩
    cases i with
    | zero => simp at a b; subst a; subst b; exact h
    | succ i => exact q i v r (by simpa using a) (by simpa using b)
end

/-- what may be had from P by renaming what is tracked -/
def Gh (X : Cx) (σ : L2.St) (P : Hp → Prop) (H : Hp) : Prop := ∀ pins s, Inv X pins σ H s → ∃ H', Inv X pins σ H' s ∧ P H'
section
variable {X : Cx}
theorem Gh.of {σ : L2.St} {P : Hp → Prop} {H : Hp} (h : P H) : Gh X σ P H := fun _ _ I => ⟨H, I, h⟩
theorem pe_gh {e : Expr} {t : TE} (h : PE X e t) : PE X e (fun σ H Q => t σ H fun v H' => Gh X σ (Q v) H') := ⟨fun pins s σ H Q I hq => thn (h.run pins s σ H _ I hq) fun u s' ⟨v, H', I', r, g⟩ => by
  obtain ⟨H2, I2, q⟩ := g _ _ I'
  exact ⟨v, H2, I2, r, q⟩⟩
theorem pa_gh {e : List Expr} {t : TA} (h : PA X e t) : PA X e (fun σ H Q => t σ H fun v H' => Gh X σ (Q v) H') := ⟨fun pos pins s σ H Q I hq => thn (h.run pos pins s σ H _ I hq) fun u s' ⟨v, H', I', r, g⟩ => by
  obtain ⟨H2, I2, q⟩ := g _ _ I'
  exact ⟨v, H2, I2, r, q⟩⟩
end
end PV

set_option Elab.async false
set_option linter.all false
set_option maxRecDepth 100000
set_option maxHeartbeats 4000000
namespace PV
open PySem PySem.Spec PyProof.Rows L2

/-- how a block ends; a returned value is data or a new object -/
inductive Fl where
  | nx | bk | ct | rt (v : Val)
abbrev MS := En → R Fl

def RetRel (G : Gd) (C : Cc) (H' : Hp) (v : V) : Val → Prop
  | .d x => Rep G H' v x
  | .nw x => ∃ a, v = .ref a ∧ C.Hs a = none ∧ Own G H' a x
  | _ => False
def tSK (C : Cc) (G : Gd) (W : WX) (env : En) (σ : L2.St) (H : Hp) (k : R Fl) (D : Ends) : Prop := match k with
  | .stuck => False
  | .ok .nx env' => ∀ σ' H', Post G C env σ H env' σ' H' → D.nx σ' H'
  | .ok .bk env' => ∀ σ' H', Post G C env σ H env' σ' H' → D.bk σ' H'
  | .ok .ct env' => ∀ σ' H', Post G C env σ H env' σ' H' → D.ct σ' H'
  | .ok (.rt r) env' => ∀ v σ' H', Post G C env σ H env' σ' H' → RetRel G C H' v r → D.rt v H'
  | .exc c env' => ∀ σ' H', Post G C env σ H env' σ' H' → W (.ref (C.cl c)) none σ' H'
def tS (C : Cc) (G : Gd) (W : WX) (m : MS) : TS := fun D σ H => ∃ env, Rel G C env σ H ∧ tSK C G W env σ H (m env) D

section
variable {C : Cc} {G : Gd} {W : WX} {env e1 : En} {σ σ1 : L2.St} {H H1 : Hp} {D D' : Ends}
theorem tSK_shift (p : Post G C env σ H e1 σ1 H1) {k : R Fl} (h : tSK C G W env σ H k D) : tSK C G W e1 σ1 H1 k D := by
  cases k with
  | stuck => exact h
  | exc c e => exact fun σ' H' q => h σ' H' (p.trans q)
  | ok fl e =>
    cases fl with
    | nx => exact fun σ' H' q => h σ' H' (p.trans q)
    | bk => exact fun σ' H' q => h σ' H' (p.trans q)
    | ct => exact fun σ' H' q => h σ' H' (p.trans q)
    | rt r => exact fun v σ' H' q => h v σ' H' (p.trans q)
/-- other ends -/
theorem tSK_ends {k : R Fl} (h : tSK C G W env σ H k D) (h1 : ∀ σ' H' e, k = .ok .nx e → Post G C env σ H e σ' H' → D.nx σ' H' → D'.nx σ' H') (h2 : ∀ σ' H', D.bk σ' H' → D'.bk σ' H') (h3 : ∀ σ' H', D.ct σ' H' → D'.ct σ' H') (h4 : ∀ v H', D.rt v H' → D'.rt v H') :
    tSK C G W env σ H k D' := by
  cases k with
  | stuck => exact h
  | exc c e => exact h
  | ok fl e =>
    cases fl with
    | nx => exact fun σ' H' q => h1 _ _ e rfl q (h σ' H' q)
    | bk => exact fun σ' H' q => h2 _ _ (h σ' H' q)
    | ct => exact fun σ' H' q => h3 _ _ (h σ' H' q)
    | rt r => exact fun v σ' H' q rr => h4 _ _ (h v σ' H' q rr)
end

def sNx : MS := fun e => .ok .nx e
def sBk : MS := fun e => .ok .bk e
def sCt : MS := fun e => .ok .ct e
def mSeq (a b : MS) : MS := fun env => (a env).bind fun fl e => match fl with
  | .nx => b e
  | fl => .ok fl e
def mExp (m : ME) : MS := fun env => (m env).bind fun _ e => .ok .nx e
def mIfS (t : MT) (a b : MS) : MS := fun env => (t env).bind fun c e => if c then a e else b e
/-- a value that may leave the def -/
def leaves (e : En) : Val → Option Val
  | .d x => some (.d x)
  | .nw x => some (.nw x)
  | .own j => match e[j]? with
    | some (.sh d) => some (.d d)
    | some (.ow false d) => some (.nw d)
    | _ => none
  | .xc _ => none
def mRet (m : ME) : MS := fun env => (m env).bind fun r e => match leaves e r with
  | some v => .ok (.rt v) e
  | none => .stuck
def mRetN : MS := fun e => .ok (.rt (.d .none)) e
section
variable {X : Cx} {C : Cc} {W : WX} {st : Stmt} {rest : List Stmt} {ms mr : MS} {e : Expr} {m : ME} {mt : MT} {pos : Pos} {a b : List Stmt}
theorem s_nil : PSs X [] (tS C (gd X) W sNx) := pss_nil.imp fun D σ H ⟨env, q, h⟩ => h σ H (.refl q)
theorem s_cons (h1 : PS X st (tS C (gd X) W ms)) (h2 : PSs X rest (tS C (gd X) W mr)) : PSs X (st :: rest) (tS C (gd X) W (mSeq ms mr)) :=
  (pss_cons h1 h2).imp fun D σ H ⟨env, q, h⟩ => ⟨env, q, by
    unfold mSeq at h
    cases k : ms env with
    | stuck => rw [k] at h; exact h
    | exc c e => rw [k] at h; exact h
    | ok fl e1 =>
      rw [k] at h
      cases fl with
      | nx => exact fun σ1 H1 p => ⟨e1, p.rel, tSK_shift p h⟩
      | bk => exact h
      | ct => exact h
      | rt r => exact h⟩
theorem s_one (h1 : PS X st (tS C (gd X) W ms)) : PSs X [st] (tS C (gd X) W ms) := pss_one h1
theorem s_pass : PS X (.Pass pos) (tS C (gd X) W sNx) := ps_pass.imp fun D σ H ⟨env, q, h⟩ => h σ H (.refl q)
theorem s_break : PS X (.Break pos) (tS C (gd X) W sBk) := ps_break.imp fun D σ H ⟨env, q, h⟩ => h σ H (.refl q)
theorem s_continue : PS X (.Continue pos) (tS C (gd X) W sCt) := ps_continue.imp fun D σ H ⟨env, q, h⟩ => h σ H (.refl q)
theorem s_expr (he : PE X e (tE C (gd X) W m)) (hs : swapsWith e none pos.line X.env = pure false := by rfl) : PS X (.Expr e pos) (tS C (gd X) W (mExp m)) :=
  (ps_expr he hs).imp fun D σ H ⟨env, q, h⟩ => ⟨env, q, by
    unfold mExp at h
    cases k : m env with
    | stuck => rw [k] at h; exact h
    | exc c e => rw [k] at h; exact fun H' p => h σ H' p.toPost
    | ok r e1 => rw [k] at h; exact fun v H' p vr => h σ H' p.toPost⟩
theorem s_if {c : Expr} (hc : PT X c (tT C (gd X) W mt)) (ha : PSs X a (tS C (gd X) W ms)) (hb : PSs X b (tS C (gd X) W mr)) : PS X (.If c a b pos) (tS C (gd X) W (mIfS mt ms mr)) :=
  (ps_if hc ha hb).imp fun D σ H ⟨env, q, h⟩ => ⟨env, q, by
    unfold mIfS at h
    cases k : mt env with
    | stuck => rw [k] at h; exact h
    | exc c e => rw [k] at h; exact fun H' p => h σ H' p.toPost
    | ok r e1 =>
      rw [k] at h
      intro v H' p vr
      subst vr
      cases v with
      | true => exact iteT ⟨e1, p.rel, tSK_shift p.toPost h⟩
      | false => exact iteF ⟨e1, p.rel, tSK_shift p.toPost h⟩⟩
theorem leaves_ok {G : Gd} {env e1 : En} {σ : L2.St} {H H1 : Hp} {v : V} {r r' : Val} (q : Rel G C env σ H) (p : PostE G C env σ H e1 H1) (vr : ValRel G H e1 σ H1 v r) (h : leaves e1 r = some r') : RetRel G C H1 v r' := by
  cases r with
  | d x => cases h; exact vr
  | nw x =>
    cases h
    obtain ⟨a, e, hn, ow⟩ := vr
    refine ⟨a, e, ?_, ow⟩
    cases z : C.Hs a with
    | none => rfl
    | some o => exact absurd hn (q.old a (by rw [z]; simp))
  | own j =>
    obtain ⟨h1, h2⟩ := vr
    unfold leaves at h
    cases hs : e1[j]? with
    | none => simp [hs] at h
    | some sj =>
      have sr := p.rel.slot j sj hs
      rw [h1] at sr
      cases sj with
      | sh x =>
        simp [hs] at h
        subst h
        obtain ⟨v', e', q'⟩ := sr
        cases e'
        exact q'
      | ow b x =>
        cases b with
        | true => simp [hs] at h
        | false =>
          simp [hs] at h
          subst h
          obtain ⟨a, e', ow⟩ := sr
          cases e'
          exact ⟨a, rfl, p.rel.new j a ⟨x, .inl hs⟩ h1, ow⟩
      | _ => simp [hs] at h
  | xc c => cases h
theorem s_ret (he : PE X e (tE C (gd X) W m)) : PS X (.Return (some e) pos) (tS C (gd X) W (mRet m)) :=
  (ps_ret he).imp fun D σ H ⟨env, q, h⟩ => ⟨env, q, by
    unfold mRet at h
    cases k : m env with
    | stuck => rw [k] at h; exact h
    | exc c e => rw [k] at h; exact fun H' p => h σ H' p.toPost
    | ok r e1 =>
      rw [k] at h
      intro v H' p vr
      cases l : leaves e1 r with
      | none =>
        have h : tSK C (gd X) W env σ H (match leaves e1 r with | some v => .ok (.rt v) e1 | none => .stuck) D := h
        rw [l] at h; exact h.elim
      | some r' =>
        have h : tSK C (gd X) W env σ H (match leaves e1 r with | some v => .ok (.rt v) e1 | none => .stuck) D := h
        rw [l] at h
        exact h v σ H' p.toPost (leaves_ok q p vr l)⟩
theorem s_retN : PS X (.Return none pos) (tS C (gd X) W mRetN) := ps_retN.imp fun D σ H ⟨env, q, h⟩ => h .non σ H (.refl q) .non
end

/-- slot i may be stored to -/
def okTgt (e : En) (i : Nat) : Bool := match e[i]? with
  | some .un => true
  | some (.sh _) => true
  | some (.ow false _) => true
  | some (.xc _) => true
  | _ => false
section
variable {G : Gd} {C : Cc} {env e1 : En} {σ : L2.St} {H H1 : Hp} {i : Nat} {v : V} {d : D}
theorem okTgt.lt (h : okTgt e1 i = true) : i < e1.length := by
  unfold okTgt at h
  cases z : e1[i]? with
  | none => rw [z] at h; cases h
  | some s => exact (List.getElem?_eq_some_iff.mp z).1
theorem okTgt.notL (h : okTgt e1 i = true) {b : Bool} {x : D} : e1[i]? ≠ some (.lk b x) := fun z => by
  unfold okTgt at h
  rw [z] at h; cases h
theorem okTgt.notO (h : okTgt e1 i = true) {x : D} : e1[i]? ≠ some (.ow true x) := fun z => by
  unfold okTgt at h
  rw [z] at h; cases h
theorem heldSet {s : Slot} {k : Nat} {a : Addr} (h : Held (e1.set i s) (σ.set i (some v)) k a) (z : k ≠ i) : Held e1 σ k a := by
  obtain ⟨⟨s', x, h1, h2⟩, h3⟩ := h
  rw [List.getElem?_set_ne (Ne.symm z)] at h1 h3
  exact ⟨⟨s', x, h1, h2⟩, h3⟩
/-- data is stored -/
theorem Post.setShG {σ1 : L2.St} (p : Post G C env σ H e1 σ1 H1) (t : okTgt e1 i = true) (r : Rep G H1 v d) : Post G C env σ H (e1.set i (.sh d)) (σ1.set i (some v)) H1 := by
  have lt := okTgt.lt t
  have ltσ : i < σ1.length := by rw [← p.rel.len]; exact lt
  have ne : ∀ k, k ≠ i → (e1.set i (.sh d))[k]? = e1[k]? := fun k z => List.getElem?_set_ne (Ne.symm z)
  have neσ : ∀ k, k ≠ i → (σ1.set i (some v))[k]? = σ1[k]? := fun k z => List.getElem?_set_ne (Ne.symm z)
  have notI : ∀ {a : Addr}, ¬ Held (e1.set i (.sh d)) (σ1.set i (some v)) i a := fun {a} ⟨⟨s, x, h1, h2⟩, _⟩ => by
    rw [List.getElem?_set_self lt] at h1; cases h1; cases h2
  refine ⟨⟨?_, fun k s e => ?_, fun k l a h1 h2 => ?_, p.rel.tab, fun k a m hs => ?_, p.rel.old⟩, p.keep, p.there, fun a ⟨k, b, x, h1, h2⟩ => ?_, fun k b x h => ?_, fun k x h => ?_⟩
  · rw [List.length_set, List.length_set]; exact p.rel.len
  · by_cases z : k = i
    · subst z
      rw [List.getElem?_set_self lt] at e
      cases e
      exact ⟨v, List.getElem?_set_self ltσ, r⟩
    · rw [ne k z] at e
      rw [neσ k z]
      exact p.rel.slot k s e
  · have z1 : k ≠ i := fun z => by subst z; exact notI h1
    have z2 : l ≠ i := fun z => by subst z; exact notI h2
    exact p.rel.inj k l a (heldSet h1 z1) (heldSet h2 z2)
  · have z : k ≠ i := fun z => by
      subst z
      obtain ⟨x, hx⟩ := m
      rw [List.getElem?_set_self lt] at hx
      rcases hx with hx | hx <;> cases hx
    rw [neσ k z] at hs
    obtain ⟨x, hx⟩ := m
    rw [ne k z] at hx
    exact p.rel.new k a ⟨x, hx⟩ hs
  · have z : k ≠ i := fun z => by
      subst z
      rw [List.getElem?_set_self lt] at h1; cases h1
    rw [ne k z] at h1
    rw [neσ k z] at h2
    exact p.mutb a ⟨k, b, x, h1, h2⟩
  · obtain ⟨h1, h2⟩ := p.fixL k b x h
    have z : k ≠ i := fun z => by subst z; exact okTgt.notL t h1
    exact ⟨by rw [ne k z]; exact h1, by rw [neσ k z]; exact h2⟩
  · obtain ⟨⟨x', h1⟩, h2⟩ := p.fixO k x h
    have z : k ≠ i := fun z => by subst z; exact okTgt.notO t h1
    exact ⟨⟨x', by rw [ne k z]; exact h1⟩, by rw [neσ k z]; exact h2⟩
theorem Post.setSh (p : Post G C env σ H e1 σ H1) (t : okTgt e1 i = true) (r : Rep G H1 v d) : Post G C env σ H (e1.set i (.sh d)) (σ.set i (some v)) H1 := p.setShG t r
/-- a new object is stored: it is the slot's own -/
theorem Post.setOwG {σ1 : L2.St} (p : Post G C env σ H e1 σ1 H1) (t : okTgt e1 i = true) {a : Addr} (hn : H a = none) (hsn : C.Hs a = none) (nh : ¬ ∃ k, Held e1 σ1 k a) (ow : Own G H1 a d) : Post G C env σ H (e1.set i (.ow false d)) (σ1.set i (some (.ref a))) H1 := by
  have lt := okTgt.lt t
  have ltσ : i < σ1.length := by rw [← p.rel.len]; exact lt
  have ne : ∀ k, k ≠ i → (e1.set i (.ow false d))[k]? = e1[k]? := fun k z => List.getElem?_set_ne (Ne.symm z)
  have neσ : ∀ k, k ≠ i → (σ1.set i (some (V.ref a)))[k]? = σ1[k]? := fun k z => List.getElem?_set_ne (Ne.symm z)
  have hsI : (σ1.set i (some (V.ref a)))[i]? = some (some (.ref a)) := List.getElem?_set_self ltσ
  have heldI : ∀ {b : Addr}, Held (e1.set i (.ow false d)) (σ1.set i (some (.ref a))) i b → b = a := fun {b} ⟨_, h⟩ => by
    rw [hsI] at h; cases h; rfl
  refine ⟨⟨?_, fun k s e => ?_, fun k l b h1 h2 => ?_, p.rel.tab, fun k b m hs => ?_, p.rel.old⟩, p.keep, p.there, fun b ⟨k, bb, x, h1, h2⟩ => ?_, fun k b x h => ?_, fun k x h => ?_⟩
  · rw [List.length_set, List.length_set]; exact p.rel.len
  · by_cases z : k = i
    · subst z
      rw [List.getElem?_set_self lt] at e
      cases e
      exact ⟨a, hsI, ow⟩
    · rw [ne k z] at e
      rw [neσ k z]
      exact p.rel.slot k s e
  · by_cases z1 : k = i
    · by_cases z2 : l = i
      · rw [z1, z2]
      · subst z1
        have e := heldI h1
        subst e
        exact absurd ⟨l, heldSet h2 z2⟩ nh
    · by_cases z2 : l = i
      · subst z2
        have e := heldI h2
        subst e
        exact absurd ⟨k, heldSet h1 z1⟩ nh
      · exact p.rel.inj k l b (heldSet h1 z1) (heldSet h2 z2)
  · by_cases z : k = i
    · subst z
      rw [hsI] at hs
      cases hs
      exact hsn
    · rw [neσ k z] at hs
      obtain ⟨x, hx⟩ := m
      rw [ne k z] at hx
      exact p.rel.new k b ⟨x, hx⟩ hs
  · by_cases z : k = i
    · subst z
      rw [hsI] at h2
      cases h2
      exact .inr hn
    · rw [ne k z] at h1
      rw [neσ k z] at h2
      exact p.mutb b ⟨k, bb, x, h1, h2⟩
  · obtain ⟨h1, h2⟩ := p.fixL k b x h
    have z : k ≠ i := fun z => by subst z; exact okTgt.notL t h1
    exact ⟨by rw [ne k z]; exact h1, by rw [neσ k z]; exact h2⟩
  · obtain ⟨⟨x', h1⟩, h2⟩ := p.fixO k x h
    have z : k ≠ i := fun z => by subst z; exact okTgt.notO t h1
    exact ⟨⟨x', by rw [ne k z]; exact h1⟩, by rw [neσ k z]; exact h2⟩
theorem PostE.setOw (q : Rel G C env σ H) (p : PostE G C env σ H e1 H1) (t : okTgt e1 i = true) {a : Addr} (hn : H a = none) (ow : Own G H1 a d) : Post G C env σ H (e1.set i (.ow false d)) (σ.set i (some (.ref a))) H1 :=
  p.toPost.setOwG t hn (by
    cases z : C.Hs a with
    | none => rfl
    | some o => exact absurd hn (q.old a (by rw [z]; simp))) (p.noHeld q a hn) ow
end
/-- x = value -/
def store (i : Nat) (r : Val) (e : En) : R Fl := match r with
  | .nw x => if okTgt e i then .ok .nx (e.set i (.ow false x)) else .stuck
  | r => match frz1 r e with
    | some (d, e2) => if okTgt e2 i then .ok .nx (e2.set i (.sh d)) else .stuck
    | none => .stuck
def mSet (i : Nat) (m : ME) : MS := fun env => (m env).bind fun r e => store i r e
section
variable {X : Cx} {C : Cc} {W : WX} {e : Expr} {m : ME} {pos pos' : Pos} {i : Nat} {x : Str}
theorem store_ok' {env e1 : En} {σ : L2.St} {H H1 : Hp} {pins : List (Addr × Obj)} {s : Shared} {v : V} {r : Val} {D : Ends} (I : Inv X pins σ H1 s) (q : Rel (gd X) C env σ H) (p : PostE (gd X) C env σ H e1 H1) (vr : ValRel (gd X) H e1 σ H1 v r)
    (h : tSK C (gd X) W env σ H (store i r e1) D) : ∃ H2, Inv X pins σ H2 s ∧ D.nx (σ.set i (some v)) H2 := by
  have rest : ∀ {r'}, (match frz1 r' e1 with | some (d, e2) => if okTgt e2 i then R.ok Fl.nx (e2.set i (.sh d)) else .stuck | none => .stuck) = store i r e1 → r' = r → ∃ H2, Inv X pins σ H2 s ∧ D.nx (σ.set i (some v)) H2 := fun {r'} hh hr => by
    subst hr
    rw [← hh] at h
    cases f : frz1 r' e1 with
    | none => rw [f] at h; exact h.elim
    | some de =>
      obtain ⟨d, e2⟩ := de
      rw [f] at h
      obtain ⟨H2, I2, p2, rep, _, _⟩ := frz1_ok I q p (.inl vr) f
      have h : tSK C (gd X) W env σ H (if okTgt e2 i then R.ok Fl.nx (e2.set i (.sh d)) else .stuck) D := h
      by_cases t : okTgt e2 i = true
      · rw [if_pos t] at h
        exact ⟨H2, I2, h _ _ (p2.toPost.setSh t rep)⟩
      · rw [if_neg t] at h; exact h.elim
  cases r with
  | nw y =>
    have h : tSK C (gd X) W env σ H (if okTgt e1 i then R.ok Fl.nx (e1.set i (.ow false y)) else .stuck) D := h
    by_cases t : okTgt e1 i = true
    · rw [if_pos t] at h
      obtain ⟨a, e', hn, ow⟩ := vr
      subst e'
      exact ⟨H1, I, h _ _ (p.setOw q t hn ow)⟩
    · rw [if_neg t] at h; exact h.elim
  | d y => exact rest (r' := .d y) rfl rfl
  | own j => exact rest (r' := .own j) rfl rfl
  | xc c => exact rest (r' := .xc c) rfl rfl
theorem s_set (i : Nat) (hN : X.N.Nodup) (hi : X.N[i]? = some x) (hx : Loc X.env.scope x) (he : PE X e (tE C (gd X) W m)) (hs : swapsWith e (some (.Name x pos')) pos.line X.env = pure false := by rfl)
    (hf : X.fn x = true ∨ X.env.scope.names.lookup x = some .local := by first | exact .inl rfl | exact .inr rfl | assumption) : PS X (.Assign [.Name x pos'] e pos) (tS C (gd X) W (mSet i m)) :=
  (ps_set hN hi hx (pe_gh he) hs hf).imp fun D σ H ⟨env, q, h⟩ => ⟨env, q, by
    unfold mSet at h
    cases k : m env with
    | stuck => rw [k] at h; exact h
    | exc c e => rw [k] at h; exact fun H' p => h σ H' p.toPost
    | ok r e1 =>
      rw [k] at h
      exact fun v H' p vr pins s I => store_ok' I q p vr h⟩
end
end PV

set_option Elab.async false
set_option linter.all false
set_option maxRecDepth 100000
set_option maxHeartbeats 4000000
namespace PV
open PySem PySem.Spec PyProof.Rows L2

abbrev TgD := D → En → Option En
def tG (C : Cc) (G : Gd) (g : TgD) : TG := fun v σ H Q => ∃ env d e', Rel G C env σ H ∧ Rep G H v d ∧ g d env = some e' ∧ ∀ σ' H', Post G C env σ H e' σ' H' → Q σ' H'
def tGs (C : Cc) (G : Gd) (g : List D → En → Option En) : TGs := fun vs σ H Q => ∃ env ds e', Rel G C env σ H ∧ Reps G H vs ds ∧ g ds env = some e' ∧ ∀ σ' H', Post G C env σ H e' σ' H' → Q σ' H'
/-- the tuple (or list) itself may still change elsewhere -/
def tGd (C : Cc) (G : Gd) (g : TgD) : TG := fun v σ H Q => ∃ env d e', Rel G C env σ H ∧ Dr G H v d ∧ g d env = some e' ∧ ∀ σ' H', Post G C env σ H e' σ' H' → Q σ' H'
def gNm (i : Nat) : TgD := fun d e => if okTgt e i then some (e.set i (.sh d)) else none
def gNl : List D → En → Option En
  | [], e => some e
  | _ :: _, _ => none
def gCn (g : TgD) (gs : List D → En → Option En) : List D → En → Option En
  | [], _ => none
  | d :: ds, e => match g d e with
    | some e1 => gs ds e1
    | none => none
/-- a tuple of n -/
def gTp (n : Nat) (gs : List D → En → Option En) : TgD := fun d e => match d with
  | .tuple ds => if ds.length = n then gs ds e else none
  | .list ds => if ds.length = n then gs ds e else none
  | _ => none
section
variable {X : Cx} {C : Cc} {pos : Pos} {i : Nat} {x : Str} {es : List Expr} {e : Expr} {g : TgD} {gs : List D → En → Option En}
theorem _root_.L2.PG.imp {e : Expr} {t t' : TG} (h : PG X e t) (i : ∀ v σ H Q, t' v σ H Q → t v σ H Q) : PG X e t' := ⟨fun pins s σ H v u Q I r hq => h.run pins s σ H v u Q I r (i v σ H Q hq)⟩
theorem _root_.L2.PGs.imp {e : List Expr} {t t' : TGs} (h : PGs X e t) (i : ∀ v σ H Q, t' v σ H Q → t v σ H Q) : PGs X e t' := ⟨fun pins s σ H v u Q I r hq => h.run pins s σ H v u Q I r (i v σ H Q hq)⟩
theorem g_name (i : Nat) (hN : X.N.Nodup) (hi : X.N[i]? = some x) (hx : Loc X.env.scope x) (hf : X.fn x = true ∨ X.env.scope.names.lookup x = some .local := by first | exact .inl rfl | exact .inr rfl | assumption) : PG X (.Name x pos) (tG C (gd X) (gNm i)) :=
  (pg_name hN hi hx hf).imp fun v σ H Q ⟨env, d, e', q, r, h, hq⟩ => by
    unfold gNm at h
    split at h
    · cases h
      exact hq _ _ ((Post.refl q).setSh (by assumption) r)
    · cases h
theorem gs_nil : PGs X [] (tGs C (gd X) gNl) := pgs_nil.imp fun v σ H Q ⟨env, d, e', q, r, h, hq⟩ => by
  cases r with
  | nil => cases h; exact ⟨rfl, hq _ _ (.refl q)⟩
  | cons _ _ => cases h
theorem gs_cons (h1 : PG X e (tG C (gd X) g)) (h2 : PGs X es (tGs C (gd X) gs)) (hs : (assignEach (e :: es) X.env).map (·.2) = assign e X.env :: (assignEach es X.env).map (·.2) := by rfl) : PGs X (e :: es) (tGs C (gd X) (gCn g gs)) :=
  (pgs_cons h1 h2 hs).imp fun vs σ H Q ⟨env, ds, e', q, r, h, hq⟩ => by
    cases r with
    | nil => cases h
    | @cons v d vs ds rv rs =>
      refine ⟨v, vs, rfl, env, d, ?_⟩
      have h : (match g d env with | some e1 => gs ds e1 | none => none) = some e' := h
      cases z : g d env with
      | none => rw [z] at h; cases h
      | some e1 =>
        rw [z] at h
        exact ⟨e1, q, rv, rfl, fun σ1 H1 p => ⟨e1, ds, e', p.rel, rs.mono (p.kp q), h, fun σ2 H2 p2 => hq _ _ (p.trans p2)⟩⟩
theorem g_tupD {k n : Nat} (hc : X.calm = true) (h : PGs X es (tGs C (gd X) gs)) (hn : (assignEach es X.env).length = n := by rfl) (hst : (assignEach es X.env).findIdx? (·.1) = none := by rfl) : PG X (.Tuple es k pos) (tGd C (gd X) (gTp n gs)) := by
  have h1 := pg_tup (t := tGs C (gd X) gs) (pos := pos) (k := k) hc h hn hst
  have h2 := pg_lst (t := tGs C (gd X) gs) (pos := pos) (k := k) hc h hn hst
  refine ⟨fun pins s σ H v u Q I r ⟨env, d, e', q, rd, hg, hq⟩ => ?_⟩
  unfold gTp at hg
  cases d with
  | tuple ds =>
    obtain ⟨a, vs, rfl, hs, rs⟩ := rd.tup
    have hg : (if ds.length = n then gs ds env else none) = some e' := hg
    by_cases z : ds.length = n
    · rw [if_pos z] at hg
      exact h1.run pins s σ H _ u Q I r ⟨a, vs, rfl, hs, by rw [rs.length]; exact z, env, ds, e', q, rs, hg, hq⟩
    · rw [if_neg z] at hg; cases hg
  | list ds =>
    obtain ⟨a, vs, rfl, hs, rs⟩ := rd.lst
    have hg : (if ds.length = n then gs ds env else none) = some e' := hg
    by_cases z : ds.length = n
    · rw [if_pos z] at hg
      exact h2.run pins s σ H _ u Q I r ⟨a, vs, rfl, hs, by rw [rs.length]; exact z, env, ds, e', q, rs, hg, hq⟩
    · rw [if_neg z] at hg; cases hg
  | _ => cases hg
theorem g_tup {k n : Nat} (hc : X.calm = true) (h : PGs X es (tGs C (gd X) gs)) (hn : (assignEach es X.env).length = n := by rfl) (hst : (assignEach es X.env).findIdx? (·.1) = none := by rfl) : PG X (.Tuple es k pos) (tG C (gd X) (gTp n gs)) :=
  (g_tupD (C := C) (gs := gs) (n := n) hc h hn hst).imp fun v σ H Q ⟨env, d, e', q, rd, hg, hq⟩ => ⟨env, d, e', q, .inl rd, hg, hq⟩
end
/-- target = value, the target a tuple -/
def mAsgT (g : TgD) (m : ME) : MS := fun env => (m env).bind fun r e => match deref e r with
  | some d => match g d e with
    | some e2 => .ok .nx e2
    | none => .stuck
  | none => .stuck
section
variable {X : Cx} {C : Cc} {W : WX} {tg e : Expr} {m : ME} {pos : Pos} {g : TgD}
theorem s_asgT (he : PE X e (tE C (gd X) W m)) (hg : PG X tg (tGd C (gd X) g)) (hs : swapsWithSole [tg] e pos.line X.env = pure false := by rfl) (hw : swappedStores [tg] e X.env = pure none := by rfl)
    (h1 : (assignEach [tg] X.env).map (·.2) = [assign tg X.env] := by rfl) : PS X (.Assign [tg] e pos) (tS C (gd X) W (mAsgT g m)) :=
  (ps_asg he hg hs hw h1).imp fun D σ H ⟨env, q, h⟩ => ⟨env, q, by
    unfold mAsgT at h
    cases k : m env with
    | stuck => rw [k] at h; exact h
    | exc c e => rw [k] at h; exact fun H' p => h σ H' p.toPost
    | ok r e1 =>
      rw [k] at h
      intro v H' p vr
      have h : tSK C (gd X) W env σ H (match deref e1 r with | some d => (match g d e1 with | some e2 => .ok .nx e2 | none => .stuck) | none => .stuck) D := h
      cases z : deref e1 r with
      | none => rw [z] at h; exact h.elim
      | some d =>
        rw [z] at h
        cases z2 : g d e1 with
        | none =>
          have h : tSK C (gd X) W env σ H (match g d e1 with | some e2 => .ok .nx e2 | none => .stuck) D := h
          rw [z2] at h; exact h.elim
        | some e2 =>
          have h : tSK C (gd X) W env σ H (match g d e1 with | some e2 => .ok .nx e2 | none => .stuck) D := h
          rw [z2] at h
          exact ⟨e1, d, e2, p.rel, deref_ok p.rel vr z, z2, fun σ' H2 p2 => h σ' H2 (p.toPost.trans p2)⟩⟩
end

/-- the heap may have changed, but what no slot may change has not -/
def Reach (env : En) (σ : L2.St) (H H2 : Hp) : Prop := ∀ a o, H a = some o → (∀ ps, o ≠ .tbl ps) → ¬ MutAt env σ a → H2 a = some o
/-- J gives the items ds in their order -/
def ItOk (G : Gd) (J : It) (env : En) (σ : L2.St) (H : Hp) (ds : List D) : Prop := ∀ H2, Reach env σ H H2 →
  (∀ (i : Nat) d, ds[i]? = some d → J.go i H2 ∧ ∀ v H3, J.yld i H2 v H3 → Same H2 H3 ∧ Rep G H3 v d) ∧ J.stop ds.length H2
/-- the items; the slot whose object is walked -/
abbrev MI := En → R (List D × Option Nat)
def lockE (o : Option Nat) (e : En) : En := match o with
  | some i => match e[i]? with
    | some (.ow b d) => e.set i (.lk b d)
    | _ => e
  | none => e
def tI (C : Cc) (G : Gd) (W : WX) (m : MI) : TI := fun σ H Q => ∃ env, Rel G C env σ H ∧ match m env with
  | .stuck => False
  | .ok r e1 => ∀ J H1, PostE G C env σ H e1 H1 → ItOk G J (lockE r.2 e1) σ H1 r.1 → Q J H1
  | .exc c e1 => ∀ H1, PostE G C env σ H e1 H1 → W (.ref (C.cl c)) none σ H1
def unl {α : Type} (i : Nat) (b : Bool) (d : D) (k : R α) : R α := match k with
  | .stuck => .stuck
  | .ok a e => .ok a (e.set i (.ow b d))
  | .exc c e => .exc c (e.set i (.ow b d))
/-- run with the slot's object locked -/
def locked {α : Type} (o : Option Nat) (f : En → R α) (e : En) : R α := match o with
  | none => f e
  | some i => match e[i]? with
    | some (.ow b d) => unl i b d (f (e.set i (.lk b d)))
    | _ => f e
def mLoop (g : TgD) (body : MS) : List D → MS
  | [] => fun e => .ok .nx e
  | d :: ds => fun e => match g d e with
    | none => .stuck
    | some e1 => (body e1).bind fun fl e2 => match fl with
      | .nx => mLoop g body ds e2
      | .ct => mLoop g body ds e2
      | .bk => .ok .nx e2
      | .rt v => .ok (.rt v) e2
def mFor (mi : MI) (g : TgD) (body : MS) : MS := fun env => (mi env).bind fun r e1 => locked r.2 (mLoop g body r.1) e1
/-- n: turns at most -/
def mWhileN (t : MT) (body : MS) : Nat → MS
  | 0 => fun _ => .stuck
  | n + 1 => fun e => (t e).bind fun c e1 => if c then (body e1).bind fun fl e2 => match fl with
      | .nx => mWhileN t body n e2
      | .ct => mWhileN t body n e2
      | .bk => .ok .nx e2
      | .rt v => .ok (.rt v) e2
    else .ok .nx e1
def mWhile (n : En → Nat) (t : MT) (body : MS) : MS := fun e => mWhileN t body (n e) e

section
variable {G : Gd} {C : Cc} {W : WX} {env e1 e2 : En} {σ σ2 : L2.St} {H H1 H2 : Hp} {i : Nat} {b : Bool} {d : D}
theorem heldLk {e1 : En} (h : e1[i]? = some (.ow b d)) {k : Nat} {a : Addr} : Held (e1.set i (.lk b d)) σ k a → Held e1 σ k a := fun ⟨⟨s, x, h1, h2⟩, h3⟩ => by
  by_cases z : k = i
  · subst z
    exact ⟨⟨_, d, h, rfl⟩, h3⟩
  · rw [List.getElem?_set_ne (Ne.symm z)] at h1
    exact ⟨⟨s, x, h1, h2⟩, h3⟩
theorem heldOw {e1 : En} (h : e1[i]? = some (.lk b d)) {k : Nat} {a : Addr} : Held (e1.set i (.ow b d)) σ k a → Held e1 σ k a := fun ⟨⟨s, x, h1, h2⟩, h3⟩ => by
  by_cases z : k = i
  · subst z
    exact ⟨⟨_, d, h, rfl⟩, h3⟩
  · rw [List.getElem?_set_ne (Ne.symm z)] at h1
    exact ⟨⟨s, x, h1, h2⟩, h3⟩
theorem Rel.lock (q : Rel G C e1 σ H) (h : e1[i]? = some (.ow b d)) : Rel G C (e1.set i (.lk b d)) σ H := by
  have lt : i < e1.length := (List.getElem?_eq_some_iff.mp h).1
  refine ⟨by rw [List.length_set]; exact q.len, fun k s e => ?_, fun k l a h1 h2 => q.inj k l a (heldLk h h1) (heldLk h h2), q.tab, fun k a ⟨x, hx⟩ hs => ?_, q.old⟩
  · by_cases z : k = i
    · subst z
      rw [List.getElem?_set_self lt] at e
      cases e
      have sr := q.slot k _ h
      exact sr
    · rw [List.getElem?_set_ne (Ne.symm z)] at e
      exact q.slot k s e
  · by_cases z : k = i
    · subst z
      rw [List.getElem?_set_self lt] at hx
      rcases hx with hx | hx
      · cases hx
      · cases hx
        exact q.new k a ⟨d, .inl h⟩ hs
    · rw [List.getElem?_set_ne (Ne.symm z)] at hx
      exact q.new k a ⟨x, hx⟩ hs
theorem Rel.unlock (q : Rel G C e1 σ H) (h : e1[i]? = some (.lk b d)) : Rel G C (e1.set i (.ow b d)) σ H := by
  have lt : i < e1.length := (List.getElem?_eq_some_iff.mp h).1
  refine ⟨by rw [List.length_set]; exact q.len, fun k s e => ?_, fun k l a h1 h2 => q.inj k l a (heldOw h h1) (heldOw h h2), q.tab, fun k a ⟨x, hx⟩ hs => ?_, q.old⟩
  · by_cases z : k = i
    · subst z
      rw [List.getElem?_set_self lt] at e
      cases e
      have sr := q.slot k _ h
      exact sr
    · rw [List.getElem?_set_ne (Ne.symm z)] at e
      exact q.slot k s e
  · by_cases z : k = i
    · subst z
      rw [List.getElem?_set_self lt] at hx
      rcases hx with hx | hx
      · cases hx
        exact q.new k a ⟨d, .inr h⟩ hs
      · cases hx
    · rw [List.getElem?_set_ne (Ne.symm z)] at hx
      exact q.new k a ⟨x, hx⟩ hs
/-- a stretch with slot i locked -/
theorem Post.lockLoop (p : Post G C env σ H e1 σ H1) (h : e1[i]? = some (.ow b d)) (p2 : Post G C (e1.set i (.lk b d)) σ H1 e2 σ2 H2) : Post G C env σ H (e2.set i (.ow b d)) σ2 H2 := by
  have lt : i < e1.length := (List.getElem?_eq_some_iff.mp h).1
  have hl : (e1.set i (.lk b d))[i]? = some (.lk b d) := List.getElem?_set_self lt
  obtain ⟨h2, hσ⟩ := p2.fixL i b d hl
  have lt2 : i < e2.length := (List.getElem?_eq_some_iff.mp h2).1
  have nm : ∀ a, MutAt (e1.set i (.lk b d)) σ a → MutAt e1 σ a := fun a ⟨k, bb, x, q1, q2⟩ => by
    have z : k ≠ i := fun z => by subst z; rw [hl] at q1; cases q1
    rw [List.getElem?_set_ne (Ne.symm z)] at q1
    exact ⟨k, bb, x, q1, q2⟩
  refine ⟨p2.rel.unlock h2, fun a o ha ht hm => ?_, fun a ha => p2.there a (p.there a ha), fun a ⟨k, bb, x, q1, q2⟩ => ?_, fun k bb x hk => ?_, fun k x hk => ?_⟩
  · refine p2.keep a o (p.keep a o ha ht hm) ht fun m => ?_
    rcases p.mutb a (nm a m) with z | z
    · exact hm z
    · rw [ha] at z; cases z
  · have back : MutAt e1 σ a → MutAt env σ a ∨ H a = none := p.mutb a
    by_cases z : k = i
    · subst z
      rw [hσ] at q2
      exact back ⟨k, b, d, h, q2⟩
    · rw [List.getElem?_set_ne (Ne.symm z)] at q1
      rcases p2.mutb a ⟨k, bb, x, q1, q2⟩ with m | m
      · exact back (nm a m)
      · refine .inr ?_
        cases e : H a with
        | none => rfl
        | some o => exact absurd m (p.there a (by rw [e]; simp))
  · obtain ⟨a1, a2⟩ := p.fixL k bb x hk
    have z : k ≠ i := fun z => by subst z; rw [h] at a1; cases a1
    obtain ⟨b1, b2⟩ := p2.fixL k bb x (by rw [List.getElem?_set_ne (Ne.symm z)]; exact a1)
    exact ⟨by rw [List.getElem?_set_ne (Ne.symm z)]; exact b1, b2.trans a2⟩
  · obtain ⟨⟨x', a1⟩, a2⟩ := p.fixO k x hk
    by_cases z : k = i
    · subst z
      rw [h] at a1
      cases a1
      exact ⟨⟨d, List.getElem?_set_self lt2⟩, hσ.trans a2⟩
    · obtain ⟨⟨x2, b1⟩, b2⟩ := p2.fixO k x' (by rw [List.getElem?_set_ne (Ne.symm z)]; exact a1)
      exact ⟨⟨x2, by rw [List.getElem?_set_ne (Ne.symm z)]; exact b1⟩, b2.trans a2⟩
theorem tSK_locked {k : R Fl} {D : Ends} (p : Post G C env σ H e1 σ H1) (h : e1[i]? = some (.ow b d)) (hk : tSK C G W env σ H (unl i b d k) D) : tSK C G W (e1.set i (.lk b d)) σ H1 k D := by
  cases k with
  | stuck => exact hk
  | exc c e => exact fun σ' H' q => hk σ' H' (p.lockLoop h q)
  | ok fl e =>
    cases fl with
    | nx => exact fun σ' H' q => hk σ' H' (p.lockLoop h q)
    | bk => exact fun σ' H' q => hk σ' H' (p.lockLoop h q)
    | ct => exact fun σ' H' q => hk σ' H' (p.lockLoop h q)
    | rt r => exact fun v σ' H' q => hk v σ' H' (p.lockLoop h q)
theorem tSK_lock {f : En → R Fl} {o : Option Nat} {D : Ends} (p : Post G C env σ H e1 σ H1) (hk : tSK C G W env σ H (locked o f e1) D) : tSK C G W (lockE o e1) σ H1 (f (lockE o e1)) D := by
  cases o with
  | none => exact tSK_shift p hk
  | some i =>
    unfold locked at hk
    unfold lockE
    dsimp only at hk ⊢
    cases z : e1[i]? with
    | none => rw [z] at hk; simp only [z]; exact tSK_shift p hk
    | some s =>
      cases s with
      | ow b d => rw [z] at hk; simp only [z]; exact tSK_locked p z hk
      | _ => rw [z] at hk; simp only [z]; exact tSK_shift p hk
theorem Rel.lockE (q : Rel G C e1 σ H) (o : Option Nat) : Rel G C (lockE o e1) σ H := by
  cases o with
  | none => exact q
  | some i =>
    unfold PV.lockE
    dsimp only
    cases z : e1[i]? with
    | none => simp only [z]; exact q
    | some s =>
      cases s with
      | ow b d => simp only [z]; exact q.lock z
      | _ => simp only [z]; exact q
end
section
variable {X : Cx} {C : Cc} {W : WX} {tg iter c : Expr} {body : List Stmt} {mi : MI} {g : TgD} {mb : MS} {mt : MT} {pos : Pos}
theorem s_for (hp : PassesOwn (model X.prog X.w) X.A X.env X.xe) (hc : X.calm = true) (hi : PI X tg iter (tI C (gd X) W mi)) (hg : PG X tg (tG C (gd X) g)) (hb : PSs X body (tS C (gd X) W mb))
    (hs : ∀ x, foldedSetIterable iter X.env x = pure x := by intro _; rfl) : PS X (.For tg iter body [] pos) (tS C (gd X) W (mFor mi g mb)) := by
  have hf := ps_for (pos := pos) hp hc hi hg hb hs
  refine hf.imp fun D σ H ⟨env, q, h⟩ => ⟨env, q, ?_⟩
  unfold mFor at h
  cases k : mi env with
  | stuck => rw [k] at h; exact h
  | exc c e => rw [k] at h; exact fun H1 p => h σ H1 p.toPost
  | ok r e1 =>
    rw [k] at h
    obtain ⟨ds, o⟩ := r
    intro J H1 p it
    have h0 := tSK_lock p.toPost h
    have q0 := p.rel.lockE o
    refine ⟨fun i m σ2 H2 => m = ds.length - i ∧ i ≤ ds.length ∧ ∃ e2, Post (gd X) C (lockE o e1) σ H1 e2 σ2 H2 ∧ tSK C (gd X) W (lockE o e1) σ H1 (mLoop g mb (ds.drop i) e2) D, ⟨ds.length, by simp, Nat.zero_le _, lockE o e1, .refl q0, by simpa using h0⟩, ?_⟩
    rintro i m σ2 H2 ⟨rfl, hi, e2, p2, h2⟩
    obtain ⟨itm, stp⟩ := it H2 (fun a o ha ht hm => p2.keep a o ha ht hm)
    by_cases lt : i < ds.length
    · have hd : ds[i]? = some ds[i] := List.getElem?_eq_getElem lt
      obtain ⟨go, yl⟩ := itm i _ hd
      rw [List.drop_eq_getElem_cons lt] at h2
      have h2 : tSK C (gd X) W (lockE o e1) σ H1 (match g ds[i] e2 with
        | none => .stuck
        | some e1 => (mb e1).bind fun fl e2 => match fl with
          | .nx => mLoop g mb (ds.drop (i + 1)) e2
          | .ct => mLoop g mb (ds.drop (i + 1)) e2
          | .bk => .ok .nx e2
          | .rt v => .ok (.rt v) e2) D := h2
      cases zg : g ds[i] e2 with
      | none => rw [zg] at h2; exact h2.elim
      | some e3 =>
        rw [zg] at h2
        dsimp only at h2
        refine .inr ⟨go, fun σ' H' => ∃ e', Post (gd X) C (lockE o e1) σ H1 e' σ' H' ∧ tSK C (gd X) W (lockE o e1) σ H1 (mLoop g mb (ds.drop (i + 1)) e') D, fun σ' H' ⟨e', pp, hh⟩ => ⟨ds.length - (i + 1), by omega, rfl, lt, e', pp, hh⟩, fun v H3 hy => ?_⟩
        obtain ⟨sm, rv⟩ := yl v H3 hy
        have p3 := p2.trans (.same p2.rel sm)
        refine ⟨e2, ds[i], e3, p3.rel, rv, zg, fun σ4 H4 p4 => ⟨e3, p4.rel, ?_⟩⟩
        have p5 := p3.trans p4
        cases zb : mb e3 with
        | stuck => rw [zb] at h2; exact h2
        | exc c e => rw [zb] at h2; exact fun σ' H' qq => h2 σ' H' (p5.trans qq)
        | ok fl e4 =>
          rw [zb] at h2
          cases fl with
          | nx => exact fun σ' H' qq => ⟨e4, p5.trans qq, h2⟩
          | ct => exact fun σ' H' qq => ⟨e4, p5.trans qq, h2⟩
          | bk => exact fun σ' H' qq => h2 σ' H' (p5.trans qq)
          | rt v => exact fun w σ' H' qq rr => h2 w σ' H' (p5.trans qq) rr
    · have e : i = ds.length := by omega
      subst e
      rw [List.drop_length] at h2
      exact .inl ⟨stp, h2 σ2 H2 p2⟩
theorem s_while (n : En → Nat) (hp : PassesOwn (model X.prog X.w) X.A X.env X.xe) (hc : PT X c (tT C (gd X) W mt)) (hb : PSs X body (tS C (gd X) W mb)) : PS X (.While c body [] pos) (tS C (gd X) W (mWhile n mt mb)) := by
  refine (ps_while (pos := pos) hp hc hb).imp fun D σ H ⟨env, q, h⟩ => ?_
  refine ⟨fun m σ2 H2 => ∃ e2, Post (gd X) C env σ H e2 σ2 H2 ∧ tSK C (gd X) W env σ H (mWhileN mt mb m e2) D, ⟨n env, env, .refl q, h⟩, ?_⟩
  rintro m σ2 H2 ⟨e2, p2, h2⟩
  cases m with
  | zero => exact h2.elim
  | succ m =>
    have h2 : tSK C (gd X) W env σ H ((mt e2).bind fun c e1 => if c then (mb e1).bind fun fl e2 => match fl with
        | .nx => mWhileN mt mb m e2
        | .ct => mWhileN mt mb m e2
        | .bk => .ok .nx e2
        | .rt v => .ok (.rt v) e2
      else .ok .nx e1) D := h2
    refine ⟨e2, p2.rel, ?_⟩
    cases zt : mt e2 with
    | stuck => rw [zt] at h2; exact h2
    | exc c e => rw [zt] at h2; exact fun H' pp => h2 σ2 H' (p2.trans pp.toPost)
    | ok b e3 =>
      rw [zt] at h2
      intro b' H3 p3 eb
      subst eb
      have p4 := p2.trans p3.toPost
      cases b' with
      | false => exact iteF (h2 σ2 H3 p4)
      | true =>
        have h2 : tSK C (gd X) W env σ H ((mb e3).bind fun fl e2 => match fl with
          | .nx => mWhileN mt mb m e2
          | .ct => mWhileN mt mb m e2
          | .bk => .ok .nx e2
          | .rt v => .ok (.rt v) e2) D := h2
        refine iteT ⟨fun σ' H' => ∃ e', Post (gd X) C env σ H e' σ' H' ∧ tSK C (gd X) W env σ H (mWhileN mt mb m e') D, fun σ' H' ⟨e', pp, hh⟩ => ⟨m, Nat.lt_succ_self m, e', pp, hh⟩, e3, p4.rel, ?_⟩
        cases zb : mb e3 with
        | stuck => rw [zb] at h2; exact h2
        | exc c e => rw [zb] at h2; exact fun σ' H' qq => h2 σ' H' (p4.trans qq)
        | ok fl e4 =>
          rw [zb] at h2
          cases fl with
          | nx => exact fun σ' H' qq => ⟨e4, p4.trans qq, h2⟩
          | ct => exact fun σ' H' qq => ⟨e4, p4.trans qq, h2⟩
          | bk => exact fun σ' H' qq => h2 σ' H' (p4.trans qq)
          | rt v => exact fun w σ' H' qq rr => h2 w σ' H' (p4.trans qq) rr
end
end PV

set_option Elab.async false
set_option linter.all false
set_option maxRecDepth 100000
set_option maxHeartbeats 4000000
namespace PV
open PySem PySem.Spec PyProof.Rows L2

/-- an argument: data; an object of the caller's slot, that may (ow) or may not (lk) be changed -/
inductive Arg where
  | sh (d : D) | ow (d : D) | lk (d : D)
def Arg.slot : Arg → Slot
  | .sh d => .sh d
  | .ow d => .ow true d
  | .lk d => .lk true d
/-- what a call gives: a value, the arguments' objects as they are behind -/
inductive FR where
  | stuck | ok (r : Val) (outs : List (Option D)) | exc (c : Nat) (outs : List (Option D))
abbrev FM := List Arg → FR
def Slot.out : Slot → Option D
  | .ow true d => some d
  | _ => none
def outs (k : Nat) (e : En) : List (Option D) := (e.take k).map Slot.out
def env0 (n : Nat) (args : List Arg) : En := args.map Arg.slot ++ List.replicate (n - args.length) .un
def endFn (k : Nat) : R Fl → FR
  | .stuck => .stuck
  | .ok fl e => match fl with
    | .nx => .ok (.d .none) (outs k e)
    | .rt r => .ok r (outs k e)
    | _ => .stuck
  | .exc c e => .exc c (outs k e)
/-- a def with n names, k parameters -/
def mkFn (n k : Nat) (m : MS) : FM := fun args => if args.length = k then endFn k (m (env0 n args)) else .stuck

def ArgRel (G : Gd) (H : Hp) : V → Arg → Prop
  | v, .sh d => Rep G H v d
  | v, .ow d => ∃ a, v = .ref a ∧ Own G H a d
  | v, .lk d => ∃ a, v = .ref a ∧ Own G H a d
def Arg.isO : Arg → Bool
  | .sh _ => false
  | _ => true
structure ArgsRel (G : Gd) (H : Hp) (vs : List V) (args : List Arg) : Prop where
  len : vs.length = args.length
  rel : ∀ (i : Nat) v g, vs[i]? = some v → args[i]? = some g → ArgRel G H v g
  inj : ∀ (i j : Nat) v g g', vs[i]? = some v → vs[j]? = some v → args[i]? = some g → args[j]? = some g' → g.isO = true → g'.isO = true → i = j
/-- the arguments' objects that may change -/
def ArgMut (vs : List V) (args : List Arg) (a : Addr) : Prop := ∃ (i : Nat) (d : D), args[i]? = some (.ow d) ∧ vs[i]? = some (.ref a)
structure Fin (T : List Addr) (G : Gd) (H : Hp) (vs : List V) (args : List Arg) (os : List (Option D)) (H' : Hp) : Prop where
  keep : ∀ a o, H a = some o → (∀ ps, o ≠ .tbl ps) → ¬ ArgMut vs args a → H' a = some o
  there : ∀ a, H a ≠ none → H' a ≠ none
  out : ∀ (i : Nat) (d : D) a, args[i]? = some (.ow d) → vs[i]? = some (.ref a) → ∃ d', os[i]? = some (some d') ∧ Own G H' a d'
  tab : ∀ P ∈ T, TabG H' P
def RetR (G : Gd) (H H' : Hp) (v : V) : Val → Prop
  | .d x => Rep G H' v x
  | .nw x => ∃ a, v = .ref a ∧ H a = none ∧ Own G H' a x
  | _ => False
def spFn (cl : Nat → Addr) (T : List Addr) (G : Gd) (fm : FM) : Sp := fun vs H Q E => ∃ args, ArgsRel G H vs args ∧ (∀ P ∈ T, TabG H P) ∧ match fm args with
  | .stuck => False
  | .ok r os => ∀ v H', Fin T G H vs args os H' → RetR G H H' v r → Q v H'
  | .exc c os => ∀ H', Fin T G H vs args os H' → E (.ref (cl c)) none H'

section
variable {G : Gd} {cl : Nat → Addr} {T : List Addr} {vs : List V} {args : List Arg} {H : Hp} {N : List Str}
theorem env0_at {n : Nat} {args : List Arg} {i : Nat} {s : Slot} (h : (env0 n args)[i]? = some s) : (∃ g, args[i]? = some g ∧ s = g.slot) ∨ s = .un := by
  unfold env0 at h
  by_cases lt : i < args.length
  · rw [List.getElem?_append_left (by simpa using lt), List.getElem?_map] at h
    rw [List.getElem?_eq_getElem lt] at h ⊢
    cases h
    exact .inl ⟨_, rfl, rfl⟩
  · rw [List.getElem?_append_right (by simpa using Nat.le_of_not_lt lt), List.getElem?_replicate] at h
    split at h
    · cases h; exact .inr rfl
    · cases h
theorem env0_arg {n : Nat} {args : List Arg} {i : Nat} {g : Arg} (h : args[i]? = some g) : (env0 n args)[i]? = some g.slot := by
  unfold env0
  have lt := (List.getElem?_eq_some_iff.mp h).1
  rw [List.getElem?_append_left (by simpa using lt), List.getElem?_map, h] <;> rfl
theorem start_at {N : List Str} {vs : List V} {i : Nat} (lt : i < vs.length) : (L2.start N vs)[i]? = some (some vs[i]) := by
  unfold L2.start
  rw [List.getElem?_append_left (by simpa using lt), List.getElem?_map, List.getElem?_eq_getElem lt] <;> rfl
theorem held0 (r : ArgsRel G H vs args) {n i : Nat} {a : Addr} (h : Held (env0 n args) (L2.start N vs) i a) : ∃ g, args[i]? = some g ∧ g.isO = true ∧ vs[i]? = some (.ref a) := by
  obtain ⟨⟨s, d, h1, h2⟩, h3⟩ := h
  rcases env0_at h1 with ⟨g, e, rfl⟩ | rfl
  · have lt : i < vs.length := by rw [r.len]; exact (List.getElem?_eq_some_iff.mp e).1
    rw [start_at lt] at h3
    cases g with
    | sh d => cases h2
    | ow d => exact ⟨_, e, rfl, by rw [List.getElem?_eq_getElem lt]; exact (Option.some.inj h3)⟩
    | lk d => exact ⟨_, e, rfl, by rw [List.getElem?_eq_getElem lt]; exact (Option.some.inj h3)⟩
  · cases h2
theorem rel0 (r : ArgsRel G H vs args) (ht : ∀ P ∈ T, TabG H P) (hn : args.length ≤ N.length) : Rel G ⟨cl, T, H⟩ (env0 N.length args) (L2.start N vs) H where
  len := by
    unfold env0 L2.start
    rw [List.length_append, List.length_append, List.length_map, List.length_map, List.length_replicate, List.length_replicate, r.len]
  slot := fun i s h => by
    rcases env0_at h with ⟨g, e, rfl⟩ | rfl
    · have lt : i < vs.length := by rw [r.len]; exact (List.getElem?_eq_some_iff.mp e).1
      have q := r.rel i _ g (List.getElem?_eq_getElem lt) e
      rw [start_at lt]
      cases g with
      | sh d => exact ⟨_, rfl, q⟩
      | ow d => obtain ⟨a, e1, e2⟩ := q; exact ⟨a, by rw [e1], e2⟩
      | lk d => obtain ⟨a, e1, e2⟩ := q; exact ⟨a, by rw [e1], e2⟩
    · trivial
  inj := fun i j a h1 h2 => by
    obtain ⟨g, e1, o1, v1⟩ := held0 r h1
    obtain ⟨g', e2, o2, v2⟩ := held0 r h2
    exact r.inj i j _ g g' v1 v2 e1 e2 o1 o2
  tab := ht
  new := fun i a ⟨d, hm⟩ _ => by
    rcases hm with h | h <;> (rcases env0_at h with ⟨g, e, z⟩ | z; · cases g <;> cases z) <;> cases z
  old := fun a h => h
theorem fin0 {m : MS} {e' : En} {σ' : L2.St} {H' : Hp} (r : ArgsRel G H vs args) (p : Post G ⟨cl, T, H⟩ (env0 N.length args) (L2.start N vs) H e' σ' H') (hk : k = args.length) : PV.Fin T G H vs args (outs k e') H' where
  keep := fun a o h ht hm => p.keep a o h ht fun ⟨i, b, d, h1, h2⟩ => hm (by
    rcases env0_at h1 with ⟨g, e, z⟩ | z
    · have lt : i < vs.length := by rw [r.len]; exact (List.getElem?_eq_some_iff.mp e).1
      rw [start_at lt] at h2
      cases g with
      | ow x => exact ⟨i, x, e, by rw [List.getElem?_eq_getElem lt]; exact Option.some.inj h2⟩
      | sh x => cases z
      | lk x => cases z
    · cases z)
  there := p.there
  out := fun i d a h1 h2 => by
    obtain ⟨⟨d', q1⟩, q2⟩ := p.fixO i d (env0_arg h1)
    have lt : i < args.length := (List.getElem?_eq_some_iff.mp h1).1
    have ltv : i < vs.length := by rw [r.len]; exact lt
    refine ⟨d', ?_, ?_⟩
    · unfold outs
      rw [List.getElem?_map, List.getElem?_take_of_lt (by omega), q1] <;> rfl
    · have sr := p.rel.slot i _ q1
      rw [q2, start_at ltv] at sr
      obtain ⟨a', e1, e2⟩ := sr
      rw [List.getElem?_eq_getElem ltv] at h2
      have e3 : V.ref a = V.ref a' := (Option.some.inj h2).symm.trans (Option.some.inj (Option.some.inj e1))
      cases e3
      exact e2
  tab := p.rel.tab
end

section
variable {P : Program} {w : World} {K : PySem.W.Frag} {mg : Str → Option Value} {base : Heap}
/-- what a caller needs of the def x, with the denotation fm -/
def Callee (P : Program) (w : World) (K : PySem.W.Frag) (mg : Str → Option Value) (base : Heap) (cl : Nat → Addr) (T : List Addr) (x : Str) (k : Nat) (fm : FM) : Prop :=
  ∃ f fd ps, FnOk P w K mg base (L2.CX P w) k f fd ps (spFn cl T ⟨K, w⟩ fm) ∧ Binds K fd ps [] ∧ PySem.W.keepIn K (.ref f) = true ∧ mg x = some (.ref f)
/-- the context of a def's body -/
abbrev cxB (P : Program) (w : World) (K : PySem.W.Frag) (mg : Str → Option Value) (base : Heap) (N : List Str) (x : Str) (st : Stmt) (f : Addr) (cdv : Value) (A : Around) (outer : List Env) (s : Shared) (H : Hp) (E : XK) : Cx :=
  cxOf (L2.CX P w) P w K mg base N x (defScope st) f cdv A outer s H E
theorem callee_of {cl : Nat → Addr} {T : List Addr} {x : Str} {st : Stmt} {f : Addr} {fd : FuncData} {N ps : List Str} {k : Nat} {m : MS} (F : Fun K x x st f fd) (S : FnScope N ps (defScope st)) (hb : Binds K fd ps []) (hm : mg x = some (.ref f))
    (body : ∀ (cdv : Value) (A : Around) (outer : List Env) (s : Shared) (H : Hp) (E : XK), Room k (A.deeper (envOfC x (defScope st) s.heap.objs.size f cdv)) →
      PSs (cxB P w K mg base N x st f cdv A outer s H E) (defBody st) (tS ⟨cl, T, H⟩ (gd (cxB P w K mg base N x st f cdv A outer s H E)) (fun c d _ H => E c d H) m)) :
    Callee P w K mg base cl T x (k + 1) (mkFn N.length ps.length m) := by
  refine ⟨f, fd, ps, ?_, hb, F.kp, hm⟩
  refine F.okX S (fun vs H Q E h => ?_) (fun cdv A outer s H vs Q E hr h => ⟨_, body cdv A outer s H E hr, ?_⟩)
  · obtain ⟨args, r, _, h⟩ := h
    rw [r.len]
    unfold mkFn at h
    by_cases z : args.length = ps.length
    · exact z
    · rw [if_neg z] at h; exact h.elim
  · obtain ⟨args, r, ht, h⟩ := h
    unfold mkFn at h
    have hpl : ps.length ≤ N.length := by have := congrArg List.length S.pre; rw [List.length_take] at this; omega
    by_cases z : args.length = ps.length
    · rw [if_pos z] at h
      refine ⟨env0 N.length args, rel0 r ht (by omega), ?_⟩
      cases k : m (env0 N.length args) with
      | stuck => rw [k] at h; exact h
      | exc c e => rw [k] at h; exact fun σ' H' p => h H' (fin0 (m := m) r p z.symm)
      | ok fl e =>
        rw [k] at h
        cases fl with
        | nx => exact fun σ' H' p => h .non H' (fin0 (m := m) r p z.symm) .non
        | bk => exact h.elim
        | ct => exact h.elim
        | rt v => exact fun u σ' H' p rr => h u H' (fin0 (m := m) r p z.symm) (by cases v <;> exact rr)
    · rw [if_neg z] at h; exact h.elim
theorem Callee.mono {cl : Nat → Addr} {T : List Addr} {x : Str} {j k : Nat} {fm : FM} (h : Callee P w K mg base cl T x j fm) (hjk : j ≤ k) : Callee P w K mg base cl T x k fm := by
  obtain ⟨f, fd, ps, F, r⟩ := h
  exact ⟨f, fd, ps, F.mono hjk, r⟩
end

/-- values as arguments: new ones are frozen, slots' objects stay theirs -/
def mkArgs : List Val → En → Option (List (Arg × Option Nat))
  | [], _ => some []
  | v :: vs, e => match mkArgs vs e with
    | none => none
    | some r => match v with
      | .d x => some ((.sh x, none) :: r)
      | .nw x => some ((.sh x, none) :: r)
      | .own j => match e[j]? with
        | some (.sh x) => some ((.sh x, none) :: r)
        | some (.ow _ x) => some ((.ow x, some j) :: r)
        | some (.lk _ x) => some ((.lk x, some j) :: r)
        | _ => none
      | .xc _ => none
def ndOwn : List (Arg × Option Nat) → Bool
  | [] => true
  | (_, some j) :: r => !(r.any fun p => p.2 == some j) && ndOwn r
  | (_, none) :: r => ndOwn r
/-- the slots' objects as the callee left them -/
def wb : List (Arg × Option Nat) → List (Option D) → En → En
  | (.ow _, some j) :: r, some d :: os, e => wb r os (match e[j]? with | some (.ow b _) => e.set j (.ow b d) | _ => e)
  | _ :: r, _ :: os, e => wb r os e
  | _, _, e => e
def doCall (fm : FM) (vals : List Val) (e : En) : R Val := match mkArgs vals e with
  | none => .stuck
  | some ps => if ndOwn ps then match fm (ps.map (·.1)) with
      | .stuck => .stuck
      | .ok r os => .ok r (wb ps os e)
      | .exc c os => .exc c (wb ps os e)
    else .stuck
def mCall (fm : FM) (ms : En → R (List Val)) : ME := fun env => (ms env).bind fun vals e => doCall fm vals e

def ArgOf (e : En) : Val → Arg × Option Nat → Prop
  | .d x, p => p = (.sh x, none)
  | .nw x, p => p = (.sh x, none)
  | .own j, p => (∃ x, e[j]? = some (.sh x) ∧ p = (.sh x, none)) ∨ (∃ b x, e[j]? = some (.ow b x) ∧ p = (.ow x, some j)) ∨ ∃ b x, e[j]? = some (.lk b x) ∧ p = (.lk x, some j)
  | .xc _, _ => False
theorem mk_spec {e : En} : ∀ {vals : List Val} {ps : List (Arg × Option Nat)}, mkArgs vals e = some ps → ps.length = vals.length ∧ ∀ (i : Nat) v p, vals[i]? = some v → ps[i]? = some p → ArgOf e v p
  | [], ps, h => by cases h; exact ⟨rfl, fun i v p a => by simp at a⟩
  | v :: vs, ps, h => by
    unfold mkArgs at h
    cases z : mkArgs vs e with
    | none => simp [z] at h
    | some r =>
      obtain ⟨l, q⟩ := mk_spec z
      have key : ∀ {p}, ps = p :: r → ArgOf e v p → ps.length = (v :: vs).length ∧ ∀ (i : Nat) v' p', (v :: vs)[i]? = some v' → ps[i]? = some p' → ArgOf e v' p' := fun {p} hp ha => by
        subst hp
        refine ⟨by simp [l], fun i v' p' a b => ?_⟩
        cases i with
        | zero => simp at a b; subst a; subst b; exact ha
        | succ i => exact q i v' p' (by simpa using a) (by simpa using b)
      rw [z] at h
      cases v with
      | d x => cases h; exact key rfl rfl
      | nw x => cases h; exact key rfl rfl
      | xc c => cases h
      | own j =>
        dsimp only at h
        cases hj : e[j]? with
        | none => simp [hj] at h
        | some s =>
          cases s with
          | un => simp [hj] at h
          | xc c => simp [hj] at h
          | sh x => simp [hj] at h; exact key h.symm (.inl ⟨x, hj, rfl⟩)
          | ow b x => simp [hj] at h; exact key h.symm (.inr (.inl ⟨b, x, hj, rfl⟩))
          | lk b x => simp [hj] at h; exact key h.symm (.inr (.inr ⟨b, x, hj, rfl⟩))
theorem nd_spec : ∀ {ps : List (Arg × Option Nat)}, ndOwn ps = true → ∀ (i k : Nat) p q j, ps[i]? = some p → ps[k]? = some q → p.2 = some j → q.2 = some j → i = k
  | [], _, i, k, p, q, j, a, _, _, _ => by simp at a
  | (g, o) :: r, h, i, k, p, q, j, a, b, c, d => by
    have hr : ndOwn r = true := by
      cases o with
      | none => exact h
      | some o => unfold ndOwn at h; simp only [Bool.and_eq_true] at h; exact h.2
    have hno : ∀ (m : Nat) q', r[m]? = some q' → o = some j → q'.2 ≠ some j := fun m q' hm ho hq => by
      subst ho
      unfold ndOwn at h
      simp only [Bool.and_eq_true, Bool.not_eq_true', List.any_eq_false, beq_iff_eq] at h
      exact h.1 q' (List.mem_of_getElem? hm) hq
    cases i with
    | zero =>
      simp at a
      subst a
      cases k with
      | zero => rfl
      | succ k => exact absurd d (hno k q (by simpa using b) c)
    | succ i =>
      cases k with
      | zero =>
        simp at b
        subst b
        exact absurd c (hno i p (by simpa using a) d)
      | succ k => rw [nd_spec hr i k p q j (by simpa using a) (by simpa using b) c d]
theorem wb_spec : ∀ {ps : List (Arg × Option Nat)} {os : List (Option D)} {e : En} (k : Nat),
    ((wb ps os e)[k]? = e[k]? ∧ ∀ (i : Nat) d x b y, ps[i]? = some (.ow x, some k) → os[i]? = some (some d) → e[k]? ≠ some (.ow b y)) ∨
    ∃ (i : Nat) (d x : D) (b : Bool) (y : D), ps[i]? = some (.ow x, some k) ∧ os[i]? = some (some d) ∧ e[k]? = some (.ow b y) ∧ (wb ps os e)[k]? = some (.ow b d)
  | [], _, e, k => .inl ⟨by unfold wb; rfl, fun i d x b y h => by simp at h⟩
  | p :: r, [], e, k => .inl ⟨by unfold wb; (split <;> first | rfl | contradiction | simp_all), fun i d x b y _ h => by simp at h⟩
  | p :: r, o :: os, e, k => by
    have step : ∀ e', wb (p :: r) (o :: os) e = wb r os e' → (e'[k]? = e[k]?) → (∀ d x b y, p = (.ow x, some k) → o = some d → e[k]? ≠ some (.ow b y)) →
        ((wb (p :: r) (o :: os) e)[k]? = e[k]? ∧ ∀ (i : Nat) d x b y, (p :: r)[i]? = some (.ow x, some k) → (o :: os)[i]? = some (some d) → e[k]? ≠ some (.ow b y)) ∨
        ∃ (i : Nat) (d x : D) (b : Bool) (y : D), (p :: r)[i]? = some (.ow x, some k) ∧ (o :: os)[i]? = some (some d) ∧ e[k]? = some (.ow b y) ∧ (wb (p :: r) (o :: os) e)[k]? = some (.ow b d) := fun e' h1 h2 h3 => by
      rcases wb_spec (ps := r) (os := os) (e := e') k with ⟨a, b⟩ | ⟨i, d, x, b, y, a1, a2, a3, a4⟩
      · refine Or.inl ⟨by rw [h1, a, h2], fun i d x bb y hi ho => ?_⟩
        cases i with
        | zero => simp at hi ho; exact h3 d x bb y hi ho
        | succ i => rw [← h2]; exact b i d x bb y (by simpa using hi) (by simpa using ho)
      · exact Or.inr ⟨i + 1, d, x, b, y, by simpa using a1, by simpa using a2, by rw [← h2]; exact a3, by rw [h1]; exact a4⟩
    obtain ⟨g, oj⟩ := p
    by_cases hc : ∃ x j d, g = .ow x ∧ oj = some j ∧ o = some d
    · obtain ⟨x, j, d, rfl, rfl, rfl⟩ := hc
      by_cases hj : ∃ b y, e[j]? = some (.ow b y)
      · obtain ⟨b, y, hj⟩ := hj
        have hw : wb ((.ow x, some j) :: r) (some d :: os) e = wb r os (e.set j (.ow b d)) := by
          show wb r os (match e[j]? with | some (.ow b _) => e.set j (.ow b d) | _ => e) = _
          rw [hj]
        have lt : j < e.length := (List.getElem?_eq_some_iff.mp hj).1
        by_cases hk : k = j
        · subst hk
          rcases wb_spec (ps := r) (os := os) (e := e.set k (.ow b d)) k with ⟨a, _⟩ | ⟨i, d', x', b', y', a1, a2, a3, a4⟩
          · exact .inr ⟨0, d, x, b, y, rfl, rfl, hj, by rw [hw, a]; exact List.getElem?_set_self lt⟩
          · rw [List.getElem?_set_self lt] at a3
            cases a3
            exact .inr ⟨i + 1, d', x', b, y, by simpa using a1, by simpa using a2, hj, by rw [hw]; exact a4⟩
        · exact step _ hw (List.getElem?_set_ne (Ne.symm hk)) fun d' x' b' y' z => by cases z; exact absurd rfl hk
      · have hw : wb ((.ow x, some j) :: r) (some d :: os) e = wb r os e := by
          show wb r os (match e[j]? with | some (.ow b _) => e.set j (.ow b d) | _ => e) = _
          cases z : e[j]? with
          | none => rfl
          | some s =>
            cases s with
            | ow b y => exact absurd ⟨b, y, z⟩ hj
            | _ => rfl
        exact step _ hw rfl fun d' x' b' y' z => by
          cases z
          intro _ h
          exact hj ⟨b', y', h⟩
    · have hw : wb ((g, oj) :: r) (o :: os) e = wb r os e := by
        cases g with
        | sh _ => rfl
        | lk _ => rfl
        | ow x =>
          cases oj with
          | none => rfl
          | some j =>
            cases o with
            | none => rfl
            | some d => exact absurd ⟨x, j, d, rfl, rfl, rfl⟩ hc
      exact step _ hw rfl fun d' x' b' y' z1 z2 => by
        cases z1
        subst z2
        exact absurd ⟨x', k, d', rfl, rfl, rfl⟩ hc
theorem wb_len : ∀ {ps : List (Arg × Option Nat)} {os : List (Option D)} {e : En}, (wb ps os e).length = e.length
  | [], _, e => by unfold wb; rfl
  | p :: r, [], e => by unfold wb; (split <;> first | rfl | contradiction | simp_all)
  | (g, oj) :: r, o :: os, e => by
    cases g with
    | sh _ => exact wb_len (ps := r) (os := os) (e := e)
    | lk _ => exact wb_len (ps := r) (os := os) (e := e)
    | ow x =>
      cases oj with
      | none => exact wb_len (ps := r) (os := os) (e := e)
      | some j =>
        cases o with
        | none => exact wb_len (ps := r) (os := os) (e := e)
        | some d =>
          show (wb r os (match e[j]? with | some (.ow b _) => e.set j (.ow b d) | _ => e)).length = _
          rw [wb_len]
          split
          · rw [List.length_set]
          · rfl

/-- new values are frozen -/
def cv : Val → Val
  | .nw x => .d x
  | r => r
section
variable {X : Cx} {C : Cc} {env e1 : En} {σ : L2.St} {H : Hp} {pins : List (Addr × Obj)} {s : Shared}
theorem frzNw_ok (q : Rel (gd X) C env σ H) : ∀ {vs : List V} {rs : List Val} {H1 : Hp}, Inv X pins σ H1 s → PostE (gd X) C env σ H e1 H1 → vs.length = rs.length → (∀ (i : Nat) v r, vs[i]? = some v → rs[i]? = some r → ValRelF (gd X) H e1 σ H1 v r) →
    ∃ H2, Inv X pins σ H2 s ∧ PostE (gd X) C env σ H e1 H2 ∧ (∀ v r, ValRelF (gd X) H e1 σ H1 v r → ValRelF (gd X) H e1 σ H2 v r) ∧ ∀ (i : Nat) v r, vs[i]? = some v → rs[i]? = some r → ValRel (gd X) H e1 σ H2 v (cv r)
  | [], rs, H1, I, p, _, _ => ⟨H1, I, p, fun _ _ z => z, fun i v r a => by simp at a⟩
  | _ :: _, [], _, _, _, l, _ => by cases l
  | v :: vs, r :: rs, H1, I, p, l, h => by
    have one : ∃ H2, Inv X pins σ H2 s ∧ PostE (gd X) C env σ H e1 H2 ∧ (∀ v r, ValRelF (gd X) H e1 σ H1 v r → ValRelF (gd X) H e1 σ H2 v r) ∧ ((∃ x, r = .nw x ∧ Rep (gd X) H2 v x) ∨ (ValRelF (gd X) H e1 σ H2 v r ∧ ∀ x, r ≠ .nw x)) := by
      have h0 := h 0 v r rfl rfl
      cases r with
      | nw x =>
        obtain ⟨H2, I2, p2, r2, _, t2⟩ := frz1_ok (d := x) (e2 := e1) I q p h0 rfl
        exact ⟨H2, I2, p2, t2, .inl ⟨x, rfl, r2⟩⟩
      | d x => exact ⟨H1, I, p, fun _ _ z => z, .inr ⟨h0, fun _ z => nomatch z⟩⟩
      | own j => exact ⟨H1, I, p, fun _ _ z => z, .inr ⟨h0, fun _ z => nomatch z⟩⟩
      | xc c => exact ⟨H1, I, p, fun _ _ z => z, .inr ⟨h0, fun _ z => nomatch z⟩⟩
    obtain ⟨H2, I2, p2, t2, z2⟩ := one
    obtain ⟨H3, I3, p3, t3, z3⟩ := frzNw_ok q I2 p2 (by simpa using l) (fun i v' r' a b => t2 v' r' (h (i + 1) v' r' (by simpa using a) (by simpa using b)))
    refine ⟨H3, I3, p3, fun v r a => t3 v r (t2 v r a), fun i v' r' a b => ?_⟩
    cases i with
    | zero =>
      simp at a b
      subst a; subst b
      rcases z2 with ⟨x, rfl, rx⟩ | ⟨hv, hn⟩
      · rcases t3 v (.d x) (.inl rx) with k | ⟨_, k, _⟩
        · exact k
        · cases k
      · rcases t3 v r hv with k | ⟨x, k, _⟩
        · cases r with
          | nw x => exact absurd rfl (hn x)
          | _ => exact k
        · exact absurd k (hn x)
    | succ i => exact z3 i v' r' (by simpa using a) (by simpa using b)
end
section
variable {G : Gd} {C : Cc} {env e1 : En} {σ : L2.St} {H H1 : Hp} {vs : List V} {vals : List Val} {ps : List (Arg × Option Nat)}
theorem getR {vs : List V} {vals : List Val} (l : vs.length = vals.length) {i : Nat} {v : V} (h : vs[i]? = some v) : ∃ r, vals[i]? = some r := by
  have lt := (List.getElem?_eq_some_iff.mp h).1
  exact ⟨vals[i], List.getElem?_eq_getElem (by omega)⟩
theorem args_ok (q : Rel G C e1 σ H1) (l : vs.length = vals.length) (hv : ∀ (i : Nat) v r, vs[i]? = some v → vals[i]? = some r → ValRel G H e1 σ H1 v (cv r)) (hm : mkArgs vals e1 = some ps) (hn : ndOwn ps = true) : ArgsRel G H1 vs (ps.map (·.1)) := by
  obtain ⟨lp, mk⟩ := mk_spec hm
  have at_ : ∀ (i : Nat) v g, vs[i]? = some v → (ps.map (·.1))[i]? = some g → ∃ r p, vals[i]? = some r ∧ ps[i]? = some p ∧ p.1 = g ∧ ArgOf e1 r p ∧ ValRel G H e1 σ H1 v (cv r) := fun i v g a b => by
    obtain ⟨r, hr⟩ := getR l a
    rw [List.getElem?_map] at b
    cases hp : ps[i]? with
    | none => rw [hp] at b; cases b
    | some p =>
      rw [hp] at b
      exact ⟨r, p, hr, rfl, Option.some.inj b, mk i r p hr hp, hv i v r a hr⟩
  have own : ∀ {j : Nat} {v : V} {s : Slot} {x : D}, σ[j]? = some (some v) → e1[j]? = some s → s.ownd = some x → ∃ a, v = .ref a ∧ Own G H1 a x ∧ Held e1 σ j a := fun {j v s x} h1 h2 h3 => by
    obtain ⟨a, e, o⟩ := (q.slot j s h2).own h3
    rw [h1] at e
    cases e
    exact ⟨a, rfl, o, ⟨s, x, h2, h3⟩, h1⟩
  refine ⟨by rw [List.length_map, lp, l], fun i v g a b => ?_, fun i j v g g' a a' b b' o o' => ?_⟩
  · obtain ⟨r, p, _, _, rfl, ao, vr⟩ := at_ i v g a b
    cases r with
    | d x => rw [show p = (.sh x, none) from ao]; exact vr
    | nw x => rw [show p = (.sh x, none) from ao]; exact vr
    | xc c => exact ao.elim
    | own j =>
      obtain ⟨h1, _⟩ := (show σ[j]? = some (some v) ∧ j < e1.length from vr)
      rcases ao with ⟨x, hx, rfl⟩ | ⟨b, x, hx, rfl⟩ | ⟨b, x, hx, rfl⟩
      · obtain ⟨v', e, rp⟩ := q.slot j _ hx
        rw [h1] at e
        cases e
        exact rp
      · obtain ⟨a, e, o, _⟩ := own h1 hx rfl; exact ⟨a, e, o⟩
      · obtain ⟨a, e, o, _⟩ := own h1 hx rfl; exact ⟨a, e, o⟩
  · obtain ⟨r, p, _, hp, rfl, ao, vr⟩ := at_ i v g a b
    obtain ⟨r', p', _, hp', rfl, ao', vr'⟩ := at_ j v g' a' b'
    have sl : ∀ {r p}, ArgOf e1 r p → p.1.isO = true → ValRel G H e1 σ H1 v (cv r) → ∃ k a, p.2 = some k ∧ v = .ref a ∧ Held e1 σ k a := fun {r p} ao o vr => by
      cases r with
      | d x => rw [show p = (.sh x, none) from ao] at o; cases o
      | nw x => rw [show p = (.sh x, none) from ao] at o; cases o
      | xc c => exact ao.elim
      | own k =>
        obtain ⟨h1, _⟩ := (show σ[k]? = some (some v) ∧ k < e1.length from vr)
        rcases ao with ⟨x, hx, rfl⟩ | ⟨b, x, hx, rfl⟩ | ⟨b, x, hx, rfl⟩
        · cases o
        · obtain ⟨a, e, _, hh⟩ := own h1 hx rfl; exact ⟨k, a, rfl, e, hh⟩
        · obtain ⟨a, e, _, hh⟩ := own h1 hx rfl; exact ⟨k, a, rfl, e, hh⟩
    obtain ⟨k, a1, e1', ev, hh⟩ := sl ao o vr
    obtain ⟨k', a2, e2', ev', hh'⟩ := sl ao' o' vr'
    rw [ev] at ev'
    cases ev'
    have : k = k' := q.inj k k' a1 hh hh'
    subst this
    exact nd_spec hn i j p p' k hp hp' e1' e2'
/-- behind the call -/
theorem fin_post (p : PostE G C env σ H e1 H1) (l : vs.length = vals.length) (hv : ∀ (i : Nat) v r, vs[i]? = some v → vals[i]? = some r → ValRel G H e1 σ H1 v (cv r)) (hm : mkArgs vals e1 = some ps) {os : List (Option D)} {H' : Hp}
    (f : PV.Fin C.T G H1 vs (ps.map (·.1)) os H') : PostE G C env σ H (wb ps os e1) H' := by
  obtain ⟨lp, mk⟩ := mk_spec hm
  -- an argument that may be changed is a slot's
  have mutS : ∀ a, ArgMut vs (ps.map (·.1)) a → ∃ (i k : Nat) (b : Bool) (x : D), ps[i]? = some (.ow x, some k) ∧ vs[i]? = some (.ref a) ∧ e1[k]? = some (.ow b x) ∧ σ[k]? = some (some (.ref a)) := fun a ⟨i, d, h1, h2⟩ => by
    rw [List.getElem?_map] at h1
    cases hp : ps[i]? with
    | none => rw [hp] at h1; cases h1
    | some p =>
      rw [hp] at h1
      obtain ⟨r, hr⟩ := getR l h2
      have ao := mk i r p hr hp
      have vr := hv i _ r h2 hr
      have hd : p.1 = .ow d := Option.some.inj h1
      cases r with
      | d x => rw [show p = (.sh x, none) from ao] at hd; cases hd
      | nw x => rw [show p = (.sh x, none) from ao] at hd; cases hd
      | xc c => exact ao.elim
      | own j =>
        obtain ⟨h3, _⟩ := (show σ[j]? = some (some (V.ref a)) ∧ j < e1.length from vr)
        rcases ao with ⟨x, hx, rfl⟩ | ⟨b, x, hx, rfl⟩ | ⟨b, x, hx, rfl⟩
        · cases hd
        · exact ⟨i, j, b, x, hp, h2, hx, h3⟩
        · cases hd
  have mutM : ∀ a, ArgMut vs (ps.map (·.1)) a → MutAt e1 σ a := fun a m => by
    obtain ⟨i, k, b, x, _, _, h1, h2⟩ := mutS a m
    exact ⟨k, b, x, h1, h2⟩
  have kp : Kp H1 H' := ⟨fun a xs h => f.keep a _ h (fun _ z => nomatch z) fun m => p.rel.notMut h (.inl ⟨_, rfl⟩) (mutM a m), fun a o u h => f.keep a _ h (fun _ z => nomatch z) fun m => p.rel.notMut h (.inr ⟨_, _, rfl⟩) (mutM a m)⟩
  -- the slots behind
  have slotU : ∀ (k : Nat) s, (wb ps os e1)[k]? = some s → (e1[k]? = some s ∧ (∀ a, σ[k]? = some (some (.ref a)) → (∃ x, s.ownd = some x) → ¬ ArgMut vs (ps.map (·.1)) a)) ∨ ∃ b y d a, e1[k]? = some (.ow b y) ∧ s = .ow b d ∧ σ[k]? = some (some (.ref a)) ∧ Own G H' a d := fun k s h => by
    rcases wb_spec (ps := ps) (os := os) (e := e1) k with ⟨h1, h2⟩ | ⟨i, d, x, b, y, a1, a2, a3, a4⟩
    · rw [h1] at h
      refine .inl ⟨h, fun a ha ⟨x0, hx0⟩ m => ?_⟩
      obtain ⟨i, j, b, x, q1, q2, q3, q4⟩ := mutS a m
      have ej : j = k := p.rel.inj j k a ⟨⟨_, x, q3, rfl⟩, q4⟩ ⟨⟨s, x0, h, hx0⟩, ha⟩
      subst ej
      obtain ⟨d', o1, _⟩ := f.out i x a (by rw [List.getElem?_map, q1] <;> rfl) q2
      exact h2 i d' x b x q1 o1 q3
    · rw [a4] at h
      cases h
      have lti : i < ps.length := (List.getElem?_eq_some_iff.mp a1).1
      have ltv : i < vs.length := by omega
      have hvi : vs[i]? = some vs[i] := List.getElem?_eq_getElem ltv
      obtain ⟨r, hr⟩ := getR l hvi
      have ao := mk i r _ hr a1
      have vr := hv i _ r hvi hr
      cases r with
      | d z => have ao : (Arg.ow x, some k) = (Arg.sh z, none) := ao; cases ao
      | nw z => have ao : (Arg.ow x, some k) = (Arg.sh z, none) := ao; cases ao
      | xc c => exact ao.elim
      | own j =>
        obtain ⟨h3, _⟩ := (show σ[j]? = some (some vs[i]) ∧ j < e1.length from vr)
        rcases ao with ⟨z, hx, hz⟩ | ⟨b', z, hx, hz⟩ | ⟨b', z, hx, hz⟩
        · cases hz
        · cases hz
          obtain ⟨a, e, _⟩ := (p.rel.slot k _ hx).own rfl
          rw [h3] at e
          have e' : vs[i] = V.ref a := Option.some.inj (Option.some.inj e)
          rw [e'] at hvi h3
          obtain ⟨d', o1, o2⟩ := f.out i x a (by rw [List.getElem?_map, a1] <;> rfl) hvi
          rw [a2] at o1
          cases o1
          exact .inr ⟨b, y, d, a, a3, rfl, h3, o2⟩
        · cases hz
  have heldU : ∀ k a, Held (wb ps os e1) σ k a → Held e1 σ k a := fun k a ⟨⟨s, x, h1, h2⟩, h3⟩ => by
    rcases slotU k s h1 with ⟨h, _⟩ | ⟨b, y, d, a', h, _, _, _⟩
    · exact ⟨⟨s, x, h, h2⟩, h3⟩
    · exact ⟨⟨_, y, h, rfl⟩, h3⟩
  have rel : Rel G C (wb ps os e1) σ H' := {
    len := by rw [wb_len]; exact p.rel.len
    slot := fun k s h => by
      rcases slotU k s h with ⟨h1, h2⟩ | ⟨b, y, d, a, h1, rfl, h3, h4⟩
      · have sr := p.rel.slot k s h1
        have ow : ∀ {a x}, s.ownd = some x → σ[k]? = some (some (.ref a)) → Own G H1 a x → Own G H' a x := fun {a x} hs ha o => o.mono kp (by
          obtain ⟨o', e, n, _⟩ := o.obj
          rw [e]
          exact f.keep a o' e n (h2 a ha ⟨x, hs⟩))
        cases s with
        | un => trivial
        | xc c => exact sr.elim
        | sh d => obtain ⟨v, e, r⟩ := sr; exact ⟨v, e, r.mono kp⟩
        | ow b d => obtain ⟨a, e, o⟩ := sr; exact ⟨a, e, ow rfl e o⟩
        | lk b d => obtain ⟨a, e, o⟩ := sr; exact ⟨a, e, ow rfl e o⟩
      · exact ⟨a, h3, h4⟩
    inj := fun k j a h1 h2 => p.rel.inj k j a (heldU k a h1) (heldU j a h2)
    tab := f.tab
    new := fun k a ⟨x, hx⟩ hs => by
      refine p.rel.new k a ?_ hs
      rcases hx with hx | hx
      · rcases slotU k _ hx with ⟨h, _⟩ | ⟨b, y, d, a', h, e, _⟩
        · exact ⟨x, .inl h⟩
        · cases e; exact ⟨y, .inl h⟩
      · rcases slotU k _ hx with ⟨h, _⟩ | ⟨b, y, d, a', h, e, _⟩
        · exact ⟨x, .inr h⟩
        · cases e
    old := fun a h => f.there a (p.rel.old a h) }
  refine { rel := rel, keep := fun a o h ht hn => ?_, there := fun a h => f.there a (p.there a h), mutb := fun a ⟨k, b, x, h1, h2⟩ => ?_, fixL := fun k b x h => ?_, fixO := fun k x h => ?_, sub := fun k a h => p.sub k a (heldU k a h) }
  · refine f.keep a o (p.keep a o h ht hn) ht fun m => ?_
    rcases p.mutb a (mutM a m) with z | z
    · exact hn z
    · rw [h] at z; cases z
  · rcases slotU k _ h1 with ⟨h, _⟩ | ⟨b', y, d, a', h, _, _⟩
    · exact p.mutb a ⟨k, b, x, h, h2⟩
    · exact p.mutb a ⟨k, b', y, h, h2⟩
  · obtain ⟨h1, h2⟩ := p.fixL k b x h
    have lt : k < (wb ps os e1).length := by rw [wb_len]; exact (List.getElem?_eq_some_iff.mp h1).1
    rcases slotU k _ (List.getElem?_eq_getElem lt) with ⟨z, _⟩ | ⟨b', y, d, a', z, _⟩
    · rw [h1] at z
      exact ⟨by rw [List.getElem?_eq_getElem lt]; exact z.symm, h2⟩
    · rw [h1] at z; cases z
  · obtain ⟨⟨x', h1⟩, h2⟩ := p.fixO k x h
    have lt : k < (wb ps os e1).length := by rw [wb_len]; exact (List.getElem?_eq_some_iff.mp h1).1
    rcases slotU k _ (List.getElem?_eq_getElem lt) with ⟨z, _⟩ | ⟨b', y, d, a', z, e, _⟩
    · rw [h1] at z
      exact ⟨⟨x', by rw [List.getElem?_eq_getElem lt]; exact z.symm⟩, h2⟩
    · rw [h1] at z
      cases z
      exact ⟨⟨d, by rw [List.getElem?_eq_getElem lt, e]⟩, h2⟩
end
section
variable {X : Cx} {C : Cc} {W : WX} {x : Str} {k : Nat} {fm : FM} {e : Expr} {es : List Expr} {ms : En → R (List Val)} {p pos : Pos}
theorem callK {σ : L2.St} {H : Hp} {Q : VK} (h : tE C (gd X) W (mCall fm ms) σ H Q) : tA C (gd X) W ms σ H (fun vs H1 => Gh X σ (fun H2 => spFn C.cl C.T (gd X) fm vs H2 Q (WE W σ)) H1) := by
  obtain ⟨env, q, h⟩ := h
  refine ⟨env, q, tK_mono (tK_A (.refl q) h) fun vs H1 ⟨vals, e1, _, p1, vr, h1⟩ pins s I => ?_⟩
  unfold doCall at h1
  cases hm : mkArgs vals e1 with
  | none => rw [hm] at h1; exact h1.elim
  | some ps =>
    rw [hm] at h1
    dsimp only at h1
    by_cases hn : ndOwn ps = true
    · rw [if_pos hn] at h1
      obtain ⟨l, va⟩ := vr.at
      obtain ⟨H2, I2, p2, _, cv2⟩ := frzNw_ok q I p1 l (fun i v r a b => .inl (va i v r a b))
      refine ⟨H2, I2, ps.map (·.1), args_ok p2.rel l cv2 hm hn, p2.rel.tab, ?_⟩
      cases kf : fm (ps.map (·.1)) with
      | stuck => rw [kf] at h1; exact h1
      | exc c os => rw [kf] at h1; exact fun H' f => h1 H' (fin_post p2 l cv2 hm f)
      | ok r os =>
        rw [kf] at h1
        refine fun v H' f rr => h1 v H' (fin_post p2 l cv2 hm f) ?_
        cases r with
        | d x => exact rr
        | nw x =>
          obtain ⟨a, e, n, o⟩ := rr
          refine ⟨a, e, ?_, o⟩
          cases z : H a with
          | none => rfl
          | some o' => exact absurd n (p2.there a (by rw [z]; simp))
        | own j => exact rr.elim
        | xc c => exact rr.elim
    · rw [if_neg hn] at h1; exact h1.elim
/-- f(e, ..) -/
theorem e_call (c : Callee X.prog X.w X.K X.mg X.base C.cl C.T x k fm) (hr : Room k X.A) (tk : Takes X W) (hg : Gl X x) (ha : PA X (e :: es) (tA C (gd X) W ms))
    (hdb : (x == ("__debug__" : Str)) = false := by decide) (he : starEach (e :: es) X.env = (false, eval e X.env) :: starEach es X.env := by rfl) (hpl : (backTo pos (starEach es X.env)).any (·.1) = false := by rfl) :
    PE X (.Call (.Name x p) (e :: es) [] pos) (tE C (gd X) W (mCall fm ms)) := by
  obtain ⟨f, fd, ps, F, hb, hk, hm⟩ := c
  exact (pe_callS (E := WE W) F hr hg hm hk hb (passAt tk) (pa_gh ha) hdb he hpl).imp fun σ H Q h => callK h
end
end PV

set_option Elab.async false
set_option linter.all false
set_option maxRecDepth 100000
set_option maxHeartbeats 4000000
namespace PV
open PySem PySem.Spec PyProof.Rows L2

/-- a binary operation of the text is g on data -/
def BO (X : Cx) (f : Value → Value → Sem Value) (g : D → D → Option Val) : Prop := ∃ rd, OpR X f rd ∧ Op2 (gd X) rd g
def UO (X : Cx) (f : Value → Sem Value) (g : D → Option Val) : Prop := ∃ rd, UnR X f rd ∧ Op1 (gd X) rd g
def CO (X : Cx) (f : Value) (g : List D → Option Val) : Prop := ∃ rd, CallR X f rd ∧ Opn (gd X) rd g
def XO (X : Cx) (g : D → D → Option Val) : Prop := ∃ rd, IxR X rd ∧ Op2 (gd X) rd g
section
variable {X : Cx} {C : Cc} {W : WX} {a b : Expr} {ma mb : ME} {pos : Pos} {g : D → D → Option Val}
theorem b_bin {op : Operator} (h : BO X (binaryOp op) g) (ha : PE X a (tE C (gd X) W ma)) (hb : PE X b (tE C (gd X) W mb)) : PE X (.BinOp a op b pos) (tE C (gd X) W (mBin g ma mb)) := by
  obtain ⟨_, h1, h2⟩ := h
  exact e_bin h1 h2 ha hb
theorem b_cmp {op : CmpOp} (h : BO X (compareOp op) g) (ha : PE X a (tE C (gd X) W ma)) (hb : PE X b (tE C (gd X) W mb)) (hm : behindInMarks op b = false := by rfl) : PE X (.Compare a [op] [b] pos) (tE C (gd X) W (mBin g ma mb)) := by
  obtain ⟨_, h1, h2⟩ := h
  exact e_cmp h1 h2 ha hb hm
theorem b_cmpT {op : CmpOp} (h : BO X (compareOp op) g) (ha : PE X a (tE C (gd X) W ma)) (hb : PE X b (tE C (gd X) W mb)) (hm : behindInMarks op b = false := by rfl) : PT X (.Compare a [op] [b] pos) (tT C (gd X) W (mTB (mBin g ma mb))) := by
  obtain ⟨_, h1, h2⟩ := h
  exact t_cmp h1 h2 ha hb hm
theorem b_un {op : UnaryOp} {g : D → Option Val} (h : UO X (unaryOp op) g) (ha : PE X a (tE C (gd X) W ma)) : PE X (.UnaryOp op a pos) (tE C (gd X) W (mUn g ma)) := by
  obtain ⟨_, h1, h2⟩ := h
  exact e_un h1 h2 ha
theorem b_ix (h : XO X g) (ha : PE X a (tE C (gd X) W ma)) (hb : PE X b (tE C (gd X) W mb)) (hs : PlainIx b := by intro _ _; rfl) : PE X (.Subscript a b pos) (tE C (gd X) W (mBin g ma mb)) := by
  obtain ⟨_, h1, h2⟩ := h
  exact e_ix h1 h2 ha hb hs
end

section
variable {X : Cx}
theorem rv_d {G : Gd} {H H' : Hp} {v : V} {d : D} (h : Rep G H' v d) : RV G H H' v (.d d) := h
theorem BO.or {f : Value → Value → Sem Value} {g g' : D → D → Option Val} (h : BO X f g) (h' : BO X f g') : BO X f fun a b => match g a b with | some r => some r | none => g' a b := by
  obtain ⟨r, h1, h2⟩ := h
  obtain ⟨r', h1', h2'⟩ := h'
  refine ⟨_, h1.or h1', fun x y dx dy H Q v hx hy e q => ?_⟩
  dsimp only at e
  cases z : g dx dy with
  | some r0 => rw [z] at e; cases e; exact .inl (h2 x y dx dy H Q v hx hy z q)
  | none => rw [z] at e; exact .inr (h2' x y dx dy H Q v hx hy e q)
theorem BO.ext {f : Value → Value → Sem Value} {g g' : D → D → Option Val} (h : BO X f g) (e : ∀ a b r, g' a b = some r → g a b = some r) : BO X f g' := by
  obtain ⟨r, h1, h2⟩ := h
  exact ⟨r, h1, fun x y dx dy H Q v hx hy z q => h2 x y dx dy H Q v hx hy (e _ _ _ z) q⟩
/-- two ints -/
def gI (c : Int → Int → Bool) (k : Int → Int → D) : D → D → Option Val
  | .int i, .int j => if c i j = true then some (.d (k i j)) else none
  | _, _ => none
theorem bo_i {f : Value → Value → Sem Value} {C : Int → Int → Prop} {k : Int → Int → Int} (h : OpR X f (rI C fun i j => .int (k i j))) {c : Int → Int → Bool} (hc : ∀ i j, c i j = true → C i j) : BO X f (gI c fun i j => .int (k i j)) :=
  ⟨_, h, fun x y dx dy H Q r hx hy e q => by
    cases dx <;> cases dy <;> try (cases e)
    rename_i i j
    have e : (if c i j = true then some (Val.d (.int (k i j))) else none) = some r := e
    by_cases z : c i j = true
    · rw [if_pos z] at e
      cases e
      exact ⟨i, j, hx.int, hy.int, hc i j z, q _ H (Same.refl H) (.int _)⟩
    · rw [if_neg z] at e; cases e⟩
theorem bo_i0 {f : Value → Value → Sem Value} {k : Int → Int → Int} (h : OpR X f (rI0 fun i j => .int (k i j))) : BO X f (gI (fun _ _ => true) fun i j => .int (k i j)) :=
  ⟨_, h, fun x y dx dy H Q r hx hy e q => by
    cases dx <;> cases dy <;> try (cases e)
    all_goals exact ⟨_, _, hx.int, hy.int, q _ H (Same.refl H) (.int _)⟩⟩
theorem bo_b0 {f : Value → Value → Sem Value} {k : Int → Int → Bool} (h : OpR X f (rI0 fun i j => .bl (k i j))) : BO X f (gI (fun _ _ => true) fun i j => .bool (k i j)) :=
  ⟨_, h, fun x y dx dy H Q r hx hy e q => by
    cases dx <;> cases dy <;> try (cases e)
    all_goals exact ⟨_, _, hx.int, hy.int, q _ H (Same.refl H) (.bl _)⟩⟩
def gAdd : D → D → Option Val
  | .int i, .int j => some (.d (.int (i + j)))
  | .str i, .str j => if i.length + j.length ≤ sizeLine then some (.d (.str (i ++ j))) else none
  | .tuple xs, .tuple ys => if xs.length + ys.length ≤ sizeLine then some (.d (.tuple (xs ++ ys))) else none
  | .list xs, .list ys => if xs.length + ys.length ≤ sizeLine then some (.nw (.list (xs ++ ys))) else none
  | _, _ => none
theorem Reps.append {G : Gd} {H : Hp} : ∀ {vs ws : List V} {ds es : List D}, Reps G H vs ds → Reps G H ws es → Reps G H (vs ++ ws) (ds ++ es)
  | _, _, _, _, .nil, k => k
  | _, _, _, _, .cons h t, k => .cons h (Reps.append t k)
theorem same_upd {H : Hp} {p : Addr} {o : HO} (hp : H p = none) : L2.Same H (upd H p o) := fun b o' h => by
  have : b ≠ p := fun z => by subst z; rw [hp] at h; cases h
  simp [upd, this, h]
theorem new_list {G : Gd} {H : Hp} {p : Addr} {vs : List V} {ds : List D} (hp : H p = none) (r : Reps G H vs ds) : RV G H (upd H p (.lst vs)) (.ref p) (.nw (.list ds)) :=
  ⟨p, rfl, hp, vs, by simp [upd], r.mono (Same.kp (same_upd hp))⟩
/-- a tuple as it is laid -/
def tobj (us : List Value) : Obj := { cls := .type "tuple", data := .seq us.toArray }
theorem new_tup {G : Gd} {H : Hp} {p : Addr} {vs : List V} {ds : List D} {us : List Value} (hp : H p = none) (r : Reps G H vs ds) : RV G H (upd H p (.frz (tobj us) (.tup vs))) (.ref p) (.d (.tuple ds)) :=
  .tup (.inl ⟨tobj us, by simp [upd], rfl⟩) (r.mono (Same.kp (same_upd hp)))
theorem laidU {X : Cx} {pins : List (Addr × Obj)} {σ : L2.St} {H : Hp} {s : Shared} {vs : List V} {us : List Value} (I : Inv X pins σ H s) (r : Vals vs us) (hz : vs.length ≤ sizeLine) : Inv X pins σ (upd H s.heap.objs.size (.frz (tobj us) (.tup vs))) { s with heap := s.heap.push (tobj us) } :=
  I.laid (t' := s.toks) (fun b ob q => Heap.get?_push_of_some _ q) (Nat.le_refl _) ⟨Heap.get?_push_size _ rfl, hz, us, r, IsTup.new _ _⟩
/-- t + u, the laid object known -/
def rCatU (K : PySem.W.Frag) : R2 := fun x y H Q => ∃ a b xs ys, x = .ref a ∧ y = .ref b ∧ SqT K H a xs ∧ SqT K H b ys ∧ xs.length + ys.length ≤ sizeLine ∧
  (xs = [] → Q (.ref b) H) ∧ (xs ≠ [] → ys = [] → Q (.ref a) H) ∧ (xs ≠ [] → ys ≠ [] → ∀ p us, H p = none → Q (.ref p) (upd H p (.frz (tobj us) (.tup (xs ++ ys)))))
theorem op_catU : OpR X (binaryOp .Add) (rCatU X.K) := by
  intro pins s σ H x y v u Q I rx ry h
  obtain ⟨a, b, xs, ys, rfl, rfl, ha, hb, hz, q0, q1, q2⟩ := h
  cases rx
  cases ry
  obtain ⟨its, r1, p1, _⟩ := I.tuple ha
  obtain ⟨its2, r2, p2, _⟩ := I.tuple hb
  by_cases hx : xs = []
  · subst hx
    cases r1
    exact cat_tup0 p1 p2 ⟨.ref b, H, I, rfl, q0 rfl⟩
  · refine HT.cat_tup p1 p2 (fun z => hx (r1.nil_iff.mp z)) (fun z => ⟨.ref a, H, I, rfl, q1 hx (r2.nil_iff.mp z)⟩) (fun z => ?_) (by rw [← r1.length, ← r2.length]; exact hz)
    exact ⟨.ref s.heap.objs.size, _, laidU I (r1.append r2) (by rw [List.length_append]; exact hz), rfl, q2 hx (fun w => z (r2.nil_iff.mpr w)) _ _ (I.hok.fresh (Nat.le_refl _))⟩
/-- list + list, any lists -/
theorem op_catL : OpR X (binaryOp .Add) (fun x y H Q => ∃ a b xs ys, x = .ref a ∧ y = .ref b ∧ SqL X.K H a xs ∧ SqL X.K H b ys ∧ xs.length + ys.length ≤ sizeLine ∧ ∀ p, H p = none → Q (.ref p) (upd H p (.lst (xs ++ ys)))) := by
  intro pins s σ H x y v u Q I rx ry h
  obtain ⟨a, b, xs, zs, rfl, rfl, hx, hz, hl, q⟩ := h
  cases rx
  cases ry
  obtain ⟨its, r, p1, _⟩ := I.list hx
  obtain ⟨its2, r2, p2, _⟩ := I.list hz
  obtain ⟨⟨cls, dd, data, sl⟩, n, ho, hc, _, hd⟩ := p1
  obtain ⟨⟨cls2, dd2, data2, sl2⟩, n2, ho2, hc2, _, hd2⟩ := p2
  simp only at hc hd hc2 hd2
  subst hc hd hc2 hd2
  have ea : its.toArray ++ its2.toArray = (its ++ its2).toArray := by simp
  refine concat_meets ⟨_, ho, rfl⟩ ⟨_, ho2, rfl⟩ noFill_list_add seq_list_add PySem.F.slot_list_add PySem.F.entry_list_add (PySem.F.args_list_add_2 _ _) (list_addW a b its.toArray its2.toArray n n2 dd dd2 sl sl2 (by have := r.length; have := r2.length; simp; omega)) ⟨ho, ho2, ?_⟩
  rw [ea]
  exact ⟨.ref _, _, I.lnew (t' := s.toks) (r.append r2) (by rw [List.length_append]; omega), rfl, q _ I.fresh⟩
theorem add_ok : BO X (binaryOp .Add) gAdd := by
  refine ⟨_, op_add.or (op_add_str.or (op_catU.or op_catL)), fun x y dx dy H Q r hx hy e q => ?_⟩
  cases dx <;> cases dy <;> try (cases e)
  case int.int i j => exact .inl ⟨i, j, hx.int, hy.int, q _ H (Same.refl H) (.int _)⟩
  case str.str i j =>
    have e : (if i.length + j.length ≤ sizeLine then some (Val.d (.str (i ++ j))) else none) = some r := e
    by_cases z : i.length + j.length ≤ sizeLine
    · rw [if_pos z] at e; cases e
      exact .inr (.inl ⟨i, j, hx.str, hy.str, z, q _ H (Same.refl H) (.str _)⟩)
    · rw [if_neg z] at e; cases e
  case tuple.tuple i j =>
    have e : (if i.length + j.length ≤ sizeLine then some (Val.d (.tuple (i ++ j))) else none) = some r := e
    by_cases z : i.length + j.length ≤ sizeLine
    · rw [if_pos z] at e; cases e
      obtain ⟨a, vs, rfl, h1, r1⟩ := hx.tupU
      obtain ⟨b, ws, rfl, h2, r2⟩ := hy.tupU
      refine .inr (.inr (.inl ⟨a, b, vs, ws, rfl, rfl, h1.sq, h2.sq, by rw [r1.length, r2.length]; exact z, fun w => q _ H (Same.refl H) ?_, fun _ w => q _ H (Same.refl H) ?_, fun _ _ p us hp => q _ _ (same_upd hp) (new_tup hp (r1.append r2))⟩))
      · subst w; cases r1; exact .tup h2 r2
      · subst w; cases r2; rw [List.append_nil]; exact .tup h1 r1
    · rw [if_neg z] at e; cases e
  case list.list i j =>
    have e : (if i.length + j.length ≤ sizeLine then some (Val.nw (.list (i ++ j))) else none) = some r := e
    by_cases z : i.length + j.length ≤ sizeLine
    · rw [if_pos z] at e; cases e
      obtain ⟨a, vs, rfl, h1, r1⟩ := hx.lst
      obtain ⟨b, ws, rfl, h2, r2⟩ := hy.lst
      exact .inr (.inr (.inr ⟨a, b, vs, ws, rfl, rfl, h1, h2, by rw [r1.length, r2.length]; exact z, fun p hp => q _ _ (same_upd hp) (new_list hp (r1.append r2))⟩))
    · rw [if_neg z] at e; cases e
def gSub : D → D → Option Val := gI (fun _ _ => true) fun i j => .int (i - j)
theorem sub_ok : BO X (binaryOp .Sub) gSub := bo_i0 op_sub
def cDiv (_ j : Int) : Bool := decide (0 < j) && decide (j.natAbs.log2 < 9000)
def gDiv : D → D → Option Val := gI cDiv fun i j => .int (i / j)
theorem div_ok : BO X (binaryOp .FloorDiv) gDiv := bo_i op_fdivW fun i j h => by
  unfold cDiv at h
  rw [Bool.and_eq_true] at h
  exact ⟨of_decide_eq_true h.1, of_decide_eq_true h.2⟩
def gMod : D → D → Option Val := gI (fun _ j => decide (0 < j)) fun i j => .int (i % j)
theorem mod_ok : BO X (binaryOp .Mod) gMod := bo_i op_mod fun i j h => of_decide_eq_true h
def gPow : D → D → Option Val := gI (fun i j => decide (0 ≤ j) && decide (j ≤ 1000000) && decide (i.natAbs < 2 ^ 64)) fun i j => .int (i ^ j.toNat)
theorem pow_ok : BO X (binaryOp .Pow) gPow := bo_i op_pow fun i j h => by
  rw [Bool.and_eq_true, Bool.and_eq_true] at h
  exact ⟨of_decide_eq_true h.1.1, of_decide_eq_true h.1.2, of_decide_eq_true h.2⟩
def gShl : D → D → Option Val := gI (fun i j => decide (0 ≤ j) && decide (j ≤ 1000000) && decide (i.natAbs < 2 ^ 64)) fun i j => .int (i * 2 ^ j.toNat)
theorem shl_ok : BO X (binaryOp .LShift) gShl := bo_i op_shl fun i j h => by
  rw [Bool.and_eq_true, Bool.and_eq_true] at h
  exact ⟨of_decide_eq_true h.1.1, of_decide_eq_true h.1.2, of_decide_eq_true h.2⟩
def gShr : D → D → Option Val := gI (fun _ j => decide (0 ≤ j)) fun i j => .int (i / 2 ^ j.toNat)
theorem shr_ok : BO X (binaryOp .RShift) gShr := bo_i op_shr fun i j h => of_decide_eq_true h
def gXor : D → D → Option Val := gI (fun _ _ => true) fun i j => .int (Builtin.bitXor i j)
theorem xor_ok : BO X (binaryOp .BitXor) gXor := bo_i0 op_xor
def gNeg : D → Option Val
  | .int i => some (.d (.int (-i)))
  | _ => none
theorem neg_ok : UO X (unaryOp .USub) gNeg := ⟨_, un_neg, fun x dx H Q r hx e q => by
  cases dx <;> cases e
  exact ⟨_, hx.int, q _ H (Same.refl H) (.int _)⟩⟩
def gCmp (ki : Int → Int → Bool) (ks : Str → Str → Bool) : D → D → Option Val
  | .int i, .int j => some (.d (.bool (ki i j)))
  | .str i, .str j => some (.d (.bool (ks i j)))
  | _, _ => none
theorem bo_cmp {f : Value → Value → Sem Value} {ki : Int → Int → Bool} {ks : Str → Str → Bool} (h : OpR X f (rI0 fun i j => .bl (ki i j))) (h2 : OpR X f (fun x y H Q => ∃ i j, x = .str i ∧ y = .str j ∧ Q (.bl (ks i j)) H)) : BO X f (gCmp ki ks) :=
  ⟨_, h.or h2, fun x y dx dy H Q r hx hy e q => by
    cases dx <;> cases dy <;> cases e
    · exact .inl ⟨_, _, hx.int, hy.int, q _ H (Same.refl H) (.bl _)⟩
    · exact .inr ⟨_, _, hx.str, hy.str, q _ H (Same.refl H) (.bl _)⟩⟩
def gLt : D → D → Option Val := gCmp (fun i j => decide (i < j)) fun i j => decide (i.cps.toList < j.cps.toList)
def gLe : D → D → Option Val := gCmp (fun i j => decide (i ≤ j)) fun i j => !decide (j.cps.toList < i.cps.toList)
def gGt : D → D → Option Val := gCmp (fun i j => decide (j < i)) fun i j => decide (j.cps.toList < i.cps.toList)
def gGe : D → D → Option Val := gCmp (fun i j => decide (j ≤ i)) fun i j => !decide (i.cps.toList < j.cps.toList)
theorem lt_ok : BO X (compareOp .Lt) gLt := bo_cmp op_lt op_lt_str
theorem le_ok : BO X (compareOp .LtE) gLe := bo_cmp op_le op_le_str
theorem gt_ok : BO X (compareOp .Gt) gGt := bo_cmp op_gt op_gt_str
theorem ge_ok : BO X (compareOp .GtE) gGe := bo_cmp op_ge op_ge_str
end
end PV

set_option Elab.async false
set_option linter.all false
set_option maxRecDepth 100000
set_option maxHeartbeats 4000000
namespace PV
open PySem PySem.Spec PyProof.Rows L2
section
variable {G : Gd} {H : Hp}
mutual
theorem Rep.dp : ∀ {v : V} {d : D}, Rep G H v d → d.canLay0 = true → Dp G.K H v d
  | _, _, .non, _ => .non
  | _, _, .bl b, _ => .bl b
  | _, _, .int i, _ => .int i
  | _, _, .str x, _ => .str x
  | _, _, .tup h r, c => .tup h.sq (Reps.dp r (by simpa [PyData.canLay0] using c))
  | _, _, .lst h r, c => .lst h.sq (Reps.dp r (by simpa [PyData.canLay0] using c))
  | _, _, .dic _ _ _ _ _, c => by simp [PyData.canLay0] at c
theorem Reps.dp : ∀ {vs : List V} {ds : List D}, Reps G H vs ds → PyData.canLayAll0 ds = true → DpAll G.K H vs ds
  | _, _, .nil, _ => .nil
  | _, _, .cons h t, c => by
    simp only [PyData.canLayAll0, Bool.and_eq_true] at c
    exact .cons (h.dp c.1) (Reps.dp t c.2)
end
theorem Dr.dp {v : V} {d : D} (h : Dr G H v d) (c : d.canLay0 = true) : Dp G.K H v d := by
  rcases h with h | ⟨a, rfl, o⟩
  · exact h.dp c
  · cases d with
    | list ds => obtain ⟨vs, e, r⟩ := o; exact .lst (.of e) (r.dp (by simpa [PyData.canLay0] using c))
    | dict kvs => simp [PyData.canLay0] at c
    | _ => exact o.elim
end
section
variable {X : Cx}
def gEq (a b : D) : Option Val := if SeqAt.shaped a = true ∧ SeqAt.shaped b = true then some (.d (.bool (PyData.eqv a b))) else none
def gNe (a b : D) : Option Val := if SeqAt.shaped a = true ∧ SeqAt.shaped b = true then some (.d (.bool (!PyData.eqv a b))) else none
theorem eq_ok (hu : X.A.units + 64 < cLine) : BO X (compareOp .Eq) gEq := ⟨_, op_eqD hu, fun x y dx dy H Q r hx hy e q => by
  unfold gEq at e
  by_cases z : SeqAt.shaped dx = true ∧ SeqAt.shaped dy = true
  · rw [if_pos z] at e; cases e
    exact ⟨dx, dy, hx.dp (SeqAt.canLay_of_shaped z.1), hy.dp (SeqAt.canLay_of_shaped z.2), z.1, z.2, q _ H (Same.refl H) (.bl _)⟩
  · rw [if_neg z] at e; cases e⟩
theorem ne_ok (hu : X.A.units + 64 < cLine) : BO X (compareOp .NotEq) gNe := ⟨_, op_neD hu, fun x y dx dy H Q r hx hy e q => by
  unfold gNe at e
  by_cases z : SeqAt.shaped dx = true ∧ SeqAt.shaped dy = true
  · rw [if_pos z] at e; cases e
    exact ⟨dx, dy, hx.dp (SeqAt.canLay_of_shaped z.1), hy.dp (SeqAt.canLay_of_shaped z.2), z.1, z.2, q _ H (Same.refl H) (.bl _)⟩
  · rw [if_neg z] at e; cases e⟩
def rInT (K : PySem.W.Frag) : R2 := fun x y H Q => ∃ d ds, Dp K H x d ∧ Dp K H y (.tuple ds) ∧ SeqAt.shaped d = true ∧ SeqAt.shaped (.tuple ds) = true ∧ Q (.bl (ds.any fun z => PyData.eqv z d)) H
def rNotInT (K : PySem.W.Frag) : R2 := fun x y H Q => ∃ d ds, Dp K H x d ∧ Dp K H y (.tuple ds) ∧ SeqAt.shaped d = true ∧ SeqAt.shaped (.tuple ds) = true ∧ Q (.bl (!ds.any fun z => PyData.eqv z d)) H
theorem op_inT (hu : X.A.units + 65 < cLine) : OpR X (compareOp .In) (rInT X.K) := by
  intro pins s σ H x y v u Q I rx ry h
  obtain ⟨d, ds, hd, he, sd, se, q⟩ := h
  obtain ⟨as, r1⟩ := Dp.reads I d x v hd rx
  obtain ⟨bs, r2⟩ := Dp.reads I (.tuple ds) y u he ry
  exact SeqAt.in_tuple_reads r2 r1 (SeqAt.canLay_of_shaped se) (SeqAt.canLay_of_shaped sd) (room_in_shaped sd hu) ⟨.bl _, H, I, rfl, q⟩
theorem op_notInT (hu : X.A.units + 65 < cLine) : OpR X (compareOp .NotIn) (rNotInT X.K) := by
  intro pins s σ H x y v u Q I rx ry h
  obtain ⟨d, ds, hd, he, sd, se, q⟩ := h
  obtain ⟨as, r1⟩ := Dp.reads I d x v hd rx
  obtain ⟨bs, r2⟩ := Dp.reads I (.tuple ds) y u he ry
  exact SeqAt.notIn_tuple_reads r2 r1 (SeqAt.canLay_of_shaped se) (SeqAt.canLay_of_shaped sd) (room_in_shaped sd hu) ⟨.bl _, H, I, rfl, q⟩
def inS (i j : Str) : Bool := !(Builtin.Str.occurrences j i 0 j.length 1).isEmpty
def isIn : D → D → Option Bool
  | d, .list ds => if SeqAt.shaped d = true ∧ SeqAt.shaped (.list ds) = true then some (ds.any fun z => PyData.eqv z d) else none
  | d, .tuple ds => if SeqAt.shaped d = true ∧ SeqAt.shaped (.tuple ds) = true then some (ds.any fun z => PyData.eqv z d) else none
  | .str i, .str j => some (inS i j)
  | _, _ => none
def gIn (a b : D) : Option Val := (isIn a b).map fun k => .d (.bool k)
def gNotIn (a b : D) : Option Val := (isIn a b).map fun k => .d (.bool (!k))
theorem in_ok (hu : X.A.units + 65 < cLine) : BO X (compareOp .In) gIn := ⟨_, (op_inD hu).or ((op_inT hu).or op_in_str), fun x y dx dy H Q r hx hy e q => by
  unfold gIn at e
  cases k : isIn dx dy with
  | none => rw [k] at e; cases e
  | some b =>
    rw [k] at e
    cases e
    cases dy with
    | list ds =>
      have k : (if SeqAt.shaped dx = true ∧ SeqAt.shaped (.list ds) = true then some (ds.any fun z => PyData.eqv z dx) else none) = some b := by cases dx <;> exact k
      by_cases z : SeqAt.shaped dx = true ∧ SeqAt.shaped (.list ds) = true
      · rw [if_pos z] at k; cases k
        exact .inl ⟨dx, ds, hx.dp (SeqAt.canLay_of_shaped z.1), hy.dp (SeqAt.canLay_of_shaped z.2), z.1, z.2, q _ H (Same.refl H) (.bl _)⟩
      · rw [if_neg z] at k; cases k
    | tuple ds =>
      have k : (if SeqAt.shaped dx = true ∧ SeqAt.shaped (.tuple ds) = true then some (ds.any fun z => PyData.eqv z dx) else none) = some b := by cases dx <;> exact k
      by_cases z : SeqAt.shaped dx = true ∧ SeqAt.shaped (.tuple ds) = true
      · rw [if_pos z] at k; cases k
        exact .inr (.inl ⟨dx, ds, hx.dp (SeqAt.canLay_of_shaped z.1), hy.dp (SeqAt.canLay_of_shaped z.2), z.1, z.2, q _ H (Same.refl H) (.bl _)⟩)
      · rw [if_neg z] at k; cases k
    | str j =>
      cases dx <;> cases k
      exact .inr (.inr ⟨_, _, hx.str, hy.str, q _ H (Same.refl H) (.bl _)⟩)
    | _ => cases dx <;> cases k⟩
theorem notIn_ok (hu : X.A.units + 65 < cLine) : BO X (compareOp .NotIn) gNotIn := ⟨_, (op_notInD hu).or ((op_notInT hu).or op_notin_str), fun x y dx dy H Q r hx hy e q => by
  unfold gNotIn at e
  cases k : isIn dx dy with
  | none => rw [k] at e; cases e
  | some b =>
    rw [k] at e
    cases e
    cases dy with
    | list ds =>
      have k : (if SeqAt.shaped dx = true ∧ SeqAt.shaped (.list ds) = true then some (ds.any fun z => PyData.eqv z dx) else none) = some b := by cases dx <;> exact k
      by_cases z : SeqAt.shaped dx = true ∧ SeqAt.shaped (.list ds) = true
      · rw [if_pos z] at k; cases k
        exact .inl ⟨dx, ds, hx.dp (SeqAt.canLay_of_shaped z.1), hy.dp (SeqAt.canLay_of_shaped z.2), z.1, z.2, q _ H (Same.refl H) (.bl _)⟩
      · rw [if_neg z] at k; cases k
    | tuple ds =>
      have k : (if SeqAt.shaped dx = true ∧ SeqAt.shaped (.tuple ds) = true then some (ds.any fun z => PyData.eqv z dx) else none) = some b := by cases dx <;> exact k
      by_cases z : SeqAt.shaped dx = true ∧ SeqAt.shaped (.tuple ds) = true
      · rw [if_pos z] at k; cases k
        exact .inr (.inl ⟨dx, ds, hx.dp (SeqAt.canLay_of_shaped z.1), hy.dp (SeqAt.canLay_of_shaped z.2), z.1, z.2, q _ H (Same.refl H) (.bl _)⟩)
      · rw [if_neg z] at k; cases k
    | str j =>
      cases dx <;> cases k
      exact .inr (.inr ⟨_, _, hx.str, hy.str, q _ H (Same.refl H) (.bl _)⟩)
    | _ => cases dx <;> cases k⟩
def isIs : D → D → Option Bool
  | .none, .none => some true
  | _, .none => some false
  | .bool a, .bool b => some (decide (a = b))
  | _, _ => none
def gIs (a b : D) : Option Val := (isIs a b).map fun k => .d (.bool k)
def gIsNot (a b : D) : Option Val := (isIs a b).map fun k => .d (.bool (!k))
theorem Dr.isNon {G : Gd} {H : Hp} {v : V} {d : D} (h : Dr G H v d) : decide (v = .non) = (match d with | .none => true | _ => false) := by
  rcases h with h | ⟨a, rfl, o⟩
  · cases h <;> rfl
  · cases d with
    | none => exact o.elim
    | _ => rfl
theorem is_ok : BO X (compareOp .Is) gIs := ⟨_, op_isN.or op_is_bl, fun x y dx dy H Q r hx hy e q => by
  unfold gIs at e
  cases dy with
  | none =>
    have := hx.isNon
    refine .inl ⟨hy.non, ?_⟩
    rw [this]
    cases dx <;> cases e <;> exact q _ H (Same.refl H) (.bl _)
  | bool b =>
    cases dx <;> cases e
    exact .inr ⟨_, _, hx.bool, hy.bool, q _ H (Same.refl H) (.bl _)⟩
  | _ => cases dx <;> cases e⟩
theorem isNot_ok : BO X (compareOp .IsNot) gIsNot := ⟨_, op_notN.or op_isnot_bl, fun x y dx dy H Q r hx hy e q => by
  unfold gIsNot at e
  cases dy with
  | none =>
    have := hx.isNon
    refine .inl ⟨hy.non, ?_⟩
    rw [this]
    cases dx <;> cases e <;> exact q _ H (Same.refl H) (.bl _)
  | bool b =>
    cases dx <;> cases e
    exact .inr ⟨_, _, hx.bool, hy.bool, q _ H (Same.refl H) (.bl _)⟩
  | _ => cases dx <;> cases e⟩
theorem Reps.getD {G : Gd} {H : Hp} : ∀ {vs : List V} {ds : List D} {j : Nat} {d : D}, Reps G H vs ds → ds[j]? = some d → ∃ v, vs[j]? = some v ∧ Rep G H v d
  | _, _, 0, _, .cons h _, e => by cases e; exact ⟨_, rfl, h⟩
  | _, _, j + 1, _, .cons _ t, e => by simpa using Reps.getD t (by simpa using e)
  | _, _, _, _, .nil, e => by simp at e
theorem Reps.atI {G : Gd} {H : Hp} {vs : List V} {ds : List D} {i : Int} {d : D} (r : Reps G H vs ds) (e : L2.atI ds i = some d) : ∃ v, L2.atI vs i = some v ∧ Rep G H v d := by
  unfold L2.atI at e ⊢
  rw [r.length]
  cases z : ixN ds.length i with
  | none => rw [z] at e; cases e
  | some j => rw [z] at e; exact r.getD e
/-- text's sign -/
def sgn (z : Str) (i : Int) : Option D := if z.length ≤ sizeLine then (L2.atI z.cps.toList i).map fun c => .str ⟨#[c]⟩ else none
def gIx : D → D → Option Val
  | .list ds, .int i => (L2.atI ds i).map Val.d
  | .tuple ds, .int i => (L2.atI ds i).map Val.d
  | .str z, .int i => (sgn z i).map Val.d
  | _, _ => none
theorem ix_ok : XO X gIx := ⟨_, ix_seq, fun x y dx dy H Q r hx hy e q => by
  cases dx <;> cases dy <;> try (cases e)
  case list.int ds i =>
    have e : (L2.atI ds i).map Val.d = some r := e
    cases z : L2.atI ds i with
    | none => rw [z] at e; cases e
    | some d =>
      rw [z] at e; cases e
      obtain ⟨a, vs, rfl, h1, r1⟩ := hx.lst
      obtain ⟨v, h2, h3⟩ := r1.atI z
      exact .inl ⟨a, vs, i, v, rfl, hy.int, h1, h2, q _ H (Same.refl H) h3⟩
  case tuple.int ds i =>
    have e : (L2.atI ds i).map Val.d = some r := e
    cases z : L2.atI ds i with
    | none => rw [z] at e; cases e
    | some d =>
      rw [z] at e; cases e
      obtain ⟨a, vs, rfl, h1, r1⟩ := hx.tup
      obtain ⟨v, h2, h3⟩ := r1.atI z
      exact .inr (.inl ⟨a, vs, i, v, rfl, hy.int, h1, h2, q _ H (Same.refl H) h3⟩)
  case str.int z i =>
    have e : (sgn z i).map Val.d = some r := e
    unfold sgn at e
    by_cases hz : z.length ≤ sizeLine
    · rw [if_pos hz] at e
      cases k : L2.atI z.cps.toList i with
      | none => rw [k] at e; cases e
      | some c =>
        rw [k] at e; cases e
        exact .inr (.inr ⟨z, i, c, hx.str, hy.int, hz, k, q _ H (Same.refl H) (.str _)⟩)
    · rw [if_neg hz] at e; cases e⟩
end
/-- a part that is left out, or an int -/
abbrev MO := En → R (Option Int)
def oNo : MO := fun env => .ok none env
def oSo (m : ME) : MO := fun env => (m env).bind fun r e => match deref e r with
  | some (.int i) => .ok (some i) e
  | _ => .stuck
def cutD (xs : List D) (lo hi : Option Int) : List D := (xs.drop (HT.sIx xs.length 0 lo)).take (HT.sIx xs.length xs.length hi - HT.sIx xs.length 0 lo)
def gSl (d : D) (lo hi : Option Int) : Option Val := match d with
  | .list ds => some (.nw (.list (cutD ds lo hi)))
  | .tuple ds => some (.d (.tuple (cutD ds lo hi)))
  | .str z => if z.length ≤ sizeLine then some (.d (.str (cutS z lo hi))) else none
  | _ => none
def mSl (m : ME) (lo hi : MO) : ME := fun env => (m env).bind fun r e => (lo e).bind fun l e2 => (hi e2).bind fun u e3 => match deref e3 r with
  | some d => fin e3 (gSl d l u)
  | none => .stuck
section
variable {X : Cx} {C : Cc} {W : WX} {a : Expr} {m : ME} {lo hi : Option Expr} {ml mh : MO} {pos p2 : Pos}
abbrev tOr : Hp → En → L2.St → Hp → Option Int → Option Int → Prop := fun _ _ _ _ b r => b = r
def tO (C : Cc) (G : Gd) (W : WX) (m : MO) : TO := fun σ H Q => ∃ env, Rel G C env σ H ∧ tK C G W tOr env σ H (m env) Q
theorem tK_O {G : Gd} {env e1 : En} {σ : L2.St} {H H1 : Hp} {α' β' : Type} {relB : Hp → En → L2.St → Hp → β' → α' → Prop} (p : PostE G C env σ H e1 H1) {ma : R (Option Int)} {f : Option Int → En → R α'} {Q : β' → Hp → Prop} (h : tK C G W relB env σ H (ma.bind f) Q) :
    tK C G W tOr e1 σ H1 ma (fun v H2 => ∃ r e2, PostE G C e1 σ H1 e2 H2 ∧ PostE G C env σ H e2 H2 ∧ v = r ∧ tK C G W relB env σ H (f r e2) Q) := tK_next (fun _ q => q) p h
theorem o_no : PO X none (tO C (gd X) W oNo) := ⟨fun pins s σ H Q I ⟨env, q, h⟩ => po_none.run pins s σ H Q I (h none H (.refl q) rfl)⟩
theorem o_so {e : Expr} (h : PE X e (tE C (gd X) W m)) : PO X (some e) (tO C (gd X) W (oSo m)) := ⟨fun pins s σ H Q I ⟨env, q, hk⟩ => (po_some h).run pins s σ H Q I ⟨env, q, tK_mono (tK_E (.refl q) hk) fun v H1 ⟨r, e1, _, p1, vr, h1⟩ => by
  cases z : deref e1 r with
  | none => rw [z] at h1; exact h1.elim
  | some d =>
    rw [z] at h1
    cases d with
    | int i => exact ⟨i, (deref_ok p1.rel vr z).int, h1 (some i) H1 p1 rfl⟩
    | _ => exact h1.elim⟩⟩
theorem Reps.drop {G : Gd} {H : Hp} : ∀ {vs : List V} {ds : List D} (n : Nat), Reps G H vs ds → Reps G H (vs.drop n) (ds.drop n)
  | _, _, 0, h => h
  | _, _, n + 1, .nil => .nil
  | _, _, n + 1, .cons _ t => Reps.drop n t
theorem Reps.take {G : Gd} {H : Hp} : ∀ {vs : List V} {ds : List D} (n : Nat), Reps G H vs ds → Reps G H (vs.take n) (ds.take n)
  | _, _, 0, h => .nil
  | _, _, n + 1, .nil => .nil
  | _, _, n + 1, .cons h t => .cons h (Reps.take n t)
theorem Reps.cut {G : Gd} {H : Hp} {vs : List V} {ds : List D} (r : Reps G H vs ds) (lo hi : Option Int) : Reps G H (cutV vs lo hi) (cutD ds lo hi) := by
  unfold cutV cutD
  rw [r.length]
  exact (r.drop _).take _
theorem cutD_all {ds : List D} {lo hi : Option Int} (h : HT.sIx ds.length 0 lo = 0 ∧ HT.sIx ds.length ds.length hi = ds.length) : cutD ds lo hi = ds := by
  unfold cutD
  rw [h.1, h.2]
  simp
/-- an own slot's length stays while parts are read? the value is read behind them -/
def rSlU (K : PySem.W.Frag) : V → Option Int → Option Int → Hp → VK → Prop := fun x lo hi H Q => ∃ a xs, x = .ref a ∧ SqT K H a xs ∧
  (HT.sIx xs.length 0 lo = 0 ∧ HT.sIx xs.length xs.length hi = xs.length → Q (.ref a) H) ∧ (¬ (HT.sIx xs.length 0 lo = 0 ∧ HT.sIx xs.length xs.length hi = xs.length) → ∀ p us, H p = none → Q (.ref p) (upd H p (.frz (tobj us) (.tup (cutV xs lo hi)))))
theorem sl_tupU : SlR X (rSlU X.K) := by
  intro pins s σ H x v vl vu lo hi sl Q I rx hs pl pu h
  obtain ⟨a, xs, rfl, hx, q1, q2⟩ := h
  cases rx
  obtain ⟨its, r, ht, hz⟩ := I.tuple hx
  have hlen : its.toArray.size = xs.length := by rw [List.size_toArray]; exact r.length.symm
  refine ⟨"tuple", _, PyProof.Rows.slot_tuple_getitem.lookup, ht.typeIs, ?_⟩
  by_cases hw : HT.sIx xs.length 0 lo = 0 ∧ HT.sIx xs.length xs.length hi = xs.length
  · exact getItem_tuple_whole ht hs pl pu (by rw [hlen]; exact hw) ⟨.ref a, H, I, rfl, q1 hw⟩
  · refine HT.getItem_tuple_cut ht hs pl pu (by rw [hlen]; exact hw) ?_ (by rw [hlen]; exact hz)
    rw [hlen]
    exact ⟨.ref s.heap.objs.size, _, laidU I ((r.drop (HT.sIx xs.length 0 lo)).take (HT.sIx xs.length xs.length hi - HT.sIx xs.length 0 lo)) (Nat.le_trans (cutV_length xs lo hi) hz), rfl, q2 hw _ _ (I.hok.fresh (Nat.le_refl _))⟩
theorem b_sl (ha : PE X a (tE C (gd X) W m)) (hl : PO X lo (tO C (gd X) W ml)) (hh : PO X hi (tO C (gd X) W mh)) : PE X (.Subscript a (.Slice lo hi none p2) pos) (tE C (gd X) W (mSl m ml mh)) :=
  (pe_slice (sl_list.or (sl_tupU.or sl_str)) ha hl hh).imp fun σ H Q ⟨env, q, h⟩ => ⟨env, q, tK_mono (tK_E (.refl q) h) fun x H1 ⟨r, e1, _, p1, vr, h1⟩ => ⟨e1, p1.rel, by
    have step : ∀ (o : Option Int) (H2 : Hp), (∃ (e2 : En), PostE (gd X) C e1 σ H1 e2 H2 ∧ PostE (gd X) C env σ H e2 H2 ∧ tK C (gd X) W (ValRel (gd X)) env σ H ((mh e2).bind fun u e3 => match deref e3 r with | some d => fin e3 (gSl d o u) | none => .stuck) Q) →
        tO C (gd X) W mh σ H2 fun u H3 => (rSlL X.K x o u H3 Q ∨ rSlU X.K x o u H3 Q ∨ rSlS x o u H3 Q) := fun o H2 ⟨e2, i2, p2, h2⟩ => ⟨e2, p2.rel, tK_mono (tK_O p2 h2) fun u H3 ⟨u', e3, i3, p3, ur, h3⟩ => by
      cases ur
      have vr3 : ValRel (gd X) H e3 σ H3 x r := (vr.post p1.rel (p1.noHeld q) i2.toPost).post p2.rel (p2.noHeld q) i3.toPost
      cases z : deref e3 r with
      | none => rw [z] at h3; exact h3.elim
      | some d =>
        rw [z] at h3
        have dr := deref_ok p3.rel vr3 z
        obtain ⟨r0, e0, k⟩ := fin_ok p3 h3
        cases d with
        | list ds =>
          cases e0
          obtain ⟨b, vs, rfl, s1, s2⟩ := dr.lst
          exact .inl ⟨b, vs, rfl, s1, fun p hp => k _ _ (same_upd hp) (new_list hp (s2.cut o u))⟩
        | tuple ds =>
          cases e0
          obtain ⟨b, vs, rfl, s1, s2⟩ := dr.tupU
          refine .inr (.inl ⟨b, vs, rfl, s1.sq, fun w => k _ _ (Same.refl _) ?_, fun _ p us hp => k _ _ (same_upd hp) (new_tup hp (s2.cut o u))⟩)
          rw [s2.length] at w
          show Rep _ _ _ (.tuple (cutD ds o u))
          rw [cutD_all w]
          exact .tup s1 s2
        | str z' =>
          have e0 : (if z'.length ≤ sizeLine then some (Val.d (.str (cutS z' o u))) else none) = some r0 := e0
          by_cases hz : z'.length ≤ sizeLine
          · rw [if_pos hz] at e0; cases e0
            exact .inr (.inr ⟨z', dr.str, hz, k _ _ (Same.refl _) (.str _)⟩)
          · rw [if_neg hz] at e0; cases e0
        | _ => cases e0⟩
    exact tK_mono (tK_O p1 h1) fun o H2 ⟨o', e2, i2, p2, eo, h2⟩ => by
      cases eo
      exact step o H2 ⟨e2, i2, p2, h2⟩⟩⟩
end
end PV

set_option Elab.async false
set_option linter.all false
set_option maxRecDepth 100000
set_option maxHeartbeats 4000000
namespace PV
open PySem PySem.Spec PyProof.Rows L2
def mCallB (g : List D → Option Val) (ms : En → R (List Val)) : ME := fun env => (ms env).bind (outn g)
section
variable {X : Cx} {C : Cc} {W : WX} {e : Expr} {es : List Expr} {ms : En → R (List Val)} {p pos : Pos} {x : Str} {id T : String} {g : List D → Option Val}
theorem callBK {rd : List V → Hp → VK → Prop} (hg : Opn (gd X) rd g) {σ : L2.St} {H : Hp} {Q : VK} (h : tE C (gd X) W (mCallB g ms) σ H Q) : tCB rd (tA C (gd X) W ms) σ H Q := by
  obtain ⟨env, q, h⟩ := h
  refine ⟨env, q, tK_mono (tK_A (.refl q) h) fun vs H1 ⟨rs, e1, _, p1, vr, h1⟩ => ?_⟩
  obtain ⟨ds, r, dr, eg, k⟩ := outn_ok p1 vr h1
  exact hg vs ds H1 Q r dr eg k
theorem b_callB (h : CO X (.builtin id) g) (hg : Gl X x) (hm : X.mg x = none) (hv : bootBuiltins x = some (.builtin id)) (ha : PA X (e :: es) (tA C (gd X) W ms)) (hn : x ≠ "__name__" := by decide) (hdb : (x == ("__debug__" : Str)) = false := by decide)
    (he : starEach (e :: es) X.env = (false, eval e X.env) :: starEach es X.env := by rfl) (hpl : (backTo pos (starEach es X.env)).any (·.1) = false := by rfl) : PE X (.Call (.Name x p) (e :: es) [] pos) (tE C (gd X) W (mCallB g ms)) := by
  obtain ⟨rd, h1, h2⟩ := h
  exact (pe_callB h1 hg hm hv ha hn hdb he hpl).imp fun _ _ _ k => callBK h2 k
theorem b_callTy (h : CO X (.type T) g) (hg : Gl X x) (hm : X.mg x = none) (hv : bootBuiltins x = some (.type T)) (ha : PA X (e :: es) (tA C (gd X) W ms)) (hn : x ≠ "__name__" := by decide) (hdb : (x == ("__debug__" : Str)) = false := by decide)
    (he : starEach (e :: es) X.env = (false, eval e X.env) :: starEach es X.env := by rfl) (hpl : (backTo pos (starEach es X.env)).any (·.1) = false := by rfl) : PE X (.Call (.Name x p) (e :: es) [] pos) (tE C (gd X) W (mCallB g ms)) := by
  obtain ⟨rd, h1, h2⟩ := h
  exact (pe_callTy h1 hg hm hv ha hn hdb he hpl).imp fun _ _ _ k => callBK h2 k
end
section
variable {X : Cx}
theorem CO.of1 {f : Value} {g : D → Option Val} {rd : V → Hp → VK → Prop} (h : CallR X f fun xs H Q => ∃ x, xs = [x] ∧ rd x H Q) (o : Op1 (gd X) rd g) : CO X f (fun ds => match ds with | [d] => g d | _ => none) :=
  ⟨_, h, fun xs ds H Q r hx e q => by
    cases hx with
    | nil => cases e
    | cons h t =>
      cases t with
      | nil => exact ⟨_, rfl, o _ _ H Q r h e q⟩
      | cons _ _ => cases e⟩
def g1 (g : D → Option Val) (ds : List D) : Option Val := match ds with
  | [d] => g d
  | _ => none
def gLenD : D → Option Val
  | .str z => if z.length ≤ sizeLine then some (.d (.int z.length)) else none
  | .list ds => some (.d (.int ds.length))
  | .tuple ds => some (.d (.int ds.length))
  | _ => none
theorem len_ok : CO X (.builtin "len") (g1 gLenD) := by
  refine CO.of1 (rd := fun x H Q => ∃ n, LenV X.K x H n ∧ Q (.int n) H) (fun pins s σ H xs us Q I r ⟨x, e, n, h, q⟩ => call_len pins s σ H xs us Q I r ⟨x, n, e, h, q⟩) fun x dx H Q r hx e q => ?_
  cases dx with
  | str z =>
    have e : (if z.length ≤ sizeLine then some (Val.d (.int z.length)) else none) = some r := e
    by_cases hz : z.length ≤ sizeLine
    · rw [if_pos hz] at e; cases e
      refine ⟨z.length, ?_, q _ H (Same.refl H) (.int _)⟩
      rw [hx.str]
      exact ⟨hz, rfl⟩
    · rw [if_neg hz] at e; cases e
  | list ds =>
    cases e
    obtain ⟨a, vs, rfl, h1, r1⟩ := hx.lst
    exact ⟨ds.length, .inl ⟨vs, h1, r1.length.symm⟩, q _ H (Same.refl H) (.int _)⟩
  | tuple ds =>
    cases e
    obtain ⟨a, vs, rfl, h1, r1⟩ := hx.tup
    exact ⟨ds.length, .inr ⟨vs, h1, r1.length.symm⟩, q _ H (Same.refl H) (.int _)⟩
  | _ => cases e
def gIntD : D → Option Val
  | .int i => some (.d (.int i))
  | .bool b => some (.d (.int (if b then 1 else 0)))
  | _ => none
theorem int_ok : CO X (.type "int") (g1 gIntD) := by
  refine CO.of1 (rd := fun x H Q => (∃ i, x = .int i ∧ Q (.int i) H) ∨ ∃ k, x = .bl k ∧ Q (.int (if k then 1 else 0)) H) (fun pins s σ H xs us Q I r ⟨x, e, h⟩ => call_int1 pins s σ H xs us Q I r ?_) fun x dx H Q r hx e q => ?_
  · subst e
    rcases h with ⟨i, rfl, h⟩ | ⟨i, rfl, h⟩
    · exact .inl ⟨i, rfl, h⟩
    · exact .inr ⟨i, rfl, h⟩
  · cases dx <;> cases e
    · exact .inr ⟨_, hx.bool, q _ H (Same.refl H) (.int _)⟩
    · exact .inl ⟨_, hx.int, q _ H (Same.refl H) (.int _)⟩
def gAbsD : D → Option Val
  | .int i => some (.d (.int (if i < 0 then -i else i)))
  | _ => none
theorem abs_ok : CO X (.builtin "abs") (g1 gAbsD) := by
  refine CO.of1 (rd := fun x H Q => ∃ i, x = .int i ∧ Q (.int (if i < 0 then -i else i)) H) (fun pins s σ H xs us Q I r ⟨x, e, i, h, q⟩ => call_abs pins s σ H xs us Q I r ⟨i, by rw [e, h], q⟩) fun x dx H Q r hx e q => ?_
  cases dx <;> cases e
  exact ⟨_, hx.int, q _ H (Same.refl H) (.int _)⟩
/-- list(x) of a list, a tuple: a new list -/
def gListD : D → Option Val
  | .list ds => some (.nw (.list ds))
  | .tuple ds => some (.nw (.list ds))
  | _ => none
theorem list_ok : CO X (.type "list") (g1 gListD) := by
  refine CO.of1 (rd := fun x H Q => ∃ p ys, x = .ref p ∧ (SqL X.K H p ys ∨ SqT X.K H p ys) ∧ ∀ l, H l = none → Q (.ref l) (upd H l (.lst ys))) (fun pins s σ H xs us Q I r ⟨x, e, p, ys, h, h2, q⟩ => call_list_of pins s σ H xs us Q I r ⟨p, ys, by rw [e, h], h2, q⟩) fun x dx H Q r hx e q => ?_
  cases dx <;> cases e
  · obtain ⟨a, vs, rfl, h1, r1⟩ := hx.lst
    exact ⟨a, vs, rfl, .inl h1, fun l hl => q _ _ (same_upd hl) (new_list hl r1)⟩
  · obtain ⟨a, vs, rfl, h1, r1⟩ := hx.tup
    exact ⟨a, vs, rfl, .inr h1, fun l hl => q _ _ (same_upd hl) (new_list hl r1)⟩
def gTupleD : D → Option Val
  | .list ds => some (.d (.tuple ds))
  | .tuple ds => some (.d (.tuple ds))
  | _ => none
/-- tuple(xs), the laid object known -/
theorem call_tupleU : CallR X (.type "tuple") (fun xs H Q => ∃ p ys, xs = [.ref p] ∧ ((SqL X.K H p ys ∧ ∀ l us, H l = none → Q (.ref l) (upd H l (.frz (tobj us) (.tup ys)))) ∨ (SqT X.K H p ys ∧ Q (.ref p) H))) := by
  rintro pins s σ H xs us Q I r ⟨p, ys, rfl, h⟩
  obtain ⟨u, rfl, rx⟩ := vals1 r
  cases rx
  rcases h with ⟨hq, q⟩ | ⟨hq, q⟩
  · obtain ⟨its, r', pl, hz⟩ := I.list hq
    have hlen := r'.length
    refine call_tuple_list pl.isList (fun h' kp => ?_) (by simp only [List.size_toArray]; omega)
    have I1 : Inv X pins σ H { s with heap := h' } := I.kept (t' := s.toks) kp
    exact ⟨.ref h'.objs.size, _, laidU I1 r' hz, rfl, q _ _ (I1.hok.fresh (Nat.le_refl _))⟩
  · obtain ⟨its, r', pl, hz⟩ := I.tuple hq
    exact call_tuple_same pl ⟨.ref p, H, I, rfl, q⟩
theorem tuple_ok : CO X (.type "tuple") (g1 gTupleD) := by
  refine CO.of1 (rd := fun x H Q => ∃ p ys, x = .ref p ∧ ((SqL X.K H p ys ∧ ∀ l us, H l = none → Q (.ref l) (upd H l (.frz (tobj us) (.tup ys)))) ∨ (SqT X.K H p ys ∧ Q (.ref p) H))) (fun pins s σ H xs us Q I r ⟨x, e, p, ys, h, h2⟩ => call_tupleU pins s σ H xs us Q I r ⟨p, ys, by rw [e, h], h2⟩) fun x dx H Q r hx e q => ?_
  cases dx <;> cases e
  · obtain ⟨a, vs, rfl, h1, r1⟩ := hx.lst
    exact ⟨a, vs, rfl, .inl ⟨h1, fun l us hl => q _ _ (same_upd hl) (new_tup hl r1)⟩⟩
  · obtain ⟨a, vs, rfl, h1, r1⟩ := hx.tupU
    exact ⟨a, vs, rfl, .inr ⟨h1.sq, q _ _ (Same.refl _) (.tup h1 r1)⟩⟩
def tyN : D → String
  | .none => "NoneType"
  | .bool _ => "bool"
  | .int _ => "int"
  | .str _ => "str"
  | .list _ => "list"
  | .tuple _ => "tuple"
  | .dict _ => "dict"
def isT (T n : String) : Bool := n == T || (T == "int" && n == "bool")
def gIsi (T : String) (d : D) : Option Val := if T ∈ ["int", "bool", "str", "tuple", "list", "dict"] then some (.d (.bool (isT T (tyN d)))) else none
theorem kit7 : ∀ T ∈ ["int", "bool", "str", "tuple", "list", "dict"], ∀ n ∈ ["NoneType", "bool", "int", "str", "list", "tuple", "dict"], kitB n T = some (isT T n) := by decide +kernel
theorem tyN_mem (d : D) : tyN d ∈ ["NoneType", "bool", "int", "str", "list", "tuple", "dict"] := by cases d <;> simp [tyN]
theorem SqT.tyx {K : PySem.W.Frag} {H : Hp} {a : Addr} {vs : List V} (h : SqT K H a vs) : TyX K H (.ref a) (.type "tuple") := by
  rcases h with (h | ⟨o, h⟩) | ⟨o, _, _, hk, hc, _⟩
  · exact .base (.tup h)
  · exact .fTuple h
  · exact .kTuple hk hc
theorem kit_dr {pins : List (Addr × Obj)} {σ : L2.St} {H : Hp} {s : Shared} {x : V} {u : Value} {d : D} (I : Inv X pins σ H s) (rx : RelV x u) (dr : Dr (gd X) H x d) : ∃ P : Heap → Prop, PySem.W.KitX X.K u (.type (tyN d)) P ∧ P s.heap ∧ u ≠ .builtin "__main__.__loader__#opaque" := by
  have dic : ∀ {a : Addr} {es : List DictEntry}, (H a = some (.ext (DictIs a es)) ∨ ∃ o, H a = some (.frz o (.ext (DictIs a es)))) → RelV (.ref a) u → ∃ P : Heap → Prop, PySem.W.KitX X.K u (.type "dict") P ∧ P s.heap ∧ u ≠ .builtin "__main__.__loader__#opaque" := fun {a es} h r => by
    cases (show u = Value.ref a from r)
    have : DictIs a es s.heap := by
      rcases h with h | ⟨o, h⟩
      · exact (show ObjOk X.prog X.w H s.heap a (.ext (DictIs a es)) from I.hok a _ h).1
      · exact (show ObjOk X.prog X.w H s.heap a (.frz o (.ext (DictIs a es))) from I.hok a _ h).2.1
    obtain ⟨o, ep, h1, h2, _⟩ := this
    exact ⟨_, PySem.W.kitx_dict, ⟨o, h1, h2.1⟩, fun z => nomatch z⟩
  rcases dr with h | ⟨a, rfl, o⟩
  · cases h with
    | non => exact kit_of I rx (.base .non)
    | bl b => exact kit_of I rx (.base (.bl b))
    | int i => exact kit_of I rx (.base (.int i))
    | str z => exact kit_of I rx (.base (.str z))
    | tup h r => exact kit_of I rx (SqT.tyx h.sq)
    | lst h r =>
      rcases h with ⟨o, h⟩ | ⟨o, its, n, h1, h2, _⟩
      · exact kit_of I rx (.base (.frz h))
      · cases (show u = Value.ref _ from rx)
        exact ⟨_, PySem.W.kitx_list, ⟨o, I.kIn _ _ h1, h2⟩, fun z => nomatch z⟩
    | dic h _ _ _ _ => exact dic (.inr ⟨_, h⟩) rx
  · cases d with
    | list ds => obtain ⟨vs, e, r⟩ := o; exact kit_of I rx (.base (.lst e))
    | dict kvs => obtain ⟨es, e, _⟩ := o; exact dic (.inl e) rx
    | _ => exact o.elim
def rIsiD (X : Cx) (T : String) : List V → Hp → VK → Prop := fun xs H Q => ∃ (x : V) (d : D), xs = [x, .ty T] ∧ Dr (gd X) H x d ∧ T ∈ ["int", "bool", "str", "tuple", "list", "dict"] ∧ Q (.bl (isT T (tyN d))) H
theorem call_isiD {T : String} : CallR X (.builtin "isinstance") (rIsiD X T) := by
  intro pins s σ H xs us Q I r h
  obtain ⟨x, d, rfl, dr, hT, q⟩ := h
  obtain ⟨u1, u2, rfl, r1, r2⟩ := vals2 r
  cases (show u2 = Value.type T from r2)
  obtain ⟨P, Z, p, hx⟩ := kit_dr I r1 dr
  exact PySem.W.kia_one Z I.kIn p (kit_ty (kit7 T hT _ (tyN_mem d))) hx fun tk => ⟨.bl _, H, I.tok tk, rfl, q⟩
end
section
variable {X : Cx} {C : Cc} {W : WX} {a : Expr} {m : ME} {p p2 pos : Pos} {xT : Str} {T : String}
theorem b_isi (ha : PE X a (tE C (gd X) W m)) (hg : Gl X "isinstance") (hm : X.mg "isinstance" = none) (hgT : Gl X xT) (hmT : X.mg xT = none) (hv : bootBuiltins xT = some (.type T)) (hn : xT ≠ "__name__" := by decide) (hd : (xT == ("__debug__" : Str)) = false := by decide)
    (he : starEach [a, .Name xT p2] X.env = (false, eval a X.env) :: starEach [.Name xT p2] X.env := by rfl) (he2 : starEach [.Name xT p2] X.env = (false, eval (.Name xT p2) X.env) :: starEach [] X.env := by rfl) (hpl : (backTo pos (starEach [.Name xT p2] X.env)).any (·.1) = false := by rfl) :
    PE X (.Call (.Name "isinstance" p) [a, .Name xT p2] [] pos) (tE C (gd X) W (mUn (gIsi T) m)) := by
  have hA : PA X [a, .Name xT p2] _ := pa_cons ha (pa_cons (pe_bltn hgT hmT hv (show RelV (.ty T) (.type T) from rfl) hn hd) pa_nil he2) he
  refine (pe_callB (call_isiD (T := T)) hg hm rfl hA (by decide) (by decide) he hpl).imp fun σ H Q ⟨env, q, h⟩ => ⟨env, q, tK_mono (tK_E (.refl q) h) fun v H1 ⟨r, e1, _, p1, vr, h1⟩ => ?_⟩
  obtain ⟨dx, ro, d1, eg, k⟩ := out1_ok p1 vr h1
  unfold gIsi at eg
  by_cases z : T ∈ ["int", "bool", "str", "tuple", "list", "dict"]
  · rw [if_pos z] at eg; cases eg
    exact ⟨v, dx, rfl, d1, z, k _ H1 (Same.refl _) (.bl _)⟩
  · rw [if_neg z] at eg; cases eg
end
end PV

set_option Elab.async false
set_option linter.all false
set_option maxRecDepth 100000
set_option maxHeartbeats 4000000
namespace RT
open PySem PySem.Spec PyProof.Rows PySem.Calls L2
section
variable {prog : Program} {w : World} {A : Around} {E : Value → Shared → Prop} {s : Shared}
theorem call_list_rev {it l : Addr} {items : Array Value} {Q : Value → Shared → Prop} (hh : A.handled = none) (hit : s.heap.IsRevIter it l ((items.size : Int) - 1)) (hl : s.heap.IsList l items) (hne : l ≠ it) (hn : items.size ≤ sizeLine)
    (hQ : ∀ (h' : Heap) (tk : Nat) (acc : Array Value) (c : Nat), (∀ b o, b ≠ it → s.heap.get? b = some o → h'.get? b = some o) → h'.get? s.heap.objs.size = some { cls := .type "list", dict := none, data := .seq acc c, slots := #[] } →
      ItemsOf (fun i v => items[items.size - 1 - i]? = some v) acc items.size → Q (.ref s.heap.objs.size) { s with heap := h', toks := tk }) :
    wpAny (model prog w) A (call (.type "list") [.ref it]) Q E s := by
  have W := (Walks.listRev (prog := prog) (w := w) (A := A.in1.in1) hh it l hne items).toS
  obtain ⟨oi, hoi, _⟩ := id hit
  obtain ⟨ol, hol, _⟩ := id hl
  have hSi : s.heap.objs.size ≠ it := Nat.ne_of_gt (Heap.lt_size hoi)
  have hSl : s.heap.objs.size ≠ l := Nat.ne_of_gt (Heap.lt_size hol)
  have hSf : s.heap.objs.size ∉ [it, l] := by simp only [List.mem_cons, List.not_mem_nil, or_false, not_or]; exact ⟨hSi, hSl⟩
  refine callType_codes (Q₁ := fun obj s₁ => obj = .ref s.heap.objs.size ∧ s₁ = { s with heap := s.heap.push { cls := .type "list", data := .seq #[] } }) F.called_list (F.typeCall_list_1 _) F.entry_list_init
    (code_list_new _ ⟨rfl, rfl⟩) fun obj s₁ h₁ => ?_
  obtain ⟨rfl, rfl⟩ := h₁
  have hS : (s.heap.push { cls := .type "list", data := .seq #[] }).get? s.heap.objs.size = some { cls := .type "list", data := .seq #[] } := Heap.get?_push_size _ rfl
  refine ⟨⟨_, hS, rfl⟩, F.args_list_init_2 _ _, ?_⟩
  show wpAny _ A.in1.in1 (do let old ← Builtin.List.listItems (.ref s.heap.objs.size); Builtin.List.listUpdate (.ref s.heap.objs.size) (fun _ => #[]); letGo old.toList.reverse; Builtin.List.listExtendWith (.ref s.heap.objs.size) (.ref it) .none) _ _ _
  refine wpAny_bind ?_
  unfold Builtin.List.listItems
  refine wpAny_bind (wpAny_seqItems hS rfl (wpAny_pure ?_))
  show wpAny _ A.in1.in1 (updateSeq s.heap.objs.size (fun _ => #[]) >>= fun _ => letGo (#[] : Array Value).toList.reverse >>= fun _ => Builtin.List.listExtendWith (.ref s.heap.objs.size) (.ref it) .none) _ _ _
  refine wpAny_bind (wpAny_updateSeq hS rfl ?_)
  have hS2 := Heap.get?_update_self (Obj.mapSeq (fun _ => (#[] : Array Value))) hS rfl
  refine wpAny_bind (wpAny_letGo ?_)
  unfold Builtin.List.listExtendWith
  have k2 : ∀ b o, s.heap.get? b = some o → ((s.heap.push { cls := .type "list", data := .seq #[] }).update s.heap.objs.size (Obj.mapSeq (fun _ => (#[] : Array Value)))).get? b = some o := fun b o e =>
    (Heap.get?_update_other _ _ (Ne.symm (Nat.ne_of_lt (Heap.lt_size e)))).trans (Heap.get?_push_of_some _ e)
  have hit2 := hit.at fun o e => k2 it o e
  have hl2 : ((s.heap.push { cls := .type "list", data := .seq #[] }).update s.heap.objs.size (Obj.mapSeq (fun _ => (#[] : Array Value)))).IsList l items := by
    obtain ⟨o, ho, r⟩ := id hl
    exact ⟨o, k2 l o ho, r⟩
  have hT := Heap.IsRevIter.typeIs (s := { s with heap := (s.heap.push { cls := .type "list", data := .seq #[] }).update s.heap.objs.size (Obj.mapSeq (fun _ => (#[] : Array Value))) }) hit2
  refine wpAny_bind (wpAny_typeOf hT ?_)
  have h1 : Builtin.List.listSameRef (.ref s.heap.objs.size) (.ref it) = false := by simp [Builtin.List.listSameRef, hSi]
  rw [if_neg (by rw [h1]; decide)]
  refine wpAny_bind (wpAny_pyIter_revIter (s := { s with heap := _ }) hit2 ?_)
  refine wpAny_bind (wpAny_holding ?_)
  unfold Builtin.List.listLengthHint
  refine wpAny_bind (wpAny_specialOf hT nolen_lri ?_)
  show wpAny _ A.in1.in1 (specialOf (Value.ref it) (Str.ofString "__length_hint__") >>= _) _ _ _
  refine wpAny_bind (wpAny_specialOf hT hint_lri ?_)
  generalize hid : ("list_reverseiterator.__length_hint__" : String) = id0
  wp_delta
  rw [show splitId id0 = some ("list_reverseiterator", "__length_hint__") from by subst hid; decide +kernel]
  subst hid
  refine wpAny_bind (wpAny_isInstance (b := true) hT (by rw [isSubtype_type]; kernel_rfl) ?_)
  refine wpAny_pure ?_
  rw [if_neg (by decide)]
  have e0 : ((items.size : Nat) : Int) - 1 - ((0 : Nat) : Int) = (items.size : Int) - 1 := by omega
  refine wpAny_pure ⟨plainId_quiet F.plain_extend_loop _, codeAny_extend_loopS W hn _ hSf _ items.size 0 _ _ _ rfl (Nat.zero_le _) ⟨Nat.zero_le _, by rw [e0]; exact hit2, hl2⟩ hS2 (ItemsOf.nil _) fun s' acc' c' hm hS' hacc => ?_⟩
  refine ⟨rfl, ?_⟩
  rw [Moved.eq_with hm]
  refine hQ s'.heap s'.toks acc' c' (fun b o hb e => hm.heap b o (fun hmem => ?_) (k2 b o e)) hS' hacc
  rcases List.mem_cons.mp hmem with e' | hmem
  · exact absurd (Heap.lt_size e) (by rw [e']; exact Nat.lt_irrefl _)
  · exact hb (List.mem_singleton.mp hmem)
end
end RT
namespace L2
open PySem PySem.Spec PyProof.Rows RT
/-- list(reversed(x)), x a list: a new list -/
def tListRev (K : PySem.W.Frag) (te : TE) : TE := fun σ H Q => te σ H fun v H1 => ∃ (a : Addr) (xs : List V), v = .ref a ∧ SqL K H1 a xs ∧ ∀ q, H1 q = none → Q (.ref q) (upd H1 q (.lst xs.reverse))
section
variable {X : Cx}
theorem pe_listRev {e : Expr} {te : TE} {p p2 pos pos2 : Pos} (hc : X.calm = true) (hg : Gl X "list") (hm : X.mg "list" = none) (hg2 : Gl X "reversed") (hm2 : X.mg "reversed" = none) (he : PE X e te)
    (hs : starEach [e] X.env = (false, eval e X.env) :: starEach [] X.env := by rfl)
    (hs2 : starEach [.Call (.Name "reversed" p2) [e] [] pos2] X.env = (false, eval (.Call (.Name "reversed" p2) [e] [] pos2) X.env) :: starEach [] X.env := by rfl) :
    PE X (.Call (.Name "list" p) [.Call (.Name "reversed" p2) [e] [] pos2] [] pos) (tListRev X.K te) := by
  refine ⟨fun pins s σ H Q I h => ?_⟩
  refine Call_ (ld_blt I hg hm boot_list (PyProof.Rows.callWith_type1 (args_cons (Call_ (ld_blt I hg2 hm2 PyProof.Rows.boot_reversed (PyProof.Rows.callWith_type1 (args_cons (thn (he.run pins s σ H _ I h) fun u s1 ⟨v, H1, I1, r1, q1⟩ => args_nil ?_) hs) hs rfl))) hs2) hs2 rfl))
  obtain ⟨a, xs, ev, hq, q⟩ := q1
  subst ev
  obtain rfl : u = Value.ref a := r1
  obtain ⟨its, rv, p', hz⟩ := I1.list hq
  refine call_reversed_list p'.isList (args_nil ?_)
  have k0 : ∀ b o, s1.heap.get? b = some o → (s1.heap.push (revObj a ((its.toArray.size : Int) - 1))).get? b = some o := fun b o e => Heap.get?_push_of_some _ e
  have I2 : Inv X pins σ H1 { s1 with heap := s1.heap.push (revObj a ((its.toArray.size : Int) - 1)) } := I1.kept (t' := s1.toks) k0
  obtain ⟨f0, f1, f2, f3, f4, f5⟩ := I1.fpOk (H' := H1) (b := s1.heap.objs.size) (Nat.le_refl _) (I1.hok.fresh (Nat.le_refl _))
  have hl := p'.isList
  obtain ⟨ol, hol, _⟩ := id hl
  have hne : a ≠ s1.heap.objs.size := Nat.ne_of_lt (Heap.lt_size hol)
  have hn : its.toArray.size ≤ sizeLine := by rw [List.size_toArray, ← rv.length]; exact hz
  refine call_list_rev (s := { s1 with heap := s1.heap.push (revObj a ((its.toArray.size : Int) - 1)) }) (I1.ok.hd hc) ⟨_, Heap.get?_push_size _ rfl, rfl, rfl⟩ (hl.push _) hne hn fun h' tk acc c hk hS hi => ?_
  have hsz : s1.heap.objs.size ≤ (s1.heap.push (revObj a ((its.toArray.size : Int) - 1))).objs.size := by rw [Heap.size_push]; omega
  refine ⟨.ref (s1.heap.push (revObj a ((its.toArray.size : Int) - 1))).objs.size, upd H1 (s1.heap.push (revObj a ((its.toArray.size : Int) - 1))).objs.size (.lst xs.reverse),
    I1.laid (t' := tk) (fun b o e => hk b o (Nat.ne_of_lt (Heap.lt_size e)) (k0 b o e)) hsz ?_, rfl, q _ (I1.hok.fresh hsz)⟩
  refine (show ObjOk X.prog X.w _ _ _ (.lst xs.reverse) from ⟨by rw [List.length_reverse]; exact hz, acc.toList, c, vals_rev rv hi, ?_⟩)
  rw [Array.toArray_toList]
  exact hS
end
end L2
namespace PV
open PySem PySem.Spec PyProof.Rows L2
def gRevD : D → Option Val
  | .list ds => some (.nw (.list ds.reverse))
  | _ => none
theorem Reps.reverse {G : Gd} {H : Hp} {vs : List V} {ds : List D} (h : Reps G H vs ds) : Reps G H vs.reverse ds.reverse := by
  induction vs generalizing ds with
  | nil => cases h; exact .nil
  | cons v vs ih =>
    cases h with
    | cons h t => rw [List.reverse_cons, List.reverse_cons]; exact Reps.append (ih t) (.cons h .nil)
section
variable {X : Cx} {C : Cc} {W : WX} {e : Expr} {m : ME} {p p2 pos pos2 : Pos}
theorem b_listRev (hc : X.calm = true) (hg : Gl X "list") (hm : X.mg "list" = none) (hg2 : Gl X "reversed") (hm2 : X.mg "reversed" = none) (he : PE X e (tE C (gd X) W m))
    (hs : starEach [e] X.env = (false, eval e X.env) :: starEach [] X.env := by rfl)
    (hs2 : starEach [.Call (.Name "reversed" p2) [e] [] pos2] X.env = (false, eval (.Call (.Name "reversed" p2) [e] [] pos2) X.env) :: starEach [] X.env := by rfl) :
    PE X (.Call (.Name "list" p) [.Call (.Name "reversed" p2) [e] [] pos2] [] pos) (tE C (gd X) W (mUn gRevD m)) :=
  (pe_listRev hc hg hm hg2 hm2 he hs hs2).imp fun σ H Q ⟨env, q, h⟩ => ⟨env, q, tK_mono (tK_E (.refl q) h) fun v H1 ⟨r, e1, _, p1, vr, h1⟩ => by
    obtain ⟨dx, ro, d1, eg, k⟩ := out1_ok p1 vr h1
    cases dx <;> cases eg
    obtain ⟨a, vs, rfl, s1, s2⟩ := d1.lst
    exact ⟨a, vs, rfl, s1, fun p hp => k _ _ (same_upd hp) (new_list hp (Reps.reverse s2))⟩⟩
end
end PV

set_option Elab.async false
set_option linter.all false
set_option maxRecDepth 100000
set_option maxHeartbeats 4000000
namespace PV
open PySem PySem.Spec PyProof.Rows L2

def mTup (ms : En → R (List Val)) : ME := fun env => (ms env).bind fun rs e => match frzs rs e with
  | some (ds, e2) => if ds.length ≤ sizeLine then .ok (.d (.tuple ds)) e2 else .stuck
  | none => .stuck
def mLst (ms : En → R (List Val)) : ME := fun env => (ms env).bind fun rs e => match frzs rs e with
  | some (ds, e2) => if ds.length ≤ sizeLine then .ok (.nw (.list ds)) e2 else .stuck
  | none => .stuck
section
variable {X : Cx} {C : Cc} {W : WX} {es : List Expr} {ms : En → R (List Val)} {pos : Pos}
theorem ValRels.atF {G : Gd} {H : Hp} {e : En} {σ : L2.St} {H' : Hp} {vs : List V} {rs : List Val} (h : ValRels G H e σ H' vs rs) : vs.length = rs.length ∧ ∀ (i : Nat) v r, vs[i]? = some v → rs[i]? = some r → ValRelF G H e σ H' v r :=
  ⟨h.at.1, fun i v r a b => .inl (h.at.2 i v r a b)⟩
/-- a display, the laid object known -/
def tTupU (t : TA) : TE := fun σ H Q => t σ H fun xs H1 => xs.length ≤ sizeLine ∧ ∀ p us, H1 p = none → Q (.ref p) (upd H1 p (.frz (tobj us) (.tup xs)))
theorem pe_tupU {t : TA} {x1} (h : PA X es t) : PE X (.Tuple es x1 pos) (tTupU t) :=
  ⟨fun pins s σ H Q I hq => wpAny_Tuple_spliced (thn (h.run pos pins s σ H _ I hq) fun us s1 ⟨xs, H1, I1, r, z, q⟩ => ⟨by rw [← r.length]; exact z, .ref s1.heap.objs.size, _, laidU I1 r z, rfl, q _ _ (I1.hok.fresh (Nat.le_refl _))⟩)⟩
theorem b_tup {x1} (h : PA X es (tA C (gd X) W ms)) : PE X (.Tuple es x1 pos) (tE C (gd X) W (mTup ms)) :=
  (pe_tupU (pa_gh h)).imp fun σ H Q ⟨env, q, h⟩ => ⟨env, q, tK_mono (tK_A (.refl q) h) fun vs H1 ⟨rs, e1, _, p1, vr, h1⟩ pins s I => by
    cases z : frzs rs e1 with
    | none => rw [z] at h1; exact h1.elim
    | some de =>
      obtain ⟨ds, e2⟩ := de
      rw [z] at h1
      dsimp only at h1
      obtain ⟨l, at_⟩ := vr.atF
      obtain ⟨H2, I2, p2, r2, _⟩ := frzs_ok q I p1 l at_ z
      by_cases hz : ds.length ≤ sizeLine
      · rw [if_pos hz] at h1
        exact ⟨H2, I2, by rw [r2.length]; exact hz, fun p us hp => h1 _ _ (p2.trans (.same p2.rel (same_upd hp))) (RV.rel (H := H2) (env := e2) (σ := σ) (new_tup hp r2))⟩
      · rw [if_neg hz] at h1; exact h1.elim⟩
theorem b_lst (h : PA X es (tA C (gd X) W ms)) : PE X (.List es pos) (tE C (gd X) W (mLst ms)) :=
  (pe_lst (pa_gh h)).imp fun σ H Q ⟨env, q, h⟩ => ⟨env, q, tK_mono (tK_A (.refl q) h) fun vs H1 ⟨rs, e1, _, p1, vr, h1⟩ pins s I => by
    cases z : frzs rs e1 with
    | none => rw [z] at h1; exact h1.elim
    | some de =>
      obtain ⟨ds, e2⟩ := de
      rw [z] at h1
      dsimp only at h1
      obtain ⟨l, at_⟩ := vr.atF
      obtain ⟨H2, I2, p2, r2, _⟩ := frzs_ok q I p1 l at_ z
      by_cases hz : ds.length ≤ sizeLine
      · rw [if_pos hz] at h1
        exact ⟨H2, I2, by rw [r2.length]; exact hz, fun p hp => h1 _ _ (p2.trans (.same p2.rel (same_upd hp))) ((RV.rel (H := H2) (env := e2) (σ := σ) (new_list hp r2)).anti p2.there)⟩
      · rw [if_neg hz] at h1; exact h1.elim⟩
end

section
variable {G : Gd} {C : Cc} {env e1 : En} {σ : L2.St} {H H1 : Hp} {i : Nat} {a : Addr} {b : Bool} {d d' : D} {o : HO}
theorem Own.kpw (h : Own G H1 a d) : Kp H1 (upd H1 a o) := by
  obtain ⟨o', e', _, n1, n2⟩ := h.obj
  exact ⟨fun c xs q => by rw [upd_ne fun z => by rw [z, e'] at q; cases q; exact n1 xs rfl]; exact q, fun c ob u q => by rw [upd_ne fun z => by rw [z, e'] at q; cases q; exact n2 ob u rfl]; exact q⟩
theorem heldW {s : Slot} {k : Nat} {c : Addr} (h : Held (e1.set i (.ow b d')) σ k c) (hi : e1[i]? = some (.ow b d)) : Held e1 σ k c := by
  obtain ⟨⟨s', x, h1, h2⟩, h3⟩ := h
  by_cases z : k = i
  · subst z; exact ⟨⟨_, d, hi, rfl⟩, h3⟩
  · rw [List.getElem?_set_ne (Ne.symm z)] at h1; exact ⟨⟨s', x, h1, h2⟩, h3⟩
theorem PostE.wr (p : PostE G C env σ H e1 H1) (hi : e1[i]? = some (.ow b d)) (hs : σ[i]? = some (some (.ref a))) (ow' : Own G (upd H1 a o) a d') : PostE G C env σ H (e1.set i (.ow b d')) (upd H1 a o) := by
  have lt : i < e1.length := (List.getElem?_eq_some_iff.mp hi).1
  have me : Held e1 σ i a := ⟨⟨_, d, hi, rfl⟩, hs⟩
  have own : Own G H1 a d := by
    obtain ⟨a', e, q⟩ := (p.rel.slot i _ hi).own rfl
    rw [hs] at e; cases e; exact q
  have kp : Kp H1 (upd H1 a o) := own.kpw
  obtain ⟨o', eo, nt, _, _⟩ := own.obj
  have ne : ∀ k, k ≠ i → (e1.set i (.ow b d'))[k]? = e1[k]? := fun k z => List.getElem?_set_ne (Ne.symm z)
  have mut_ : MutAt env σ a ∨ H a = none := p.mutb a ⟨i, b, d, hi, hs⟩
  have rel : Rel G C (e1.set i (.ow b d')) σ (upd H1 a o) := {
    len := by rw [List.length_set]; exact p.rel.len
    slot := fun k s e => by
      by_cases z : k = i
      · subst z
        rw [List.getElem?_set_self lt] at e
        cases e
        exact ⟨a, hs, ow'⟩
      · rw [ne k z] at e
        have h := p.rel.slot k s e
        have oth : ∀ {c x}, Held e1 σ k c → Own G H1 c x → Own G (upd H1 a o) c x := fun {c x} hh q => q.mono kp (upd_ne fun w => z (p.rel.inj k i a (w ▸ hh) me))
        cases s with
        | un => trivial
        | xc c => exact h.elim
        | sh x => obtain ⟨v, e, q⟩ := h; exact ⟨v, e, q.mono kp⟩
        | ow b' x => obtain ⟨b'', e', q⟩ := h; exact ⟨b'', e', oth ⟨⟨_, x, e, rfl⟩, e'⟩ q⟩
        | lk b' x => obtain ⟨b'', e', q⟩ := h; exact ⟨b'', e', oth ⟨⟨_, x, e, rfl⟩, e'⟩ q⟩
    inj := fun k l c h1 h2 => p.rel.inj k l c (heldW (s := .un) h1 hi) (heldW (s := .un) h2 hi)
    tab := fun P hP => by
      obtain ⟨ps, h, t⟩ := p.rel.tab P hP
      refine ⟨ps, ?_, t⟩
      rw [upd_ne]
      · exact h
      · intro z
        rw [z, eo] at h
        cases h
        exact nt ps rfl
    new := fun k c ⟨x, hx⟩ h => by
      by_cases z : k = i
      · subst z
        rw [List.getElem?_set_self lt] at hx
        rcases hx with hx | hx <;> cases hx
        exact p.rel.new k c ⟨d, .inl hi⟩ h
      · rw [ne k z] at hx
        exact p.rel.new k c ⟨x, hx⟩ h
    old := fun c h => by
      by_cases z : c = a
      · rw [z, upd_same]; simp
      · rw [upd_ne z]; exact p.rel.old c h }
  exact {
    rel := rel
    keep := fun c w h ht nm => by
      have z : c ≠ a := fun z => by
        subst z
        rcases mut_ with m | m
        · exact nm m
        · rw [h] at m; cases m
      rw [upd_ne z]
      exact p.keep c w h ht nm
    there := fun c h => by
      by_cases z : c = a
      · rw [z, upd_same]; simp
      · rw [upd_ne z]; exact p.there c h
    mutb := fun c ⟨k, bb, x, h1, h2⟩ => by
      by_cases z : k = i
      · subst z; exact p.mutb c ⟨k, b, d, hi, h2⟩
      · rw [ne k z] at h1; exact p.mutb c ⟨k, bb, x, h1, h2⟩
    fixL := fun k bb x h => by
      obtain ⟨h1, h2⟩ := p.fixL k bb x h
      have z : k ≠ i := fun z => by subst z; rw [hi] at h1; cases h1
      exact ⟨by rw [ne k z]; exact h1, h2⟩
    fixO := fun k x h => by
      obtain ⟨⟨x', h1⟩, h2⟩ := p.fixO k x h
      by_cases z : k = i
      · subst z
        rw [hi] at h1; cases h1
        exact ⟨⟨d', List.getElem?_set_self lt⟩, h2⟩
      · exact ⟨⟨x', by rw [ne k z]; exact h1⟩, h2⟩
    sub := fun k c h => p.sub k c (heldW (s := .un) h hi) }
end

/-- a method: of the object's data, the arguments' data: the answer, the data behind -/
abbrev MG := D → List D → Option (D × D)
def tyV' (G : Gd) (T : String) (x : V) (H : Hp) : Prop := ∃ d, Dr G H x d ∧ (∃ z, d = .list z ∧ T = "list" ∨ (∃ z, d = .dict z ∧ T = "dict") ∨ (∃ z, d = .str z ∧ T = "str") ∨ ∃ z, d = .tuple z ∧ T = "tuple")
theorem ty_dr {X : Cx} {T : String} : TyOk X T (tyV' (gd X) T) := by
  intro pins σ H s x v I r ⟨d, dr, z, h⟩
  rcases h with ⟨rfl, rfl⟩ | ⟨z, rfl, rfl⟩ | ⟨z, rfl, rfl⟩ | ⟨z, rfl, rfl⟩
  · obtain ⟨a, vs, rfl, h1, _⟩ := dr.lst
    cases r
    obtain ⟨its, _, pl, _⟩ := I.list h1
    refine ⟨pl.isList.typeIs, fun a e => ?_⟩
    cases e
    obtain ⟨o, n, e, c, hd, _⟩ := pl
    exact ⟨o, e, hd⟩
  · have : ∃ a es, x = .ref a ∧ DictIs a es s.heap := by
      rcases dr with h | ⟨a, rfl, es, h, _⟩
      · cases h with
        | dic h _ _ _ _ => exact ⟨_, _, rfl, (show ObjOk X.prog X.w H s.heap _ (.frz _ (.ext (DictIs _ _))) from I.hok _ _ h).2.1⟩
      · exact ⟨a, es, rfl, (show ObjOk X.prog X.w H s.heap a (.ext (DictIs a es)) from I.hok a _ h).1⟩
    obtain ⟨a, es, rfl, o, ep, h1, h2, _⟩ := this
    cases r
    refine ⟨⟨o, h1, h2.1⟩, fun b e => ?_⟩
    cases e
    exact ⟨o, h1, h2.2.1⟩
  · rw [dr.str] at r
    obtain ⟨t, rfl⟩ := r
    exact ⟨typeIs_str s z t, fun _ e => nomatch e⟩
  · obtain ⟨a, vs, rfl, h1, _⟩ := dr.tupU
    cases r
    have : ∃ o, s.heap.get? a = some o ∧ o.cls = .type "tuple" ∧ o.dict = none := by
      rcases h1 with ⟨o, h, hd⟩ | ⟨o, its, n, h, hc, hd, _⟩
      · obtain ⟨e, _, its, _, o', e', hc, _⟩ := (show ObjOk X.prog X.w H s.heap a (.frz o (.tup vs)) from I.hok a _ h)
        rw [e] at e'; cases e'
        exact ⟨o, e, hc, hd⟩
      · exact ⟨o, I.kIn _ _ h, hc, hd⟩
    obtain ⟨o, h1, h2, h3⟩ := this
    refine ⟨⟨o, h1, h2⟩, fun b e => ?_⟩
    cases e
    exact ⟨o, h1, h3⟩
/-- the rule of a method that changes its object -/
def MO' (X : Cx) (id : String) (g : MG) : Prop := ∃ rd : V → List V → Hp → VK → Prop, MtR X id rd ∧ ∀ (a : Addr) (d : D) (vs : List V) (ds : List D) (H : Hp) (Q : VK) (x d' : D), Own (gd X) H a d → Reps (gd X) H vs ds → g d ds = some (x, d') →
  (∀ v o, Own (gd X) (upd H a o) a d' → Rep (gd X) (upd H a o) v x → Q v (upd H a o)) → rd (.ref a) vs H Q
def tnm : D → String
  | .list _ => "list"
  | .dict _ => "dict"
  | _ => ""
def mMut (i : Nat) (T : String) (g : MG) (ms : En → R (List Val)) : ME := fun env => match env[i]? with
  | some (.ow _ d0) => if tnm d0 = T then (ms env).bind fun rs e1 => match frzs rs e1 with
      | some (ds, e2) => match e2[i]? with
        | some (.ow b d) => match g d ds with
          | some (x, d') => .ok (.d x) (e2.set i (.ow b d'))
          | none => .stuck
        | _ => .stuck
      | none => .stuck
    else .stuck
  | _ => .stuck
theorem tnm_ty {G : Gd} {H : Hp} {a : Addr} {d : D} {T : String} (o : Own G H a d) (h : tnm d = T) : tyV' G T (.ref a) H := by
  refine ⟨d, .inr ⟨a, rfl, o⟩, ?_⟩
  cases d with
  | list z => exact ⟨z, .inl ⟨rfl, h.symm⟩⟩
  | dict z => exact ⟨[], .inr (.inl ⟨z, rfl, h.symm⟩)⟩
  | _ => exact o.elim
section
variable {X : Cx} {C : Cc} {W : WX} {e o : Expr} {es : List Expr} {ms : En → R (List Val)} {apos cpos : Pos} {i : Nat} {T id : String} {g : MG} {name : Str}
theorem mutK {rd : V → List V → Hp → VK → Prop} (hr : ∀ (a : Addr) (d : D) (vs : List V) (ds : List D) (H : Hp) (Q : VK) (x d' : D), Own (gd X) H a d → Reps (gd X) H vs ds → g d ds = some (x, d') →
  (∀ v o, Own (gd X) (upd H a o) a d' → Rep (gd X) (upd H a o) v x → Q v (upd H a o)) → rd (.ref a) vs H Q) {σ : L2.St} {H : Hp} {Q : VK} (h : tE C (gd X) W (mMut i T g ms) σ H Q) :
    ∃ v, σ[i]? = some (some v) ∧ tyV' (gd X) T v H ∧ tA C (gd X) W ms σ H fun xs H2 => Gh X σ (fun H3 => rd v xs H3 Q) H2 := by
  obtain ⟨env, q, h⟩ := h
  unfold mMut at h
  cases z : env[i]? with
  | none => rw [z] at h; exact h.elim
  | some s =>
    rw [z] at h
    cases s with
    | ow b0 d0 =>
      dsimp only at h
      by_cases ht : tnm d0 = T
      · rw [if_pos ht] at h
        obtain ⟨a, e1, o1⟩ := (q.slot i _ z).own rfl
        refine ⟨_, e1, tnm_ty o1 ht, env, q, tK_mono (tK_A (.refl q) h) fun vs H1 ⟨rs, en1, _, p1, vr, h1⟩ pins s I => ?_⟩
        cases zf : frzs rs en1 with
        | none => rw [zf] at h1; exact h1.elim
        | some de =>
          obtain ⟨ds, en2⟩ := de
          rw [zf] at h1
          dsimp only at h1
          obtain ⟨l, at_⟩ := vr.atF
          obtain ⟨H2, I2, p2, r2, _⟩ := frzs_ok q I p1 l at_ zf
          refine ⟨H2, I2, ?_⟩
          cases zs : en2[i]? with
          | none => rw [zs] at h1; exact h1.elim
          | some s2 =>
            rw [zs] at h1
            cases s2 with
            | ow b d =>
              dsimp only at h1
              obtain ⟨a', e2, o2⟩ := (p2.rel.slot i _ zs).own rfl
              rw [e1] at e2
              cases e2
              cases zg : g d ds with
              | none => rw [zg] at h1; exact h1.elim
              | some xd =>
                obtain ⟨x, d'⟩ := xd
                rw [zg] at h1
                exact hr a d vs ds H2 Q x d' o2 r2 zg fun v o ow' rx => h1 v _ (p2.wr zs e1 ow') rx
            | _ => exact h1.elim
      · rw [if_neg ht] at h; exact h.elim
    | _ => exact h.elim
theorem b_mut0 (hm : MO' X id g) (pa : PlainAttrs T) (slot : PySem.Slot T name id) (hty : typeOf (.builtin id) = pure (.type "method_descriptor")) (ho : PE X o (tVar i))
    (hbase : attributeBase o name X.env (eval o X.env) = eval o X.env := by rfl) (hline : (apos.endLine == cpos.line) = true := by rfl) : PE X (.Call (.Attribute o name apos) [] [] cpos) (tE C (gd X) W (mMut i T g aNil)) := by
  obtain ⟨rd, h1, h2⟩ := hm
  refine (pe_mG0 ty_dr pa slot hty h1 ho hbase hline).imp fun σ H Q ⟨env, q, h⟩ => ?_
  unfold mMut at h
  cases z : env[i]? with
  | none => rw [z] at h; exact h.elim
  | some s =>
    rw [z] at h
    cases s with
    | ow b0 d0 =>
      dsimp only at h
      by_cases ht : tnm d0 = T
      · rw [if_pos ht] at h
        obtain ⟨a, e1, o1⟩ := (q.slot i _ z).own rfl
        refine ⟨_, e1, tnm_ty o1 ht, ?_⟩
        have h : tK C (gd X) W (ValRel (gd X)) env σ H (match env[i]? with
          | some (.ow b d) => match g d [] with
            | some (x, d') => R.ok (.d x) (env.set i (.ow b d'))
            | none => .stuck
          | _ => .stuck) Q := h
        rw [z] at h
        dsimp only at h
        cases zg : g d0 [] with
        | none => rw [zg] at h; exact h.elim
        | some xd =>
          obtain ⟨x, d'⟩ := xd
          rw [zg] at h
          exact h2 a d0 [] [] H Q x d' o1 .nil zg fun v o ow' rx => h v _ ((PostE.refl q).wr z e1 ow') rx
      · rw [if_neg ht] at h; exact h.elim
    | _ => exact h.elim
theorem b_mut (hm : MO' X id g) (pa : PlainAttrs T) (slot : PySem.Slot T name id) (hty : typeOf (.builtin id) = pure (.type "method_descriptor")) (ho : PE X o (tVar i)) (ha : PA X (e :: es) (tA C (gd X) W ms))
    (hbase : attributeBase o name X.env (eval o X.env) = eval o X.env := by rfl)
    (hfew : ((backTo cpos (starEach (e :: es) X.env)).all (fun x => !x.1) && (backToKw cpos (keywordEach [] X.env)).all (fun x => x.1.isSome)
      && decide ((e :: es).length + ([] : List Keyword).length + (if ([] : List Keyword).isEmpty then 0 else 1) < 30)) = true := by rfl)
    (hline : (apos.endLine == cpos.line) = true := by rfl) (hs : starEach (e :: es) X.env = (false, eval e X.env) :: starEach es X.env := by rfl) (hplain : (backTo cpos (starEach es X.env)).any (·.1) = false := by rfl) :
    PE X (.Call (.Attribute o name apos) (e :: es) [] cpos) (tE C (gd X) W (mMut i T g ms)) := by
  obtain ⟨rd, h1, h2⟩ := hm
  refine (pe_mG ty_dr pa slot hty h1 ho (pa_gh ha) hbase hfew hline hs hplain).imp fun σ H Q h => ?_
  obtain ⟨v, e, ty, k⟩ := mutK h2 h
  exact ⟨v, e, ty, k⟩
end
def gAppend : MG
  | .list ds, [x] => if ds.length < sizeLine then some (.none, .list (ds ++ [x])) else none
  | _, _ => none
def gPop : MG
  | .list ds, [] => match ds.getLast? with
    | some x => some (x, .list ds.dropLast)
    | none => none
  | .list ds, [.int i] => if -(2 ^ 63) ≤ i ∧ i < 2 ^ 63 then match ixN ds.length i with
    | some k => match ds[k]? with
      | some x => some (x, .list (ds.eraseIdx k))
      | none => none
    | none => none else none
  | _, _ => none
def gInsert : MG
  | .list ds, [.int i, x] => if ds.length < sizeLine ∧ 0 ≤ i ∧ i < 2 ^ 63 then some (.none, .list (ds.take i.toNat ++ [x] ++ ds.drop i.toNat)) else none
  | _, _ => none
theorem Reps.dropLast {G : Gd} {H : Hp} {vs : List V} {ds : List D} (h : Reps G H vs ds) : Reps G H vs.dropLast ds.dropLast := by
  rw [List.dropLast_eq_take, List.dropLast_eq_take, h.length]
  exact Reps.take _ h
theorem Reps.eraseIdx {G : Gd} {H : Hp} : ∀ {vs : List V} {ds : List D} (k : Nat), Reps G H vs ds → Reps G H (vs.eraseIdx k) (ds.eraseIdx k)
  | _, _, _, .nil => .nil
  | _, _, 0, .cons _ t => t
  | _, _, k + 1, .cons h t => .cons h (Reps.eraseIdx k t)
theorem Reps.set {G : Gd} {H : Hp} {v : V} {d : D} (hv : Rep G H v d) : ∀ {vs : List V} {ds : List D} (k : Nat), Reps G H vs ds → Reps G H (vs.set k v) (ds.set k d)
  | _, _, _, .nil => .nil
  | _, _, 0, .cons _ t => .cons hv t
  | _, _, k + 1, .cons h t => .cons h (Reps.set hv k t)
section
variable {X : Cx}
theorem own_w {G : Gd} {H : Hp} {a : Addr} {vs : List V} {ds ds0 : List D} (o : Own G H a (.list ds0)) (r : Reps G H vs ds) : Own G (upd H a (.lst vs)) a (.list ds) := ⟨vs, upd_same, r.mono o.kpw⟩
theorem append_ok : MO' X "list.append" gAppend := ⟨_, mt_append, fun a d vs ds H Q x d' o r e q => by
  cases d with
  | list xs =>
    cases r with
    | nil => cases e
    | cons h t =>
      cases t with
      | cons _ _ => cases e
      | nil =>
        rename_i v y
        have e : (if xs.length < sizeLine then some (PyData.none, PyData.list (xs ++ [y])) else none) = some (x, d') := e
        by_cases z : xs.length < sizeLine
        · rw [if_pos z] at e; cases e
          obtain ⟨ws, hw, rw_⟩ := id o
          exact ⟨a, ws, v, rfl, rfl, hw, by rw [rw_.length]; exact z, q .non _ (own_w o (Reps.append rw_ (.cons h .nil))) .non⟩
        · rw [if_neg z] at e; cases e
  | _ => cases e⟩
theorem pop_ok : MO' X "list.pop" gPop := ⟨_, MtR.or mt_pop mt_popAt, fun a d vs ds H Q x d' o r e q => by
  cases d with
  | list xs =>
    obtain ⟨ws, hw, rw_⟩ := id o
    cases r with
    | nil =>
      have e : (match xs.getLast? with | some x => some (x, PyData.list xs.dropLast) | none => none) = some (x, d') := e
      cases z : xs.getLast? with
      | none => rw [z] at e; cases e
      | some y =>
        rw [z] at e; cases e
        rw [List.getLast?_eq_getElem?] at z
        obtain ⟨v, hv, rv⟩ := rw_.getD z
        exact .inl ⟨a, ws, v, rfl, rfl, hw, by rw [rw_.length]; exact hv, q v _ (own_w o (Reps.dropLast rw_)) (rv.mono o.kpw)⟩
    | cons h t =>
      cases t with
      | cons _ _ => cases h <;> cases e
      | nil =>
        cases h with
        | int i =>
          have e : (if -(2 ^ 63) ≤ i ∧ i < 2 ^ 63 then match ixN xs.length i with | some k => (match xs[k]? with | some x => some (x, PyData.list (xs.eraseIdx k)) | none => none) | none => none else none) = some (x, d') := e
          by_cases zi : -(2 ^ 63) ≤ i ∧ i < 2 ^ 63
          case neg => rw [if_neg zi] at e; cases e
          rw [if_pos zi] at e
          cases z : ixN xs.length i with
          | none => rw [z] at e; cases e
          | some k =>
            rw [z] at e
            dsimp only at e
            cases zk : xs[k]? with
            | none => rw [zk] at e; cases e
            | some y =>
              rw [zk] at e; cases e
              obtain ⟨v, hv, rv⟩ := rw_.getD zk
              obtain ⟨h1, h2, h3, h4⟩ := ixN_seq z
              exact .inr ⟨a, ws, i, k, v, rfl, rfl, hw, zi.1, zi.2, by rw [rw_.length]; exact h1, hv, q v _ (own_w o (Reps.eraseIdx k rw_)) (rv.mono o.kpw)⟩
        | _ => cases e
  | _ => cases e⟩
theorem insert_ok : MO' X "list.insert" gInsert := ⟨_, mt_insert, fun a d vs ds H Q x d' o r e q => by
  cases d with
  | list xs =>
    obtain ⟨ws, hw, rw_⟩ := id o
    cases r with
    | nil => cases e
    | cons h t =>
      cases t with
      | nil => cases h <;> cases e
      | cons h2 t2 =>
        cases t2 with
        | cons _ _ => cases h <;> cases e
        | nil =>
          cases h with
          | int i =>
            rename_i v y
            have e : (if xs.length < sizeLine ∧ 0 ≤ i ∧ i < 2 ^ 63 then some (PyData.none, PyData.list (xs.take i.toNat ++ [y] ++ xs.drop i.toNat)) else none) = some (x, d') := e
            by_cases z : xs.length < sizeLine ∧ 0 ≤ i ∧ i < 2 ^ 63
            · rw [if_pos z] at e; cases e
              exact ⟨a, ws, i, v, rfl, rfl, hw, by rw [rw_.length]; exact z.1, z.2.1, z.2.2, q .non _ (own_w o (Reps.append (Reps.append (Reps.take _ rw_) (.cons h2 .nil)) (Reps.drop _ rw_))) .non⟩
            · rw [if_neg z] at e; cases e
          | _ => cases e
  | _ => cases e⟩
end
end PV

set_option Elab.async false
set_option linter.all false
set_option maxRecDepth 100000
set_option maxHeartbeats 4000000
namespace PVD
open PySem PySem.Spec PyProof.Rows L2
def isTupK : NestedKey → Bool
  | .tup _ => true
  | _ => false
def EK (h : Heap) (w : World) (e : DictEntry) (k : NestedKey) : Prop := NestedIs h k e.key ∧ e.hash = k.hash w
theorem nodup_ix' {α : Type} {l : List α} (n : l.Nodup) {i j : Nat} {x : α} (a : l[i]? = some x) (b : l[j]? = some x) : i = j := by
  obtain ⟨h1, e1⟩ := List.getElem?_eq_some_iff.mp a
  obtain ⟨h2, e2⟩ := List.getElem?_eq_some_iff.mp b
  exact (List.getElem_inj n).mp (e1.trans e2.symm)
theorem pairedGet {α β : Type} {F : α → β → Prop} : ∀ {l : List α} {m : List β} {j : Nat} {a : α}, Paired F l m → l[j]? = some a → ∃ b, m[j]? = some b ∧ F a b
  | _, _, 0, _, .cons h _, e => by cases e; exact ⟨_, rfl, h⟩
  | _, _, j + 1, _, .cons _ t, e => by simpa using pairedGet t (by simpa using e)
  | _, _, _, _, .nil, e => by simp at e
section
variable {P : Program} {w : World} {A : Around} {E : Value → Shared → Prop} {s : Shared}
theorem tup_xs : ∀ {es : List DictEntry} {keys : List NestedKey}, Paired (EK s.heap w) es keys → (∀ k ∈ keys, isTupK k = true ∧ k.depth ≤ 8) →
    ∃ xs : List (NestedKey × Addr × Value), es = xs.map (entryOfKey (nestedKind P w)) ∧ xs.map (·.1) = keys ∧ ∀ x ∈ xs, (nestedKind P w).is s.heap x.1 x.2.1
  | _, _, .nil, _ => ⟨[], rfl, rfl, fun x h => by simp at h⟩
  | e :: es, k :: ks, .cons h t, hk => by
    obtain ⟨xs, h1, h2, h3⟩ := tup_xs t fun k' m => hk k' (List.mem_cons_of_mem _ m)
    obtain ⟨hash, key, val⟩ := e
    obtain ⟨n, eh⟩ := h
    obtain ⟨tk, dk⟩ := hk k List.mem_cons_self
    cases n with
    | @tup a o vs n ks e1 e2 e3 e4 =>
      refine ⟨(.tup ks, a, val) :: xs, ?_, by rw [List.map_cons, h2], fun x m => ?_⟩
      · rw [List.map_cons, ← h1]
        show _ :: es = (⟨NestedKey.hash w (.tup ks), .ref a, val⟩ : DictEntry) :: es
        have eh' : hash = NestedKey.hash w (.tup ks) := eh
        rw [eh']
      · rcases List.mem_cons.mp m with rfl | m
        · exact ⟨.tup e1 e2 e3 e4, dk⟩
        · exact h3 x m
    | _ => cases tk
def leafOf : NestedKey → Leaf
  | .none => .none
  | .num i => .num i
  | .text x => .text x
  | .tup _ => .none
theorem leafOf_key {k : NestedKey} (h : isTupK k = false) : (leafOf k).key = k := by cases k <;> first | rfl | cases h
theorem leaf_is {h : Heap} {k : NestedKey} {v : Value} (hk : isTupK k = false) (n : NestedIs h k v) : Leaf.isOf (leafOf k) v = true := by
  cases n with
  | none => rfl
  | bool q => exact decide_eq_true q.symm
  | int i t => exact decide_eq_true rfl
  | text x t => exact (by simp [leafOf, Leaf.isOf, Value.isStrOf])
  | tup _ _ _ _ => cases hk
theorem find_any {d : Addr} {o : Obj} {es : List DictEntry} {ep : Nat} {keys : List NestedKey} {k : NestedKey} {u : Value} {Q : Option Nat → Shared → Prop} (ho : s.heap.get? d = some o) (hd : o.data = .dict es.toArray ep)
    (hp : Paired (EK s.heap w) es keys) (hkd : ∀ k' ∈ keys, k'.depth ≤ 8) (nd : keys.Nodup) (hk : NestedIs s.heap k u) (hdk : k.depth ≤ 8) (sort : ∃ b, isTupK k = b ∧ ∀ k' ∈ keys, isTupK k' = b) (hu : A.units + 8 < cLine)
    (h : Q (keys.findIdx? (fun k' => decide (k' = k))) s) : wpAny (model P w) A (dictFind d u (k.hash w)) Q E s := by
  obtain ⟨b, hb, hs⟩ := sort
  cases b with
  | true =>
    obtain ⟨xs, e1, e2, e3⟩ := tup_xs (P := P) hp fun k' m => ⟨hs k' m, hkd k' m⟩
    cases hk with
    | @tup a ob vs n ks q1 q2 q3 q4 =>
      refine wpAny_dictFind_heap (knd := nestedKind P w) (k := .tup ks) hu ⟨.tup q1 q2 q3 q4, hdk⟩ ho hd (xs := xs) e1 e3 (by rw [e2]; exact nd) (fun hno => ?_) fun j p hj => ?_
      · have : keys.findIdx? (fun k' => decide (k' = NestedKey.tup ks)) = none := by
          rw [List.findIdx?_eq_none_iff]
          intro k' m
          rw [← e2] at m
          obtain ⟨x, mx, rfl⟩ := List.mem_map.mp m
          obtain ⟨j, hj⟩ := List.getElem?_of_mem mx
          refine decide_eq_false fun z => hno j x.2 ?_
          rw [hj]
          obtain ⟨x1, x2⟩ := x
          cases z
          rfl
        rw [this] at h
        exact h
      · have : keys.findIdx? (fun k' => decide (k' = NestedKey.tup ks)) = some j := by
          rw [List.findIdx?_eq_some_iff_getElem]
          have hj' : keys[j]? = some (.tup ks) := by rw [← e2, List.getElem?_map, hj] <;> rfl
          obtain ⟨lt, ej⟩ := List.getElem?_eq_some_iff.mp hj'
          refine ⟨lt, decide_eq_true ej, fun i hi => ?_⟩
          simp only [decide_eq_true_eq]
          intro z
          have : i = j := nodup_ix' nd (by rw [List.getElem?_eq_getElem (by omega), z]) hj'
          omega
        rw [this] at h
        exact h
    | _ => cases hb
  | false =>
    have kd : ∀ e ∈ es.toArray, ∃ l : Leaf, Leaf.isOf l e.key = true ∧ e.hash = l.key.hash w := fun e m => by
      have m' : e ∈ es := by simpa using m
      obtain ⟨j, hj⟩ := List.getElem?_of_mem m'
      obtain ⟨k', hk', ek⟩ := pairedGet hp hj
      have mk := List.mem_of_getElem? hk'
      exact ⟨leafOf k', leaf_is (hs k' mk) ek.1, by rw [leafOf_key (hs k' mk)]; exact ek.2⟩
    have key := wpAny_dictFind_of (prog := P) (w := w) (A := A) (E := E) (s := s) (knd := leafKind P w) (k := leafOf k) (key := u) (Q := Q) (leaf_is hb hk) ho hd kd
    have eh : (leafKind P w).hash (leafOf k) = k.hash w := by
      show (leafOf k).key.hash w = _
      rw [leafOf_key hb]
    rw [eh] at key
    refine key ?_
    have : (es.toArray.findIdx? fun e => (leafKind P w).is (leafOf k) e.key) = keys.findIdx? (fun k' => decide (k' = k)) := by
      rw [List.findIdx?_toArray]
      clear key kd h hd nd hkd
      induction hp with
      | nil => rfl
      | @cons e k' es ks hek t ih =>
        have eq1 : ((leafKind P w).is (leafOf k) e.key) = decide (k' = k) := by
          by_cases z : k' = k
          · rw [decide_eq_true z]
            subst z
            exact leaf_is hb hek.1
          · rw [decide_eq_false z]
            cases q : Leaf.isOf (leafOf k) e.key with
            | false => exact q
            | true =>
              have n := Leaf.nested (h := s.heap) q
              rw [leafOf_key hb] at n
              exact absurd (NestedIs.inj _ _ _ hek.1 n) z
        rw [List.findIdx?_cons, List.findIdx?_cons, eq1, ih fun k' m => hs k' (List.mem_cons_of_mem _ m)]
    rw [this]
    exact h
end
end PVD
namespace PV
open PySem PySem.Spec PyProof.Rows L2 PVD
def same (k : D) (p : D × D) : Bool := decide (nk p.1 = nk k)
def dFind (kvs : List (D × D)) (k : D) : Option Nat := kvs.findIdx? (same k)
def dGet (kvs : List (D × D)) (k : D) : Option D := (kvs.find? (same k)).map (·.2)
def dSet (kvs : List (D × D)) (k v : D) : List (D × D) := match dFind kvs k with
  | some i => kvs.modify i fun p => (p.1, v)
  | none => kvs ++ [(k, v)]
def keyOk (kvs : List (D × D)) (k : D) : Bool := (match nk k with
  | some key => decide (key.depth ≤ 8)
  | none => false) && kvs.all fun p => isTupD p.1 == isTupD k
theorem keyOk.some {kvs : List (D × D)} {k : D} (h : keyOk kvs k = true) : ∃ key, nk k = some key ∧ key.depth ≤ 8 ∧ ∀ p ∈ kvs, isTupD p.1 = isTupD k := by
  unfold keyOk at h
  rw [Bool.and_eq_true] at h
  cases z : nk k with
  | none => rw [z] at h; exact absurd h.1 Bool.false_ne_true
  | some key =>
    rw [z] at h
    exact ⟨key, rfl, of_decide_eq_true h.1, fun p m => eq_of_beq (List.all_eq_true.mp h.2 p m)⟩
theorem dGet_find {kvs : List (D × D)} {k : D} : dGet kvs k = (dFind kvs k).bind fun i => (kvs[i]?).map (·.2) := by
  unfold dGet dFind
  induction kvs with
  | nil => rfl
  | cons p kvs ih =>
    rw [List.find?_cons, List.findIdx?_cons]
    cases z : same k p with
    | true => rfl
    | false =>
      simp only [Bool.false_eq_true, if_false]
      rw [ih]
      cases q : List.findIdx? (same k) kvs with
      | none => rfl
      | some i => simp
theorem nk_tup {k : D} {key : NestedKey} (h : nk k = some key) : isTupK key = isTupD k := by
  cases k with
  | none => simp [nk] at h; subst h; rfl
  | bool b => simp [nk] at h; subst h; rfl
  | int i => simp [nk] at h; subst h; rfl
  | str x => simp [nk] at h; subst h; rfl
  | tuple ds =>
    unfold nk at h
    cases z : nks ds with
    | none => simp [z] at h
    | some ks => simp [z] at h; subst h; rfl
  | list _ => simp [nk] at h
  | dict _ => simp [nk] at h
section
variable {X : Cx} {pins : List (Addr × Obj)} {σ : L2.St} {H : Hp} {s : Shared}
mutual
theorem nested_of (I : Inv X pins σ H s) : ∀ {k : D} {x : V} {u : Value} {key : NestedKey}, Rep (gd X) H x k → RelV x u → nk k = some key → NestedIs s.heap key u
  | .none, _, _, _, h, r, e => by cases h; cases r; simp [nk] at e; subst e; exact .none
  | .bool b, _, _, _, h, r, e => by cases h; cases r; simp [nk] at e; subst e; exact .bool rfl
  | .int i, _, _, _, h, r, e => by cases h; obtain ⟨t, rfl⟩ := r; simp [nk] at e; subst e; exact .int i t
  | .str z, _, _, _, h, r, e => by cases h; obtain ⟨t, rfl⟩ := r; simp [nk] at e; subst e; exact .text z t
  | .tuple ds, _, _, _, h, r, e => by
    cases h with
    | tup hs hr =>
      cases r
      unfold nk at e
      cases z : nks ds with
      | none => simp [z] at e
      | some ks =>
        simp [z] at e
        subst e
        obtain ⟨its, rv, ⟨o, ho, hc, n, hd⟩, _⟩ := I.tuple hs.sq
        exact .tup ho hc hd (by simpa using nestedAll_of I hr rv z)
  | .list _, _, _, _, _, _, e => by simp [nk] at e
  | .dict _, _, _, _, _, _, e => by simp [nk] at e
theorem nestedAll_of (I : Inv X pins σ H s) : ∀ {ds : List D} {xs : List V} {us : List Value} {ks : List NestedKey}, Reps (gd X) H xs ds → Vals xs us → nks ds = some ks → NestedAll s.heap ks us
  | [], _, _, _, h, r, e => by cases h; cases r; simp [nks] at e; subst e; exact .nil
  | d :: ds, _, _, _, h, r, e => by
    cases h with
    | cons h1 h2 =>
      cases r with
      | cons r1 r2 =>
        unfold nks at e
        cases z1 : nk d with
        | none => simp [z1] at e
        | some k =>
          cases z2 : nks ds with
          | none => simp [z1, z2] at e
          | some ks =>
            simp [z1, z2] at e
            subst e
            exact .cons (nested_of I h1 r1 z1) (nestedAll_of I h2 r2 z2)
end
theorem ents_keys (I : Inv X pins σ H s) : ∀ {es : List DictEntry} {kvs : List (D × D)}, Ents (gd X) H es kvs → ∃ keys, kvs.map (fun p => nk p.1) = keys.map some ∧ Paired (EK s.heap X.w) es keys
  | _, _, .nil => ⟨[], rfl, .nil⟩
  | _, _, .cons rk hk rv hv hh hs t => by
    obtain ⟨keys, h1, h2⟩ := ents_keys I t
    exact ⟨_ :: keys, by rw [List.map_cons, List.map_cons, h1, hh], .cons ⟨nested_of I hk rk hh, hs⟩ h2⟩
theorem idx_eq {kvs : List (D × D)} {keys : List NestedKey} {k : D} {key : NestedKey} (h : kvs.map (fun p => nk p.1) = keys.map some) (e : nk k = some key) : keys.findIdx? (fun k' => decide (k' = key)) = dFind kvs k := by
  unfold dFind
  induction kvs generalizing keys with
  | nil => cases keys with | nil => rfl | cons _ _ => cases h
  | cons p kvs ih =>
    cases keys with
    | nil => cases h
    | cons k' keys =>
      rw [List.map_cons, List.map_cons] at h
      injection h with h1 h2
      rw [List.findIdx?_cons, List.findIdx?_cons, ih h2]
      have : same k p = decide (k' = key) := by
        unfold same
        rw [h1, e]
        by_cases z : k' = key
        · rw [decide_eq_true z, decide_eq_true (congrArg some z)]
        · rw [decide_eq_false z, decide_eq_false fun q => z (Option.some.inj q)]
      rw [this]
theorem dfind_ok {d : Addr} {es : List DictEntry} {kvs : List (D × D)} {k : D} {x : V} {u : Value} {A : Around} {E : Value → Shared → Prop} (I : Inv X pins σ H s) (hd : DictIs d es s.heap) (en : Ents (gd X) H es kvs) (ok : DOk kvs) (rk : Rep (gd X) H x k) (rx : RelV x u) (hk : keyOk kvs k = true)
    (hu : A.units + 8 < cLine) : ∃ key, nk k = some key ∧ (∀ (s1 : Shared) (Q : Int → Shared → Prop), s1.heap = s.heap → Q (key.hash X.w) { s1 with toks := s1.toks + key.draws } → wpAny (model X.prog X.w) A (pyHash u) Q E s1) ∧
      ∀ (s1 : Shared) (Q : Option Nat → Shared → Prop), s1.heap = s.heap → Q (dFind kvs k) s1 → wpAny (model X.prog X.w) A (dictFind d u (key.hash X.w)) Q E s1 := by
  obtain ⟨key, e, dk, hs⟩ := keyOk.some hk
  have n := nested_of I rk rx e
  obtain ⟨keys, h1, h2⟩ := ents_keys I en
  have mem : ∀ k' ∈ keys, ∃ p ∈ kvs, nk p.1 = some k' := fun k' m => by
    have : some k' ∈ keys.map some := List.mem_map.mpr ⟨k', m, rfl⟩
    rw [← h1] at this
    obtain ⟨p, mp, q⟩ := List.mem_map.mp this
    exact ⟨p, mp, q⟩
  refine ⟨key, e, fun s1 Q hh q => pyHash_key key u A s1 Q (by rw [hh]; exact n) (by omega) q, fun s1 Q hh q => ?_⟩
  obtain ⟨o, ep, ho, _, hdat⟩ := hd
  refine find_any (by rw [hh]; exact ho) hdat (by rw [hh]; exact h2) (fun k' m => ?_) ?_ (by rw [hh]; exact n) dk ⟨isTupD k, nk_tup e, fun k' m => ?_⟩ hu (by rw [idx_eq h1 e]; exact q)
  · obtain ⟨p, mp, q⟩ := mem k' m
    obtain ⟨k2, q2, d2⟩ := ok.key p mp
    rw [q] at q2; cases q2; exact d2
  · have nd := ok.nd
    rw [show (kvs.map fun p => nk p.1) = keys.map some from h1] at nd
    exact (List.pairwise_map.mp nd).imp fun q z => q (congrArg some z)
  · obtain ⟨p, mp, q⟩ := mem k' m
    rw [nk_tup q, hs p mp]
theorem Ents.len {G : Gd} {H : Hp} : ∀ {es : List DictEntry} {kvs : List (D × D)}, Ents G H es kvs → es.length = kvs.length
  | _, _, .nil => rfl
  | _, _, .cons _ _ _ _ _ _ t => by rw [List.length_cons, List.length_cons, Ents.len t]
theorem Ents.get {G : Gd} {H : Hp} : ∀ {es : List DictEntry} {kvs : List (D × D)} {i : Nat} {p : D × D}, Ents G H es kvs → kvs[i]? = some p → ∃ e v, es[i]? = some e ∧ RelV v e.val ∧ Rep G H v p.2
  | _, _, 0, _, .cons _ _ rv hv _ _ _, e => by cases e; exact ⟨_, _, rfl, rv, hv⟩
  | _, _, i + 1, _, .cons _ _ _ _ _ _ t, e => by simpa using Ents.get t (by simpa using e)
  | _, _, _, _, .nil, e => by simp at e
theorem dFind_lt {kvs : List (D × D)} {k : D} {i : Nat} (h : dFind kvs k = some i) : ∃ p, kvs[i]? = some p ∧ nk p.1 = nk k := by
  unfold dFind at h
  obtain ⟨lt, h1, _⟩ := List.findIdx?_eq_some_iff_getElem.mp h
  exact ⟨_, List.getElem?_eq_getElem lt, of_decide_eq_true h1⟩
/-- d[k] as an option -/
theorem dictGet_ok {d : Addr} {es : List DictEntry} {kvs : List (D × D)} {k : D} {x : V} {u : Value} {A : Around} {E : Value → Shared → Prop} (I : Inv X pins σ H s) (hd : DictIs d es s.heap) (en : Ents (gd X) H es kvs) (ok : DOk kvs) (rk : Rep (gd X) H x k) (rx : RelV x u) (hk : keyOk kvs k = true)
    (hu : A.units + 8 < cLine) {Q : Option Value → Shared → Prop} (h : ∀ tk o, (match dGet kvs k with | some dv => ∃ v uv, o = some uv ∧ RelV v uv ∧ Rep (gd X) H v dv | none => o = none) → Q o { s with toks := tk }) : wpAny (model X.prog X.w) A (dictGet d u) Q E s := by
  obtain ⟨key, e, h1, h2⟩ := dfind_ok (A := A) (E := E) I hd en ok rk rx hk hu
  unfold dictGet
  try with_reducible refine wpAny_holding ?_
  refine wpAny_bind (h1 s _ rfl (wpAny_bind (h2 { s with toks := s.toks + key.draws } _ rfl ?_)))
  have g := dGet_find (kvs := kvs) (k := k)
  cases z : dFind kvs k with
  | none =>
    rw [z] at g
    exact wpAny_pure (h _ none (by rw [g] <;> rfl))
  | some i =>
    rw [z] at g
    obtain ⟨p, hp, _⟩ := dFind_lt z
    obtain ⟨en', v, q1, q2, q3⟩ := Ents.get en hp
    obtain ⟨o, ep, ho, _, hdat⟩ := hd
    refine wpAny_bind (wpAny_dictEntries (s := { s with toks := s.toks + key.draws }) ho hdat ?_)
    refine wpAny_pure (h _ _ ?_)
    rw [g]
    have : es.toArray[i]? = some en' := by simpa using q1
    rw [this]
    simp only [Option.bind_some, hp, Option.map_some]
    exact ⟨v, _, rfl, q2, q3⟩
/-- the entries behind d[k] = v -/
def esSet (i : Option Nat) (es : List DictEntry) (h : Int) (u w : Value) : List DictEntry := match i with
  | some i => es.modify i fun e => { e with val := w }
  | none => es ++ [⟨h, u, w⟩]
theorem Ents.modify {G : Gd} {H : Hp} {v : V} {w : Value} {d : D} (rv : RelV v w) (hv : Rep G H v d) : ∀ {es : List DictEntry} {kvs : List (D × D)} (i : Nat), Ents G H es kvs → Ents G H (es.modify i fun e => { e with val := w }) (kvs.modify i fun p => (p.1, d))
  | _, _, 0, .cons rk hk _ _ hh hs t => by simpa using Ents.cons (e := { hash := _, key := _, val := w }) rk hk rv hv hh hs t
  | _, _, i + 1, .cons rk hk rv' hv' hh hs t => by simpa using Ents.cons rk hk rv' hv' hh hs (Ents.modify rv hv i t)
  | _, _, 0, .nil => .nil
  | _, _, _ + 1, .nil => .nil
theorem Ents.append {G : Gd} {H : Hp} : ∀ {es fs : List DictEntry} {kvs lws : List (D × D)}, Ents G H es kvs → Ents G H fs lws → Ents G H (es ++ fs) (kvs ++ lws)
  | _, _, _, _, .nil, k => k
  | _, _, _, _, .cons a b c d e f t, k => .cons a b c d e f (Ents.append t k)
theorem dSet_ok {kvs : List (D × D)} {k v : D} (ok : DOk kvs) (hk : keyOk kvs k = true) : DOk (dSet kvs k v) := by
  obtain ⟨key, e, dk, hs⟩ := keyOk.some hk
  unfold dSet
  cases z : dFind kvs k with
  | some i =>
    have m1 : (kvs.modify i fun p => (p.1, v)).map (fun p => nk p.1) = kvs.map fun p => nk p.1 := by
      apply List.ext_getElem?
      intro j
      rw [List.getElem?_map, List.getElem?_map, List.getElem?_modify]
      cases kvs[j]? with
      | none => rfl
      | some p =>
        show some (nk (if i = j then (p.1, v) else p).1) = some (nk p.1)
        by_cases q : i = j
        · rw [if_pos q]
        · rw [if_neg q]
    have mem : ∀ p ∈ kvs.modify i fun p => (p.1, v), ∃ p' ∈ kvs, p'.1 = p.1 := fun p m => by
      obtain ⟨j, hj⟩ := List.getElem?_of_mem m
      rw [List.getElem?_modify] at hj
      cases q : kvs[j]? with
      | none => rw [q] at hj; cases hj
      | some p' =>
        rw [q] at hj
        refine ⟨p', List.mem_of_getElem? q, ?_⟩
        have hj : some (if i = j then (p'.1, v) else p') = some p := hj
        by_cases q2 : i = j
        · rw [if_pos q2] at hj; cases hj; rfl
        · rw [if_neg q2] at hj; cases hj; rfl
    obtain ⟨b, hb⟩ := ok.one
    exact ⟨fun p m => by obtain ⟨p', m', q⟩ := mem p m; rw [← q]; exact ok.key p' m', ⟨b, fun p m => by obtain ⟨p', m', q⟩ := mem p m; rw [← q]; exact hb p' m'⟩, by rw [m1]; exact ok.nd⟩
  | none =>
    have no : ∀ p ∈ kvs, nk p.1 ≠ nk k := fun p m q => by
      unfold dFind at z
      have := List.findIdx?_eq_none_iff.mp z p m
      unfold same at this
      rw [decide_eq_true q] at this
      cases this
    refine ⟨fun p m => ?_, ⟨isTupD k, fun p m => ?_⟩, ?_⟩
    · rcases List.mem_append.mp m with m | m
      · exact ok.key p m
      · simp at m; subst m; exact ⟨key, e, dk⟩
    · rcases List.mem_append.mp m with m | m
      · exact hs p m
      · simp at m; subst m; rfl
    · rw [List.map_append, List.nodup_append]
      refine ⟨ok.nd, by simp, fun a ha b hb => ?_⟩
      simp at hb
      subst hb
      obtain ⟨p, mp, rfl⟩ := List.mem_map.mp ha
      exact no p mp
theorem dictSet_ok {d : Addr} {es : List DictEntry} {kvs : List (D × D)} {k dv : D} {x v : V} {u w : Value} {A : Around} {E : Value → Shared → Prop} (I : Inv X pins σ H s) (hd : DictIs d es s.heap) (en : Ents (gd X) H es kvs) (ok : DOk kvs) (rk : Rep (gd X) H x k) (rx : RelV x u) (rv : RelV v w) (hv : Rep (gd X) H v dv) (hk : keyOk kvs k = true)
    (hz : kvs.length < sizeLine) (hu : A.units + 8 < cLine) {Q : Unit → Shared → Prop} (h : ∀ h' tk es', DictIs d es' h' → Ents (gd X) H es' (dSet kvs k dv) → Heap.SameBut d s.heap h' → Q () { s with heap := h', toks := tk }) : wpAny (model X.prog X.w) A (dictSet d u w) Q E s := by
  obtain ⟨key, e, h1, h2⟩ := dfind_ok (A := A) (E := E) I hd en ok rk rx hk hu
  have hl := Ents.len en
  unfold dictSet
  try with_reducible refine wpAny_holding ?_
  refine wpAny_bind (h1 s _ rfl ?_)
  unfold dictSetHashed
  try with_reducible refine wpAny_holding ?_
  refine wpAny_bind (h2 { s with toks := s.toks + key.draws } _ rfl ?_)
  obtain ⟨o, ep, ho, hc, hdat⟩ := hd
  cases z : dFind kvs k with
  | none =>
    refine wpAny_bind (wpAny_rule (wpAny_updateDictKeys (hz := by simp; omega) (s := { s with toks := s.toks + key.draws }) ho hdat (h _ _ (es ++ [⟨key.hash X.w, u, w⟩]) ⟨_, ep + 1, Heap.get?_update_self _ ho (Obj.isFreed_of_dict (Obj.data_mapDictKeys hdat _)), hc.mapDictKeys _, ?_⟩ ?_ (Heap.SameBut.update ..))))
    · rw [Obj.data_mapDictKeys hdat]
      simp
    · unfold dSet
      rw [z]
      exact Ents.append en (.cons rx rk rv hv e rfl .nil)
  | some i =>
    refine wpAny_bind (wpAny_rule (wpAny_bind (wpAny_updateDict (s := { s with toks := s.toks + key.draws }) ho hdat (wpAny_point (h _ _ (es.modify i fun e => { e with val := w }) ⟨_, ep, Heap.get?_update_self _ ho (Obj.isFreed_of_dict (Obj.data_mapDict hdat _)), hc.mapDict _, ?_⟩ ?_ (Heap.SameBut.update ..))))))
    · rw [Obj.data_mapDict hdat]
      simp
    · unfold dSet
      rw [z]
      exact Ents.modify rv hv i en
end
end PV

set_option Elab.async false
set_option linter.all false
set_option maxRecDepth 100000
set_option maxHeartbeats 4000000
namespace PV
open PySem PySem.Spec PyProof.Rows L2 PVD
section
variable {X : Cx} {pins : List (Addr × Obj)} {σ : L2.St} {H : Hp} {s : Shared}
theorem Dr.rep {G : Gd} {H : Hp} {v : V} {d : D} (h : Dr G H v d) (e : (nk d).isSome = true) : Rep G H v d := by
  rcases h with h | ⟨a, _, o⟩
  · exact h
  · cases d with
    | list _ => simp [nk] at e
    | dict _ => simp [nk] at e
    | _ => exact o.elim
theorem keyOk.isSome {kvs : List (D × D)} {k : D} (h : keyOk kvs k = true) : (nk k).isSome = true := by
  obtain ⟨key, e, _⟩ := keyOk.some h
  rw [e]; rfl
/-- a readable dict -/
theorem Dr.dic {v : V} {kvs : List (D × D)} (I : Inv X pins σ H s) (h : Dr (gd X) H v (.dict kvs)) : ∃ a es, v = .ref a ∧ DictIs a es s.heap ∧ Ents (gd X) H es kvs ∧ DOk kvs ∧ kvs.length ≤ sizeLine ∧ (a == sysModules) = false := by
  rcases h with h | ⟨a, rfl, es, h, r, ok, hz, hn⟩
  · cases h with
    | @dic a o es _ h r ok hz hn =>
      exact ⟨a, es, rfl, (show ObjOk X.prog X.w H s.heap _ (.frz _ (.ext (DictIs _ _))) from I.hok _ _ h).2.1, r, ok, hz, hn⟩
  · exact ⟨a, es, rfl, (show ObjOk X.prog X.w H s.heap a (.ext (DictIs a es)) from I.hok a _ h).1, r, ok, hz, hn⟩
theorem DictIs.typeIs {a : Addr} {es : List DictEntry} (h : DictIs a es s.heap) : s.TypeIs (.ref a) "dict" := let ⟨o, _, ho, hc, _⟩ := h; ⟨o, ho, hc.1⟩
theorem getItem_d {a : Addr} {es : List DictEntry} {kvs : List (D × D)} {k dv : D} {x : V} {u : Value} {A : Around} {E : Value → Shared → Prop} (I : Inv X pins σ H s) (hd : DictIs a es s.heap) (en : Ents (gd X) H es kvs) (ok : DOk kvs) (rk : Rep (gd X) H x k) (rx : RelV x u) (hk : keyOk kvs k = true)
    (hu : A.units + 9 < cLine) (hv : dGet kvs k = some dv) {Q : Value → Shared → Prop} (h : ∀ tk v uv, RelV v uv → Rep (gd X) H v dv → Q uv { s with toks := tk }) : wpAny (model X.prog X.w) A (getItem (.ref a) u) Q E s := by
  unfold getItem
  try with_reducible refine wpAny_holding ?_
  refine wpAny_bind (wpAny_sequenceKey (DictIs.typeIs hd) (by decide) ?_)
  refine wpAny_bind (wpAny_callSpecial?_slot (name := Str.ofString "__getitem__") (DictIs.typeIs hd) slot_dict_getitem
    (wpAny_call_entry slot_dict_getitem (DictIs.typeIs hd) entry_dict_getitem ?_ (args_dict_getitem _ _)))
  show wpAny _ _ (dictGet a u >>= _) _ _ s
  refine wpAny_bind (dictGet_ok I hd en ok rk rx hk (by show A.units + 1 + 8 < cLine; omega) fun tk o ho => ?_)
  rw [hv] at ho
  obtain ⟨v, uv, rfl, r1, r2⟩ := ho
  exact wpAny_pure ⟨uv, rfl, wpAny_pure (h tk v uv r1 r2)⟩
theorem contains_d {a : Addr} {es : List DictEntry} {kvs : List (D × D)} {k : D} {x : V} {u : Value} {A : Around} {E : Value → Shared → Prop} (I : Inv X pins σ H s) (hd : DictIs a es s.heap) (hn : (a == sysModules) = false) (en : Ents (gd X) H es kvs) (ok : DOk kvs) (rk : Rep (gd X) H x k) (rx : RelV x u) (hk : keyOk kvs k = true)
    (hu : A.units + 9 < cLine) {Q : Bool → Shared → Prop} (h : ∀ tk, Q (dGet kvs k).isSome { s with toks := tk }) : wpAny (model X.prog X.w) A (contains (.ref a) u) Q E s := by
  refine wpAny_contains_slot (DictIs.typeIs hd) F.slot_dict_contains ?_
  refine call_meetsIn F.slot_dict_contains (DictIs.typeIs hd) F.entry_dict_contains (F.args_dict_contains_2 _ _) (S := fun A' R s' => A' = A ∧ s' = s ∧ ∀ tk, R (.ok (.ret (.bool (dGet kvs k).isSome))) { s with toks := tk }) (.of_wp fun A' R s' hS => ?_) ⟨rfl, rfl, fun tk => wpAny_truthy_bool (h tk)⟩
  obtain ⟨rfl, rfl, hq⟩ := hS
  show wpAny _ _ (dictGet a u >>= _) _ _ _
  refine wpAny_bind (dictGet_ok I hd en ok rk rx hk (by show A'.units + 1 + 8 < cLine; omega) fun tk o ho => ?_)
  cases hf : dGet kvs k with
  | some dv =>
    rw [hf] at hq ho
    obtain ⟨v, uv, rfl, r1, r2⟩ := ho
    show wpAny _ _ (ret (.bool true)) _ _ _
    exact wpAny_pure ⟨_, rfl, hq tk⟩
  | none =>
    rw [hf] at hq ho
    subst ho
    show wpAny _ _ (Builtin.Dict.pendingKey? a u >>= _) _ _ _
    exact wpAny_bind (wpAny_pendingKey_other hn (wpAny_pure ⟨_, rfl, hq tk⟩))
theorem get2_d {a : Addr} {es : List DictEntry} {kvs : List (D × D)} {k : D} {x : V} {u y : Value} {A : Around} {E : Value → Shared → Prop} (I : Inv X pins σ H s) (hd : DictIs a es s.heap) (hn : (a == sysModules) = false) (en : Ents (gd X) H es kvs) (ok : DOk kvs) (rk : Rep (gd X) H x k) (rx : RelV x u) (hk : keyOk kvs k = true)
    (hu : A.units + 9 < cLine) {Q : Value → Shared → Prop} (h : ∀ tk, (match dGet kvs k with | some dv => ∀ v uv, RelV v uv → Rep (gd X) H v dv → Q uv { s with toks := tk } | none => Q y { s with toks := tk })) : wpAny (model X.prog X.w) A (call (.builtin "dict.get") [.ref a, u, y]) Q E s := by
  refine call_meetsIn F.slot_dict_get (DictIs.typeIs hd) F.entry_dict_get (F.args_dict_get_3 _ _ _) (S := fun A' R s' => A' = A ∧ s' = s ∧ ∀ tk, (match dGet kvs k with | some dv => ∀ v uv, RelV v uv → Rep (gd X) H v dv → R (.ok (.ret uv)) { s with toks := tk } | none => R (.ok (.ret y)) { s with toks := tk })) (.of_wp fun A' R s' hS => ?_) ⟨rfl, rfl, h⟩
  obtain ⟨rfl, rfl, hq⟩ := hS
  show wpAny _ _ (dictGet a u >>= _) _ _ _
  refine wpAny_bind (dictGet_ok I hd en ok rk rx hk (by show A'.units + 1 + 8 < cLine; omega) fun tk o ho => ?_)
  have hq := hq tk
  cases hf : dGet kvs k with
  | some dv =>
    rw [hf] at hq ho
    obtain ⟨v, uv, rfl, r1, r2⟩ := ho
    exact wpAny_pure ⟨uv, rfl, hq v uv r1 r2⟩
  | none =>
    rw [hf] at hq ho
    subst ho
    show wpAny _ _ (Builtin.Dict.missed a u >>= _) _ _ _
    exact wpAny_bind (wpAny_missed_other hn (wpAny_pure ⟨y, rfl, hq⟩))
theorem setItem_d {a : Addr} {es : List DictEntry} {kvs : List (D × D)} {k dv : D} {x v : V} {u w : Value} {A : Around} {E : Value → Shared → Prop} (I : Inv X pins σ H s) (hd : DictIs a es s.heap) (en : Ents (gd X) H es kvs) (ok : DOk kvs) (rk : Rep (gd X) H x k) (rx : RelV x u) (rv : RelV v w) (hv : Rep (gd X) H v dv) (hk : keyOk kvs k = true)
    (hz : kvs.length < sizeLine) (hu : A.units + 9 < cLine) {Q : Unit → Shared → Prop} (h : ∀ h' tk es', DictIs a es' h' → Ents (gd X) H es' (dSet kvs k dv) → Heap.SameBut a s.heap h' → Q () { s with heap := h', toks := tk }) : wpAny (model X.prog X.w) A (setItem (.ref a) u w) Q E s := by
  unfold setItem
  try with_reducible refine wpAny_holding ?_
  refine wpAny_bind (wpAny_sequenceKey (DictIs.typeIs hd) (by decide) ?_)
  refine wpAny_bind (wpAny_callSpecial?_slot (name := Str.ofString "__setitem__") (DictIs.typeIs hd) slot_dict_setitem
    (wpAny_call_entry slot_dict_setitem (DictIs.typeIs hd) entry_dict_setitem ?_ (args_dict_setitem _ _ _)))
  show wpAny _ _ (Builtin.Dict.notOrdered "__setitem__" ⟨[.ref a, u, w], []⟩ >>= _) _ _ s
  refine wpAny_bind (wpAny_notOrdered_dict (DictIs.typeIs hd) ?_)
  show wpAny _ _ (dictSet a u w >>= _) _ _ s
  exact wpAny_bind (dictSet_ok I hd en ok rk rx rv hv hk hz (by show A.units + 1 + 8 < cLine; omega) fun h' tk es' a1 a2 a3 => wpAny_pure ⟨.none, rfl, wpAny_pure (h h' tk es' a1 a2 a3)⟩)
theorem DictIs.ext {a : Addr} {es : List DictEntry} {h : Heap} (x : DictIs a es h) : (∃ o, h.get? a = some o) ∧ ∀ h1 h2 : Heap, DictIs a es h1 → (∀ o, h1.get? a = some o → h2.get? a = some o) → DictIs a es h2 := by
  obtain ⟨o, ep, ho, _⟩ := x
  exact ⟨⟨o, ho⟩, fun h1 h2 ⟨o, ep, q, r⟩ k => ⟨o, ep, k o q, r⟩⟩
/-- the dict is written -/
theorem d_wr {a : Addr} {es es' : List DictEntry} {h' : Heap} {tk : Nat} (I : Inv X pins σ H s) (e : H a = some (.ext (DictIs a es))) (hd : DictIs a es' h') (sb : Heap.SameBut a s.heap h') : Inv X pins σ (upd H a (.ext (DictIs a es'))) { s with heap := h', toks := tk } :=
  I.write (x := a) (e := a) (by rw [e]; trivial) (.inl rfl) (fun b q hb z => (sb.2 b hb).trans z) hd.ext.1 ⟨hd, hd.ext⟩
end

section
variable {X : Cx}
def gIxD : D → D → Option Val
  | .dict kvs, k => if keyOk kvs k = true then (dGet kvs k).map Val.d else none
  | _, _ => none
def rIxDD (X : Cx) : R2 := fun x y H Q => ∃ kvs k dv, Dr (gd X) H x (.dict kvs) ∧ Rep (gd X) H y k ∧ keyOk kvs k = true ∧ dGet kvs k = some dv ∧ ∀ v, Rep (gd X) H v dv → Q v H
theorem ixD_dr (hu : X.A.units + 64 < cLine) : IxR X (rIxDD X) := by
  intro value slice pins s σ H x y v u Q I rx ry ⟨kvs, k, dv, dx, ry', hk, hg, q⟩ hs
  obtain ⟨a, es, rfl, hd, en, ok, _, _⟩ := dx.dic I
  cases rx
  exact tail_any (DictIs.typeIs hd) slot_dict_getitem.lookup (getItem_d I hd en ok ry' ry hk (by omega) hg fun tk v uv r1 r2 => ⟨v, H, I.tok _, r1, q v r2⟩) hs
theorem ixD_ok (hu : X.A.units + 64 < cLine) : XO X gIxD := ⟨_, ixD_dr hu, fun x y dx dy H Q r hx hy e q => by
  cases dx with
  | dict kvs =>
    have e : (if keyOk kvs dy = true then (dGet kvs dy).map Val.d else none) = some r := e
    by_cases z : keyOk kvs dy = true
    · rw [if_pos z] at e
      cases g : dGet kvs dy with
      | none => rw [g] at e; cases e
      | some dv =>
        rw [g] at e; cases e
        exact ⟨kvs, dy, dv, hx, hy.rep (keyOk.isSome z), z, g, fun v rv => q v H (Same.refl H) rv⟩
    · rw [if_neg z] at e; cases e
  | _ => cases e⟩
def gInD (b : Bool) : D → D → Option Val
  | k, .dict kvs => if keyOk kvs k = true then some (.d (.bool ((dGet kvs k).isSome == b))) else none
  | _, _ => none
def rInDD (X : Cx) (b : Bool) : R2 := fun x y H Q => ∃ kvs k, Dr (gd X) H y (.dict kvs) ∧ Rep (gd X) H x k ∧ keyOk kvs k = true ∧ Q (.bl ((dGet kvs k).isSome == b)) H
theorem inD_ok (hu : X.A.units + 64 < cLine) : BO X (compareOp .In) (gInD true) := ⟨rInDD X true, (by
  intro pins s σ H x y v u Q I rx ry ⟨kvs, k, dx, rk, hk, q⟩
  obtain ⟨a, es, rfl, hd, en, ok, _, hn⟩ := dx.dic I
  cases ry
  show wpAny _ _ (do return Value.bool (← contains (.ref a) v)) _ _ s
  exact wpAny_bind (contains_d I hd hn en ok rk rx hk (by omega) fun tk => wpAny_pure ⟨.bl _, H, I.tok _, rfl, by simpa using q⟩)), fun x y dx dy H Q r hx hy e q => by
  cases dy with
  | dict kvs =>
    have e : (if keyOk kvs dx = true then some (Val.d (.bool ((dGet kvs dx).isSome == true))) else none) = some r := by cases dx <;> exact e
    by_cases z : keyOk kvs dx = true
    · rw [if_pos z] at e; cases e
      exact ⟨kvs, dx, hy, hx.rep (keyOk.isSome z), z, q _ H (Same.refl H) (.bl _)⟩
    · rw [if_neg z] at e; cases e
  | _ => cases dx <;> cases e⟩
theorem notInD_ok (hu : X.A.units + 64 < cLine) : BO X (compareOp .NotIn) (gInD false) := ⟨rInDD X false, (by
  intro pins s σ H x y v u Q I rx ry ⟨kvs, k, dx, rk, hk, q⟩
  obtain ⟨a, es, rfl, hd, en, ok, _, hn⟩ := dx.dic I
  cases ry
  show wpAny _ _ (do return Value.bool (!(← contains (.ref a) v))) _ _ s
  exact wpAny_bind (contains_d I hd hn en ok rk rx hk (by omega) fun tk => wpAny_pure ⟨.bl _, H, I.tok _, rfl, by cases h : (dGet kvs k).isSome <;> rw [h] at q <;> exact q⟩)), fun x y dx dy H Q r hx hy e q => by
  cases dy with
  | dict kvs =>
    have e : (if keyOk kvs dx = true then some (Val.d (.bool ((dGet kvs dx).isSome == false))) else none) = some r := by cases dx <;> exact e
    by_cases z : keyOk kvs dx = true
    · rw [if_pos z] at e; cases e
      exact ⟨kvs, dx, hy, hx.rep (keyOk.isSome z), z, q _ H (Same.refl H) (.bl _)⟩
    · rw [if_neg z] at e; cases e
  | _ => cases dx <;> cases e⟩
/-- a store rule: of the object's data, the index, the value: the data behind -/
def SO (X : Cx) (g : D → D → D → Option D) : Prop := ∃ t : TSet, PSet X t ∧ ∀ (a : Addr) (i v : V) (d di dv d' : D) (H : Hp) (Q : Hp → Prop), Own (gd X) H a d → Dr (gd X) H i di → Rep (gd X) H v dv → g d di dv = some d' →
  (∀ o, Own (gd X) (upd H a o) a d' → Q (upd H a o)) → t (.ref a) i v H Q
def gSetL : D → D → D → Option D
  | .list ds, .int k, v => (ixN ds.length k).map fun j => .list (ds.set j v)
  | _, _, _ => none
theorem setL_ok : SO X gSetL := ⟨_, set_list, fun a i v d di dv d' H Q o hi hv e q => by
  cases d <;> cases di <;> try (cases e)
  rename_i ds k
  have e : (ixN ds.length k).map (fun j => PyData.list (ds.set j dv)) = some d' := e
  cases z : ixN ds.length k with
  | none => rw [z] at e; cases e
  | some j =>
    rw [z] at e; cases e
    obtain ⟨ws, hw, rw_⟩ := id o
    exact ⟨a, ws, k, j, rfl, hi.int, hw, by rw [rw_.length]; exact z, q _ (own_w o (Reps.set hv j rw_))⟩⟩
def gSetD : D → D → D → Option D
  | .dict kvs, k, v => if keyOk kvs k = true ∧ kvs.length < sizeLine then some (.dict (dSet kvs k v)) else none
  | _, _, _ => none
theorem Ents.monoU {G : Gd} {H : Hp} {a : Addr} {d0 : D} {o : HO} {es : List DictEntry} {kvs : List (D × D)} (ow : Own G H a d0) (h : Ents G H es kvs) : Ents G (upd H a o) es kvs := h.mono ow.kpw
def rSetDD (X : Cx) : TSet := fun o i v H Q => ∃ a es kvs k dv, o = .ref a ∧ H a = some (.ext (DictIs a es)) ∧ Ents (gd X) H es kvs ∧ DOk kvs ∧ Rep (gd X) H i k ∧ Rep (gd X) H v dv ∧ keyOk kvs k = true ∧ kvs.length < sizeLine ∧ ∀ es', Ents (gd X) H es' (dSet kvs k dv) → Q (upd H a (.ext (DictIs a es')))
theorem dSet_len {kvs : List (D × D)} {k v : D} : (dSet kvs k v).length ≤ kvs.length + 1 := by
  unfold dSet
  cases dFind kvs k with
  | none => simp
  | some i => simp
theorem setD_ok (hu : X.A.units + 64 < cLine) : SO X gSetD := ⟨rSetDD X, (by
  intro pins s σ H o i v ov iv u Q I ro ri rv ⟨a, es, kvs, k, dv, eo, ha, en, ok, rk, hv, hk, hz, q⟩
  subst eo
  cases ro
  have hd : DictIs a es s.heap := (show ObjOk X.prog X.w H s.heap a (.ext (DictIs a es)) from I.hok a _ ha).1
  exact setItem_d I hd en ok rk ri rv hv hk hz (by omega) fun h' tk es' a1 a2 a3 => ⟨_, d_wr I ha a1 a3, q es' a2⟩), fun a i v d di dv d' H Q o hi hv e q => by
  cases d with
  | dict kvs =>
    have e : (if keyOk kvs di = true ∧ kvs.length < sizeLine then some (PyData.dict (dSet kvs di dv)) else none) = some d' := e
    by_cases z : keyOk kvs di = true ∧ kvs.length < sizeLine
    · rw [if_pos z] at e; cases e
      obtain ⟨es, h1, h2, h3, h4, h5⟩ := id o
      refine ⟨a, es, kvs, di, dv, rfl, h1, h2, h3, hi.rep (keyOk.isSome z.1), hv, z.1, z.2, fun es' en' => q _ ⟨es', upd_same, Ents.monoU o en', dSet_ok h3 z.1, ?_, h5⟩⟩
      have := @dSet_len kvs di dv
      omega
    · rw [if_neg z] at e; cases e
  | _ => cases e⟩
/-- a method that reads -/
def RO (X : Cx) (id : String) (g : D → List D → Option D) : Prop := ∃ rd : V → List V → Hp → VK → Prop, MtR X id rd ∧ ∀ (x : V) (d : D) (vs : List V) (ds : List D) (H : Hp) (Q : VK) (r : D), Dr (gd X) H x d → Reps (gd X) H vs ds → g d ds = some r →
  (∀ v, Rep (gd X) H v r → Q v H) → rd x vs H Q
def gGet : D → List D → Option D
  | .dict kvs, [k, y] => if keyOk kvs k = true then some ((dGet kvs k).getD y) else none
  | _, _ => none
def rGetD (X : Cx) : V → List V → Hp → VK → Prop := fun x vs H Q => ∃ kvs k dy y i, vs = [i, y] ∧ Dr (gd X) H x (.dict kvs) ∧ Rep (gd X) H i k ∧ Rep (gd X) H y dy ∧ keyOk kvs k = true ∧ ∀ v, Rep (gd X) H v ((dGet kvs k).getD dy) → Q v H
theorem get_ok (hu : X.A.units + 64 < cLine) : RO X "dict.get" gGet := ⟨rGetD X, (by
  intro pins s σ H x xs v us Q I rx rxs ⟨kvs, k, dy, y, i, exs, dx, rk, hy, hk, q⟩
  subst exs
  obtain ⟨a, es, rfl, hd, en, ok, _, hn⟩ := dx.dic I
  cases rx
  obtain ⟨u1, u2, rfl, r1, r2⟩ := vals2 rxs
  refine get2_d I hd hn en ok rk r1 hk (by omega) fun tk => ?_
  cases g : dGet kvs k with
  | some dv => exact fun v uv q1 q2 => ⟨v, H, I.tok _, q1, q v (by rw [g]; exact q2)⟩
  | none => exact ⟨y, H, I.tok _, r2, q y (by rw [g]; exact hy)⟩), fun x d vs ds H Q r dx rs e q => by
  cases d with
  | dict kvs =>
    cases rs with
    | nil => cases e
    | cons h1 t1 =>
      cases t1 with
      | nil => cases e
      | cons h2 t2 =>
        cases t2 with
        | cons _ _ => cases e
        | nil =>
          rename_i v1 k v2 y
          have e : (if keyOk kvs k = true then some ((dGet kvs k).getD y) else none) = some r := e
          by_cases z : keyOk kvs k = true
          · rw [if_pos z] at e; cases e
            exact ⟨kvs, k, y, v2, v1, rfl, dx, h1, h2, z, q⟩
          · rw [if_neg z] at e; cases e
  | _ => cases e⟩
end
end PV

set_option Elab.async false
set_option linter.all false
set_option maxRecDepth 100000
set_option maxHeartbeats 4000000
namespace PV
open PySem PySem.Spec PyProof.Rows L2 PVD
def tnm2 : D → String
  | .list _ => "list"
  | .dict _ => "dict"
  | .str _ => "str"
  | .tuple _ => "tuple"
  | _ => ""
def tyIs (T : String) (r : Val) (e : En) : Bool := match deref e r with
  | some d => T != "" && tnm2 d == T
  | none => false
def mRead (T : String) (g : D → List D → Option D) (m : ME) (ms : En → R (List Val)) : ME := fun env => (m env).bind fun r e0 => if tyIs T r e0 = true then (ms e0).bind fun rs e1 => match frzs rs e1 with
    | some (ds, e2) => match deref e2 r with
      | some d => match g d ds with
        | some x => .ok (.d x) e2
        | none => .stuck
      | none => .stuck
    | none => .stuck
  else .stuck
section
variable {X : Cx} {C : Cc} {W : WX} {e o : Expr} {es : List Expr} {m : ME} {ms : En → R (List Val)} {apos cpos : Pos} {i : Nat} {T id : String} {g : D → List D → Option D} {name : Str}
theorem tyIs_ok {G : Gd} {H : Hp} {v : V} {r : Val} {e : En} (h : tyIs T r e = true) (k : ∀ d, deref e r = some d → Dr G H v d) : tyV' G T v H := by
  unfold tyIs at h
  cases z : deref e r with
  | none => rw [z] at h; cases h
  | some d =>
    rw [z] at h
    rw [Bool.and_eq_true] at h
    have h2 := eq_of_beq h.2
    refine ⟨d, k d z, ?_⟩
    cases d with
    | list y => exact ⟨y, .inl ⟨rfl, h2.symm⟩⟩
    | dict y => exact ⟨[], .inr (.inl ⟨y, rfl, h2.symm⟩)⟩
    | str y => exact ⟨[], .inr (.inr (.inl ⟨y, rfl, h2.symm⟩))⟩
    | tuple y => exact ⟨[], .inr (.inr (.inr ⟨y, rfl, h2.symm⟩))⟩
    | _ => rw [← h2] at h; exact absurd h.1 (by simp [tnm2])
theorem b_read (hm : RO X id g) (pa : PlainAttrs T) (slot : PySem.Slot T name id) (hty : typeOf (.builtin id) = pure (.type "method_descriptor")) (ho : PE X o (tE C (gd X) W m)) (ha : PA X (e :: es) (tA C (gd X) W ms))
    (hbase : attributeBase o name X.env (eval o X.env) = eval o X.env := by rfl)
    (hfew : ((backTo cpos (starEach (e :: es) X.env)).all (fun x => !x.1) && (backToKw cpos (keywordEach [] X.env)).all (fun x => x.1.isSome)
      && decide ((e :: es).length + ([] : List Keyword).length + (if ([] : List Keyword).isEmpty then 0 else 1) < 30)) = true := by rfl)
    (hline : (apos.endLine == cpos.line) = true := by rfl) (hs : starEach (e :: es) X.env = (false, eval e X.env) :: starEach es X.env := by rfl) (hplain : (backTo cpos (starEach es X.env)).any (·.1) = false := by rfl) :
    PE X (.Call (.Attribute o name apos) (e :: es) [] cpos) (tE C (gd X) W (mRead T g m ms)) := by
  obtain ⟨rd, h1, h2⟩ := hm
  refine (pe_mG ty_dr pa slot hty h1 ho (pa_gh ha) hbase hfew hline hs hplain).imp fun σ H Q ⟨env, q, h⟩ => ⟨env, q, tK_mono (tK_E (.refl q) h) fun v H1 ⟨r, e0, i1, p1, vr, h1⟩ => ?_⟩
  by_cases ht : tyIs T r e0 = true
  · rw [if_pos ht] at h1
    refine ⟨tyIs_ok ht fun d z => deref_ok p1.rel vr z, e0, p1.rel, tK_mono (tK_A p1 h1) fun vs H2 ⟨rs, e1, i2, p2, vr2, h3⟩ pins s I => ?_⟩
    cases zf : frzs rs e1 with
    | none => rw [zf] at h3; exact h3.elim
    | some de =>
      obtain ⟨ds, e2⟩ := de
      rw [zf] at h3
      dsimp only at h3
      obtain ⟨l, at_⟩ := vr2.atF
      -- the receiver is carried along the freezing as one more value
      have vrx : ValRel (gd X) H e1 σ H2 v r := vr.post p1.rel (p1.noHeld q) i2.toPost
      obtain ⟨H3, I3, p3, r3, kp, keepv⟩ := frzs_keep q I p2 l at_ zf
      refine ⟨H3, I3, ?_⟩
      have vr3 := keepv v r (.inl vrx)
      cases zd : deref e2 r with
      | none => rw [zd] at h3; exact h3.elim
      | some d =>
        rw [zd] at h3
        dsimp only at h3
        cases zg : g d ds with
        | none => rw [zg] at h3; exact h3.elim
        | some x =>
          rw [zg] at h3
          have dr : Dr (gd X) H3 v d := by
            rcases vr3 with k | ⟨y, k, rp⟩
            · exact deref_ok p3.rel k zd
            · subst k
              cases zd
              exact .inl rp
          exact h2 v d vs ds H3 Q x dr r3 zg fun u ru => h3 u H3 p3 ru
  · rw [if_neg ht] at h1; exact h1.elim
end
def mSetIx (j : Nat) (g : D → D → D → Option D) (mi m : ME) : MS := fun env => (m env).bind fun r e => match frz1 r e with
  | some (dv, e1) => match e1[j]? with
    | some (.ow _ _) => (mi e1).bind fun ri e2 => match deref e2 ri with
      | some di => match e2[j]? with
        | some (.ow b d) => match g d di dv with
          | some d' => .ok .nx (e2.set j (.ow b d'))
          | none => .stuck
        | _ => .stuck
      | none => .stuck
    | _ => .stuck
  | none => .stuck
section
variable {X : Cx} {C : Cc} {W : WX} {o i e : Expr} {mi m : ME} {pos tpos : Pos} {j : Nat} {g : D → D → D → Option D}
theorem tSK_E {env e1 : En} {σ : L2.St} {H H1 : Hp} {D : Ends} (p : PostE (gd X) C env σ H e1 H1) {ma : R Val} {f : Val → En → R Fl} (h : tSK C (gd X) W env σ H (ma.bind f) D) :
    tK C (gd X) W (ValRel (gd X)) e1 σ H1 ma (fun v H2 => ∃ r e2, PostE (gd X) C e1 σ H1 e2 H2 ∧ PostE (gd X) C env σ H e2 H2 ∧ ValRel (gd X) H e2 σ H2 v r ∧ tSK C (gd X) W env σ H (f r e2) D) := by
  cases ma with
  | stuck => exact h
  | exc c e => exact fun H2 p2 => h σ H2 (p.trans p2).toPost
  | ok r e2 => exact fun v H2 p2 vr => ⟨r, e2, p2, p.trans p2, vr.anti p.there, h⟩
theorem s_setIx (hg : SO X g) (ho : PE X o (tVar j)) (hi : PE X i (tE C (gd X) W mi)) (he : PE X e (tE C (gd X) W m))
    (hsw : swapsWithSole [Expr.Subscript o i tpos] e pos.line X.env = pure false := by rfl) (hw : swappedStores [Expr.Subscript o i tpos] e X.env = pure none := by rfl)
    (ha : ∀ v, assign (.Subscript o i tpos) X.env v = (do
      let ov ← holding [v] (eval o X.env)
      let iv ← holding [v, ov] (eval i X.env)
      standAt tpos
      holding [v, ov, iv] (setItem ov iv v)
      release [v, ov, iv] []) := by intro _; rfl) : PS X (.Assign [.Subscript o i tpos] e pos) (tS C (gd X) W (mSetIx j g mi m)) := by
  obtain ⟨t, h1, h2⟩ := hg
  refine (ps_asg (pe_gh he) (pg_sub ho hi h1 ha) hsw hw).imp fun D σ H ⟨env, q, h⟩ => ⟨env, q, tK_mono (tSK_E (.refl q) h) fun v H1 ⟨r, e1, _, p1, vr, k1⟩ pins s I => ?_⟩
  cases zf : frz1 r e1 with
  | none => rw [zf] at k1; exact k1.elim
  | some de =>
    obtain ⟨dv, e2⟩ := de
    rw [zf] at k1
    dsimp only at k1
    obtain ⟨H2, I2, p2, rep, _, _⟩ := frz1_ok I q p1 (.inl vr) zf
    refine ⟨H2, I2, ?_⟩
    cases zj : e2[j]? with
    | none => rw [zj] at k1; exact k1.elim
    | some s0 =>
      rw [zj] at k1
      cases s0 with
      | ow b0 d0 =>
        dsimp only at k1
        obtain ⟨a, ea, oa⟩ := (p2.rel.slot j _ zj).own rfl
        refine ⟨.ref a, ea, e2, p2.rel, tK_mono (tSK_E p2 k1) fun iv H3 ⟨ri, e3, i3, p3, vri, k3⟩ => ?_⟩
        cases zd : deref e3 ri with
        | none => rw [zd] at k3; exact k3.elim
        | some di =>
          rw [zd] at k3
          dsimp only at k3
          cases zj3 : e3[j]? with
          | none => rw [zj3] at k3; exact k3.elim
          | some s3 =>
            rw [zj3] at k3
            cases s3 with
            | ow b d =>
              dsimp only at k3
              cases zg : g d di dv with
              | none => rw [zg] at k3; exact k3.elim
              | some d' =>
                rw [zg] at k3
                obtain ⟨a', ea', oa'⟩ := (p3.rel.slot j _ zj3).own rfl
                rw [ea] at ea'
                cases ea'
                exact h2 a iv v d di dv d' H3 _ oa' (deref_ok p3.rel vri zd) (rep.mono (i3.toPost.kp p2.rel)) zg fun ob ow' => k3 σ _ (p3.wr zj3 ea ow').toPost
            | _ => exact k3.elim
      | _ => exact k1.elim
end
def mAug (i : Nat) (g : D → D → Option Val) (m : ME) : MS := fun env => match env[i]? with
  | some (.sh d0) => (m env).bind fun r e => match deref e r with
    | some d => match g d0 d with
      | some (.d x) => if okTgt e i = true then .ok .nx (e.set i (.sh x)) else .stuck
      | _ => .stuck
    | none => .stuck
  | _ => .stuck
def getL : D → D → Option D
  | .list ds, .int k => L2.atI ds k
  | _, _ => none
def getDd : D → D → Option D
  | .dict kvs, k => if keyOk kvs k = true then dGet kvs k else none
  | _, _ => none
def GO (X : Cx) (g : D → D → Option D) : Prop := ∃ t : V → V → Hp → VK → Prop, PGet X t ∧ ∀ (x i : V) (d di r : D) (H : Hp) (Q : VK), Dr (gd X) H x d → Dr (gd X) H i di → g d di = some r → (∀ v, Rep (gd X) H v r → Q v H) → t x i H Q
def mAugIx (j : Nat) (gg : D → D → Option D) (g : D → D → Option Val) (gs : D → D → D → Option D) (mi m : ME) : MS := fun env => match env[j]? with
  | some (.ow _ _) => (mi env).bind fun ri e1 => match deref e1 ri with
    | some di => match (e1[j]?).bind Slot.ownd with
      | some c => match gg c di with
        | some old => (m e1).bind fun r e2 => match deref e2 r with
          | some dv => match g old dv with
            | some (.d new) => match deref e2 ri with
              | some di2 => match e2[j]? with
                | some (.ow b c2) => match gs c2 di2 new with
                  | some c' => .ok .nx (e2.set j (.ow b c'))
                  | none => .stuck
                | _ => .stuck
              | none => .stuck
            | _ => .stuck
          | none => .stuck
        | none => .stuck
      | none => .stuck
    | none => .stuck
  | _ => .stuck
section
variable {X : Cx} {C : Cc} {W : WX} {o i e : Expr} {mi m : ME} {pos pos' tpos : Pos} {j : Nat} {gg : D → D → Option D} {g : D → D → Option Val} {gs : D → D → D → Option D} {x : Str} {op : Operator}
theorem s_aug (j : Nat) (h : BO X (inplaceOp op) g) (hN : X.N.Nodup) (hi : X.N[j]? = some x) (hx : Loc X.env.scope x) (he : PE X e (tE C (gd X) W m))
    (hf : X.fn x = true ∨ X.env.scope.names.lookup x = some .local := by first | exact .inl rfl | exact .inr rfl | assumption) : PS X (.AugAssign (.Name x pos') op e pos) (tS C (gd X) W (mAug j g m)) := by
  obtain ⟨rd, h1, h2⟩ := h
  refine (ps_aug (ti := rd) hN hi hx he h1 hf).imp fun D σ H ⟨env, q, h⟩ => ?_
  unfold mAug at h
  cases z : env[j]? with
  | none => rw [z] at h; exact h.elim
  | some s0 =>
    rw [z] at h
    cases s0 with
    | sh d0 =>
      dsimp only at h
      obtain ⟨v0, e0, r0⟩ := q.slot j _ z
      refine ⟨v0, e0, env, q, tK_mono (tSK_E (.refl q) h) fun v H1 ⟨r, e1, _, p1, vr, k1⟩ => ?_⟩
      cases zd : deref e1 r with
      | none => rw [zd] at k1; exact k1.elim
      | some d =>
        rw [zd] at k1
        dsimp only at k1
        cases zg : g d0 d with
        | none => rw [zg] at k1; exact k1.elim
        | some y =>
          rw [zg] at k1
          cases y with
          | d y =>
            dsimp only at k1
            by_cases t : okTgt e1 j = true
            · rw [if_pos t] at k1
              exact h2 v0 v d0 d H1 _ (.d y) (.inl (r0.mono (p1.toPost.kp q))) (deref_ok p1.rel vr zd) zg fun u H2 sm ru => k1 _ _ ((p1.trans (.same p1.rel sm)).toPost.setSh t ru)
            · rw [if_neg t] at k1; exact k1.elim
          | _ => exact k1.elim
    | _ => exact h.elim
theorem s_augIx (hgg : GO X gg) (h : BO X (inplaceOp op) g) (hgs : SO X gs) (ho : PE X o (tVar j)) (hi : PE X i (tE C (gd X) W mi)) (he : PE X e (tE C (gd X) W m))
    (ha : ∀ ov iv new, augStore i ov iv new = (do holding [new, ov, iv] (setItem ov iv new); release [new, ov, iv] []; pure .next) := by intros; rfl) :
    PS X (.AugAssign (.Subscript o i tpos) op e pos) (tS C (gd X) W (mAugIx j gg g gs mi m)) := by
  obtain ⟨rd, h1, h2⟩ := h
  obtain ⟨tg, g1, g2⟩ := hgg
  obtain ⟨ts, s1, s2⟩ := hgs
  refine (ps_augS ho hi g1 he (tip := rd) h1 s1 ha).imp fun D σ H ⟨env, q, h⟩ => ?_
  unfold mAugIx at h
  cases z : env[j]? with
  | none => rw [z] at h; exact h.elim
  | some s0 =>
    rw [z] at h
    cases s0 with
    | ow b0 d0 =>
      dsimp only at h
      obtain ⟨a, ea, oa⟩ := (q.slot j _ z).own rfl
      refine ⟨.ref a, ea, env, q, tK_mono (tSK_E (.refl q) h) fun iv H1 ⟨ri, e1, _, p1, vri, k1⟩ => ?_⟩
      cases zd : deref e1 ri with
      | none => rw [zd] at k1; exact k1.elim
      | some di =>
        rw [zd] at k1
        dsimp only at k1
        cases zo : (e1[j]?).bind Slot.ownd with
        | none => rw [zo] at k1; exact k1.elim
        | some c =>
          rw [zo] at k1
          dsimp only at k1
          obtain ⟨sj, esj, oj⟩ := Option.bind_eq_some_iff.mp zo
          obtain ⟨a1, ea1, oa1⟩ := (p1.rel.slot j _ esj).own oj
          rw [ea] at ea1
          cases ea1
          cases zg : gg c di with
          | none => rw [zg] at k1; exact k1.elim
          | some old =>
            rw [zg] at k1
            refine g2 (.ref a) iv c di old H1 _ (.inr ⟨a, rfl, oa1⟩) (deref_ok p1.rel vri zd) zg fun ov rov => ⟨e1, p1.rel, tK_mono (tSK_E p1 k1) fun v H2 ⟨r, e2, i2, p2, vr, k2⟩ => ?_⟩
            cases zv : deref e2 r with
            | none => rw [zv] at k2; exact k2.elim
            | some dv =>
              rw [zv] at k2
              dsimp only at k2
              cases zn : g old dv with
              | none => rw [zn] at k2; exact k2.elim
              | some y =>
                rw [zn] at k2
                cases y with
                | d y =>
                  dsimp only at k2
                  have vri2 := (vri.post p1.rel (p1.noHeld q) i2.toPost)
                  cases zd2 : deref e2 ri with
                  | none => rw [zd2] at k2; exact k2.elim
                  | some di2 =>
                    rw [zd2] at k2
                    dsimp only at k2
                    cases zj : e2[j]? with
                    | none => rw [zj] at k2; exact k2.elim
                    | some s2' =>
                      rw [zj] at k2
                      cases s2' with
                      | ow b c2 =>
                        dsimp only at k2
                        cases zs : gs c2 di2 y with
                        | none => rw [zs] at k2; exact k2.elim
                        | some c' =>
                          rw [zs] at k2
                          refine h2 ov v old dv H2 _ (.d y) (.inl (rov.mono (i2.toPost.kp p1.rel))) (deref_ok p2.rel vr zv) zn fun u H3 sm ru => ?_
                          have p3 := p2.trans (.same p2.rel sm)
                          obtain ⟨a2, ea2, oa2⟩ := (p3.rel.slot j _ zj).own rfl
                          rw [ea] at ea2
                          cases ea2
                          have d3 : Dr (gd X) H3 iv di2 := by
                            have := vri2.post p2.rel (p2.noHeld q) (PostE.same p2.rel sm).toPost
                            exact deref_ok p3.rel this zd2
                          exact s2 a iv u c2 di2 y c' H3 _ oa2 d3 ru zs fun ob ow' => k2 σ _ (p3.wr zj ea ow').toPost
                      | _ => exact k2.elim
                | _ => exact k2.elim
    | _ => exact h.elim
end
section
variable {X : Cx}
def gAddI : D → D → Option Val := gI (fun _ _ => true) fun i j => .int (i + j)
def gSubI : D → D → Option Val := gI (fun _ _ => true) fun i j => .int (i - j)
theorem iadd_ok : BO X (inplaceOp .Add) gAddI := bo_i0 iop_add
theorem isub_ok : BO X (inplaceOp .Sub) gSubI := bo_i0 iop_sub
end
end PV

set_option Elab.async false
set_option linter.all false
set_option maxRecDepth 100000
set_option maxHeartbeats 4000000
namespace PVI
open PySem PySem.Spec PyProof.Rows L2
theorem meets_enum1 {v : Value} {o : Obj} {H : Heap → Prop} (B : Begins v o H) :
    Meets (Builtin.«enumerate.__new__» ⟨[.type "enumerate", v], []⟩) (fun _ R s => H s.heap ∧
      R (.ok (.ret (.ref (s.heap.push o).objs.size))) { s with heap := (s.heap.push o).push { cls := .type "enumerate", data := .fields #[.none, .bool false, .ref s.heap.objs.size, rawInt 0, .none, .none] } }) :=
  .of_wp fun prog w A R s h => by
    obtain ⟨hp, g, d, tk, os⟩ := s; obtain ⟨h1, h⟩ := h
    have hsub := sub_enumerate
    have q1 : ∀ {A' : Around} {E : Value → Shared → Prop} {Q : Value → Shared → Prop}, Q (.ref hp.objs.size) ⟨hp.push o, g, d, tk, os⟩ → wpAny (model prog w) A' (pyIter v) Q E ⟨hp, g, d, tk, os⟩ :=
      fun q => B.iter prog w _ _ ⟨hp, g, d, tk, os⟩ _ h1 q
    wp_walk using q1
    refine wpAny_stack_any fun st => wpAny_pure ?_
    split
    · rename_i c _ _ _ _ _
      cases (c == Value.type "enumerate")
      · wp_walk using q1
        exact ⟨_, rfl, h⟩
      · wp_walk using q1
        exact ⟨_, rfl, h⟩
    · wp_walk using q1
      exact ⟨_, rfl, h⟩
section
variable {prog : Program} {w : World} {A : Around} {E : Value → Shared → Prop} {s : Shared}
theorem enum1 {v : Value} {o : Obj} {H : Heap → Prop} {Q : Value → Shared → Prop} (B : Begins v o H) (h1 : H s.heap)
    (h : ∀ h', IsEnum h' (s.heap.objs.size + 1) s.heap.objs.size 0 .none → h'.get? s.heap.objs.size = some o → h'.objs.size = s.heap.objs.size + 2 →
      (∀ b o, s.heap.get? b = some o → h'.get? b = some o) → Q (.ref (s.heap.objs.size + 1)) { s with heap := h' }) :
    wpAny (model prog w) A (call (.type "enumerate") [v]) Q E s := by
  refine callType_new F.called_enumerate (by decide) (F.typeCall_enumerate_1 _) (F.newCall_enumerate_1 _) (fun obj => F.args_object_init_2 obj _) F.entry_enumerate_new
    (meets_enum1 B) ⟨h1, ?_⟩
  have hz : (s.heap.push o).objs.size = s.heap.objs.size + 1 := Heap.size_push ..
  show _ ∧ _
  rw [hz]
  have he : IsEnum ((s.heap.push o).push { cls := .type "enumerate", data := .fields #[.none, .bool false, .ref s.heap.objs.size, rawInt 0, .none, .none] }) (s.heap.objs.size + 1) s.heap.objs.size 0 .none := by
    have := Heap.get?_push_size (s.heap.push o) (o := { cls := .type "enumerate", data := .fields #[.none, .bool false, .ref s.heap.objs.size, rawInt 0, .none, .none] }) rfl
    rw [hz] at this; exact this
  refine ⟨⟨_, he, rfl⟩, h _ he (Heap.get?_push_of_some _ (Heap.get?_push_size _ B.free)) (by rw [Heap.size_push, hz]) fun b o x => Heap.get?_push_of_some _ (Heap.get?_push_of_some _ x)⟩
end
/-- enumerate of a tuple -/
def IteT (K : PySem.W.Frag) (a : Addr) : It :=
  ⟨fun i H => ∃ (xs : List V) (x : V), SqT K H a xs ∧ xs[i]? = some x, fun i H v H' => ∃ T x us, v = .ref T ∧ H T = none ∧ H' = upd H T (.frz (PV.tobj us) (.tup [.int (i : Nat), x])) ∧ ∀ xs, SqT K H a xs → xs[i]? = some x, fun i H => ∃ xs : List V, SqT K H a xs ∧ xs.length = i⟩
theorem turn_enumT {P : Program} {w : World} {K : PySem.W.Frag} {elts : List Expr} {kk : Nat} {tpos : Pos} (a e it : Addr) (hai : a ≠ it) (hae : a ≠ e) :
    Turn P w K (.Tuple elts kk tpos) (IteT K a) [e, it] e (fun i h => (∃ old, IsEnum h e it ((i : Nat) : Int) old) ∧ h.IsTupleIter it a i ∧ e ≠ it) where
  mem := by simp
  obj := fun i h st b hb => by
    obtain ⟨⟨old, he⟩, ⟨o, ho, hc, hd⟩, _⟩ := st
    have e' : b = e ∨ b = it := by simpa using hb
    rcases e' with z | z
    · rw [z]; exact ⟨_, he, fun v q => nomatch q⟩
    · rw [z]; exact ⟨o, ho, fun v q => by rw [hd] at q; cases q⟩
  keep := fun i h h' st k => let ⟨⟨old, he⟩, hi, hne⟩ := st; ⟨⟨old, k e (by simp) _ he⟩, hi.at fun o q => k it (by simp) o q, hne⟩
  item := by
    intro X hP hw hK hc i pins s σ H E I hf st hg
    subst hP hw hK
    obtain ⟨⟨old, he⟩, hit, hne⟩ := st
    obtain ⟨xs, x, hq, hx⟩ := hg
    obtain ⟨its, rv, p, hz⟩ := I.tuple hq
    obtain ⟨u, hu, ru⟩ := rv.get hx
    have hl := rv.length
    have hlt : i < its.toArray.size := by have := (List.getElem?_eq_some_iff.mp hu).1; simpa using this
    have hel : e < s.heap.objs.size := Heap.lt_size he
    have hil : it < s.heap.objs.size := by obtain ⟨_, q, _⟩ := hit; exact Heap.lt_size q
    have D := Draws.tuple (prog := X.prog) (w := X.w) (A := X.A.in1) (I.ok.hd hc) it a hai its.toArray
    refine wpAny_pyNext_enum_itemD D he ⟨hit, (show s.heap.IsTuple a its.toArray from p)⟩ hlt hne (by simp only [List.mem_cons, List.not_mem_nil, or_false, not_or]; exact ⟨hne, Ne.symm hae⟩) fun x' h' tk px ho st' hT hsz hk => ?_
    have hxu : x' = u := by
      have : its.toArray[i]? = some u := by simpa using hu
      rw [this] at px
      exact (Option.some.inj px).symm
    subst hxu
    refine ⟨_, rfl, wpAny_letOwnedTupleGo_enum (s := { s with heap := h', toks := tk + 1 }) ho fun h'' he' sb => ?_⟩
    have hT2 : h''.get? s.heap.objs.size = some { cls := .type "tuple", data := .seq #[.int i tk, x'] } := (sb.2 _ (Nat.ne_of_gt hel)).trans hT
    have new : ObjOk X.prog X.w (upd H s.heap.objs.size (.frz (PV.tobj [.int i tk, x']) (.tup [.int (i : Nat), x]))) h'' s.heap.objs.size (.frz (PV.tobj [.int i tk, x']) (.tup [.int (i : Nat), x])) :=
      ⟨hT2, by show 2 ≤ sizeLine; decide, [.int i tk, x'], .cons ⟨_, rfl⟩ (.cons ru .nil), ⟨_, hT2, rfl, _, rfl⟩⟩
    have I1 : Inv X pins σ (upd H s.heap.objs.size (.frz (PV.tobj [.int i tk, x']) (.tup [.int (i : Nat), x]))) { s with heap := h'', toks := tk + 1 } :=
      I.turnedNew (ch := [e, it]) (fun b ob hb q => (sb.2 b (fun z => hb (by simp [z]))).trans (hk b ob (fun z => hb (by simp [z])) (fun z => hb (by simp [z])) q)) hf (Nat.le_refl _) new
    refine ⟨.ref s.heap.objs.size, _, I1, rfl, ⟨_, x, _, rfl, I.hok.fresh (Nat.le_refl _), rfl, fun ys hy => ?_⟩, ⟨⟨x', ?_⟩, st'.1.at fun o q => (sb.2 it (Ne.symm hne)).trans q, hne⟩, fun b hb => ?_⟩
    · rw [I.tuple_inj hy hq]; exact hx
    · have e1 : ((i + 1 : Nat) : Int) = (i : Int) + 1 := by omega
      rw [e1]; exact he'
    · have hb' : b < s.heap.objs.size := by
        have e' : b = e ∨ b = it := by simpa using hb
        rcases e' with z | z
        · rw [z]; exact hel
        · rw [z]; exact hil
      rw [upd_ne (Nat.ne_of_lt hb')]
      exact (hf b hb).1
  done := by
    intro X hP hw hK hc i pins s σ H E I hf st hg
    subst hP hw hK
    obtain ⟨⟨old, he⟩, hit, hne⟩ := st
    obtain ⟨xs, hq, hx⟩ := hg
    obtain ⟨its, rv, p, hz⟩ := I.tuple hq
    obtain ⟨f0, f1, f2, f3, f4, f5⟩ := hf it (by simp)
    have hl := rv.length
    have hn : its.toArray.size = i := by rw [List.size_toArray, ← hl, hx]
    have D := Draws.tuple (prog := X.prog) (w := X.w) (A := X.A.in1) (I.ok.hd hc) it a hai its.toArray
    exact wpAny_pyNext_enum_endD D he ⟨by rw [hn]; exact hit, (show s.heap.IsTuple a its.toArray from p)⟩ fun h' eb => ⟨rfl, I.turned (t' := s.toks) (fun b o hb q => eb b o hb q) f0 f1 f3 f4 f5⟩
  self := fun A i s Q E st h => let ⟨⟨_, he⟩, _⟩ := st; wpAny_pyIter_enum he h
/-- enumerate of a list -/
def IteL (K : PySem.W.Frag) (a : Addr) : It :=
  ⟨fun i H => ∃ (xs : List V) (x : V), SqL K H a xs ∧ xs[i]? = some x, fun i H v H' => ∃ T x us, v = .ref T ∧ H T = none ∧ H' = upd H T (.frz (PV.tobj us) (.tup [.int (i : Nat), x])) ∧ ∀ xs, SqL K H a xs → xs[i]? = some x, fun i H => ∃ xs : List V, SqL K H a xs ∧ xs.length = i⟩
theorem turn_enumL {P : Program} {w : World} {K : PySem.W.Frag} {elts : List Expr} {kk : Nat} {tpos : Pos} (a e it : Addr) (hai : a ≠ it) (hae : a ≠ e) :
    Turn P w K (.Tuple elts kk tpos) (IteL K a) [e, it] e (fun i h => (∃ old, IsEnum h e it ((i : Nat) : Int) old) ∧ h.IsListIter it a i ∧ e ≠ it) where
  mem := by simp
  obj := fun i h st b hb => by
    obtain ⟨⟨old, he⟩, ⟨o, ho, hc, hd⟩, _⟩ := st
    have e' : b = e ∨ b = it := by simpa using hb
    rcases e' with z | z
    · rw [z]; exact ⟨_, he, fun v q => nomatch q⟩
    · rw [z]; exact ⟨o, ho, fun v q => by rw [hd] at q; cases q⟩
  keep := fun i h h' st k => let ⟨⟨old, he⟩, hi, hne⟩ := st; ⟨⟨old, k e (by simp) _ he⟩, hi.at fun o q => k it (by simp) o q, hne⟩
  item := by
    intro X hP hw hK hc i pins s σ H E I hf st hg
    subst hP hw hK
    obtain ⟨⟨old, he⟩, hit, hne⟩ := st
    obtain ⟨xs, x, hq, hx⟩ := hg
    obtain ⟨its, rv, p, hz⟩ := I.list hq
    obtain ⟨u, hu, ru⟩ := rv.get hx
    have hl := rv.length
    have hlt : i < its.toArray.size := by have := (List.getElem?_eq_some_iff.mp hu).1; simpa using this
    have hel : e < s.heap.objs.size := Heap.lt_size he
    have hil : it < s.heap.objs.size := by obtain ⟨_, q, _⟩ := hit; exact Heap.lt_size q
    have D := Draws.list (prog := X.prog) (w := X.w) (A := X.A.in1) (I.ok.hd hc) it a hai its.toArray
    refine wpAny_pyNext_enum_itemD D he ⟨hit, p.isList⟩ hlt hne (by simp only [List.mem_cons, List.not_mem_nil, or_false, not_or]; exact ⟨hne, Ne.symm hae⟩) fun x' h' tk px ho st' hT hsz hk => ?_
    have hxu : x' = u := by
      have : its.toArray[i]? = some u := by simpa using hu
      rw [this] at px
      exact (Option.some.inj px).symm
    subst hxu
    refine ⟨_, rfl, wpAny_letOwnedTupleGo_enum (s := { s with heap := h', toks := tk + 1 }) ho fun h'' he' sb => ?_⟩
    have hT2 : h''.get? s.heap.objs.size = some { cls := .type "tuple", data := .seq #[.int i tk, x'] } := (sb.2 _ (Nat.ne_of_gt hel)).trans hT
    have new : ObjOk X.prog X.w (upd H s.heap.objs.size (.frz (PV.tobj [.int i tk, x']) (.tup [.int (i : Nat), x]))) h'' s.heap.objs.size (.frz (PV.tobj [.int i tk, x']) (.tup [.int (i : Nat), x])) :=
      ⟨hT2, by show 2 ≤ sizeLine; decide, [.int i tk, x'], .cons ⟨_, rfl⟩ (.cons ru .nil), ⟨_, hT2, rfl, _, rfl⟩⟩
    have I1 : Inv X pins σ (upd H s.heap.objs.size (.frz (PV.tobj [.int i tk, x']) (.tup [.int (i : Nat), x]))) { s with heap := h'', toks := tk + 1 } :=
      I.turnedNew (ch := [e, it]) (fun b ob hb q => (sb.2 b (fun z => hb (by simp [z]))).trans (hk b ob (fun z => hb (by simp [z])) (fun z => hb (by simp [z])) q)) hf (Nat.le_refl _) new
    refine ⟨.ref s.heap.objs.size, _, I1, rfl, ⟨_, x, _, rfl, I.hok.fresh (Nat.le_refl _), rfl, fun ys hy => ?_⟩, ⟨⟨x', ?_⟩, st'.1.at fun o q => (sb.2 it (Ne.symm hne)).trans q, hne⟩, fun b hb => ?_⟩
    · rw [I.list_inj hy hq]; exact hx
    · have e1 : ((i + 1 : Nat) : Int) = (i : Int) + 1 := by omega
      rw [e1]; exact he'
    · have hb' : b < s.heap.objs.size := by
        have e' : b = e ∨ b = it := by simpa using hb
        rcases e' with z | z
        · rw [z]; exact hel
        · rw [z]; exact hil
      rw [upd_ne (Nat.ne_of_lt hb')]
      exact (hf b hb).1
  done := by
    intro X hP hw hK hc i pins s σ H E I hf st hg
    subst hP hw hK
    obtain ⟨⟨old, he⟩, hit, hne⟩ := st
    obtain ⟨xs, hq, hx⟩ := hg
    obtain ⟨its, rv, p, hz⟩ := I.list hq
    obtain ⟨f0, f1, f2, f3, f4, f5⟩ := hf it (by simp)
    have hl := rv.length
    have hn : its.toArray.size = i := by rw [List.size_toArray, ← hl, hx]
    have D := Draws.list (prog := X.prog) (w := X.w) (A := X.A.in1) (I.ok.hd hc) it a hai its.toArray
    exact wpAny_pyNext_enum_endD D he ⟨by rw [hn]; exact hit, p.isList⟩ fun h' eb => ⟨rfl, I.turned (t' := s.toks) (fun b o hb q => eb b o hb q) f0 f1 f3 f4 f5⟩
  self := fun A i s Q E st h => let ⟨⟨_, he⟩, _⟩ := st; wpAny_pyIter_enum he h
end PVI

set_option Elab.async false
set_option linter.all false
set_option maxRecDepth 100000
set_option maxHeartbeats 4000000
namespace PV
open PySem PySem.Spec PyProof.Rows L2 PVD PVI
def signs (z : Str) : List D := z.cps.toList.map fun c => .str ⟨#[c]⟩
/-- what is walked: the items, the slot to lock -/
def walk (r : Val) (e : En) : Option (List D × Option Nat) := match r with
  | .d (.list ds) => some (ds, none)
  | .d (.tuple ds) => some (ds, none)
  | .d (.str z) => some (signs z, none)
  | .nw (.list ds) => some (ds, none)
  | .own j => match e[j]? with
    | some (.ow _ (.list ds)) => some (ds, some j)
    | some (.lk _ (.list ds)) => some (ds, none)
    | some (.sh (.list ds)) => some (ds, none)
    | some (.sh (.tuple ds)) => some (ds, none)
    | some (.sh (.str z)) => some (signs z, none)
    | _ => none
  | _ => none
section
variable {G : Gd} {C : Cc} {env e1 : En} {σ : L2.St} {H H1 : Hp}
theorem Reach.kp (q : Rel G C e1 σ H1) {H2 : Hp} (r : Reach e1 σ H1 H2) : Kp H1 H2 :=
  ⟨fun a xs h => r a _ h (fun _ z => nomatch z) (q.notMut h (.inl ⟨_, rfl⟩)), fun a o u h => r a _ h (fun _ z => nomatch z) (q.notMut h (.inr ⟨_, _, rfl⟩))⟩
/-- v is walked over ds while the rest runs -/
def WalkB (G : Gd) (H1 : Hp) (e : En) (σ : L2.St) (v : V) (ds : List D) : Prop :=
  (∃ a vs, v = .ref a ∧ SqL G.K H1 a vs ∧ ∀ H2, Reach e σ H1 H2 → SqL G.K H2 a vs ∧ Reps G H2 vs ds) ∨
  (∃ a vs, v = .ref a ∧ SqT G.K H1 a vs ∧ ∀ H2, Reach e σ H1 H2 → SqT G.K H2 a vs ∧ Reps G H2 vs ds) ∨
  ∃ z, v = .str z ∧ ds = signs z
theorem walkRep (q : Rel G C e1 σ H1) {v : V} {d : D} (h : Rep G H1 v d) {ds : List D} {o : Option Nat} (e : walk (.d d) e1 = some (ds, o)) : o = none ∧ WalkB G H1 e1 σ v ds := by
  cases h with
  | tup hs hr => cases e; exact ⟨rfl, .inr (.inl ⟨_, _, rfl, hs.sq, fun H2 r => ⟨(Reach.kp q r).sqT hs.sq, hr.mono (Reach.kp q r)⟩⟩)⟩
  | lst hs hr => cases e; exact ⟨rfl, .inl ⟨_, _, rfl, hs.sq, fun H2 r => ⟨((Reach.kp q r).sqF hs).sq, hr.mono (Reach.kp q r)⟩⟩⟩
  | str z => cases e; exact ⟨rfl, .inr (.inr ⟨z, rfl, rfl⟩)⟩
  | _ => cases e
theorem walkOwn (q : Rel G C e1 σ H1) {a : Addr} {ds : List D} (ow : Own G H1 a (.list ds)) (nm : ¬ MutAt e1 σ a) : WalkB G H1 e1 σ (.ref a) ds := by
  obtain ⟨vs, h1, h2⟩ := ow
  exact .inl ⟨a, vs, rfl, .of h1, fun H2 r => ⟨.of (r a _ h1 (fun _ z => nomatch z) nm), h2.mono (Reach.kp q r)⟩⟩
theorem walk_ok (q : Rel G C env σ H) (p : PostE G C env σ H e1 H1) {v : V} {r : Val} (vr : ValRel G H e1 σ H1 v r) {ds : List D} {o : Option Nat} (e : walk r e1 = some (ds, o)) : WalkB G H1 (lockE o e1) σ v ds := by
  have rep : ∀ {d}, Rep G H1 v d → walk (.d d) e1 = some (ds, o) → WalkB G H1 (lockE o e1) σ v ds := fun {d} h e => by
    obtain ⟨rfl, w⟩ := walkRep p.rel h e
    exact w
  cases r with
  | d x => exact rep vr e
  | nw x =>
    cases x with
    | list xs =>
      cases e
      obtain ⟨a, rfl, hn, ow⟩ := vr
      exact walkOwn p.rel ow fun m => by
        obtain ⟨i, hh⟩ := m.held
        exact p.noHeld q a hn ⟨i, hh⟩
    | _ => cases e
  | xc c => cases e
  | own j =>
    obtain ⟨h1, h2⟩ := vr
    unfold walk at e
    cases hs : e1[j]? with
    | none => simp [hs] at e
    | some sj =>
      have sr := p.rel.slot j sj hs
      rw [h1] at sr
      cases sj with
      | un => simp [hs] at e
      | xc c => exact sr.elim
      | sh d =>
        obtain ⟨v', ev, rp⟩ := sr
        cases ev
        cases d with
        | list xs => simp [hs] at e; obtain ⟨rfl, rfl⟩ := e; exact rep rp rfl
        | tuple xs => simp [hs] at e; obtain ⟨rfl, rfl⟩ := e; exact rep rp rfl
        | str xs => simp [hs] at e; obtain ⟨rfl, rfl⟩ := e; exact rep rp rfl
        | _ => simp [hs] at e
      | ow b d =>
        obtain ⟨a, ev, ow⟩ := sr
        cases ev
        cases d with
        | list xs =>
          simp [hs] at e
          obtain ⟨rfl, rfl⟩ := e
          have ql := p.rel.lock hs
          have el : lockE (some j) e1 = e1.set j (.lk b (.list xs)) := by simp [lockE, hs]
          rw [el]
          refine walkOwn ql ow fun ⟨k, bb, x, m1, m2⟩ => ?_
          have lt : j < e1.length := (List.getElem?_eq_some_iff.mp hs).1
          have kj : k = j := ql.inj k j a ⟨⟨_, x, m1, rfl⟩, m2⟩ ⟨⟨_, _, List.getElem?_set_self lt, rfl⟩, h1⟩
          subst kj
          rw [List.getElem?_set_self lt] at m1
          cases m1
        | _ => simp [hs] at e
      | lk b d =>
        obtain ⟨a, ev, ow⟩ := sr
        cases ev
        cases d with
        | list xs =>
          simp [hs] at e
          obtain ⟨rfl, rfl⟩ := e
          refine walkOwn p.rel ow fun ⟨k, bb, x, m1, m2⟩ => ?_
          have kj : k = j := p.rel.inj k j a ⟨⟨_, x, m1, rfl⟩, m2⟩ ⟨⟨_, _, hs, rfl⟩, h1⟩
          subst kj
          rw [hs] at m1
          cases m1
        | _ => simp [hs] at e
theorem ItOk.list {a : Addr} {vs : List V} {ds : List D} {e : En} (h : ∀ H2, Reach e σ H1 H2 → SqL G.K H2 a vs ∧ Reps G H2 vs ds) : ItOk G (Itl G.K a) e σ H1 ds := fun H2 r => by
  obtain ⟨h1, h2⟩ := h H2 r
  refine ⟨fun i d hd => ?_, vs, h1, by rw [h2.length]; exact Nat.le_refl _⟩
  obtain ⟨v, hv, rv⟩ := h2.getD hd
  refine ⟨⟨vs, v, h1, hv⟩, fun v' H3 ⟨e3, y⟩ => ?_⟩
  subst e3
  have := y vs h1
  rw [hv] at this
  cases this
  exact ⟨Same.refl _, rv⟩
theorem ItOk.tup {a : Addr} {vs : List V} {ds : List D} {e : En} (h : ∀ H2, Reach e σ H1 H2 → SqT G.K H2 a vs ∧ Reps G H2 vs ds) : ItOk G (Itt G.K a) e σ H1 ds := fun H2 r => by
  obtain ⟨h1, h2⟩ := h H2 r
  refine ⟨fun i d hd => ?_, vs, h1, by rw [h2.length]; exact Nat.le_refl _⟩
  obtain ⟨v, hv, rv⟩ := h2.getD hd
  refine ⟨⟨vs, v, h1, hv⟩, fun v' H3 ⟨e3, y⟩ => ?_⟩
  subst e3
  have := y vs h1
  rw [hv] at this
  cases this
  exact ⟨Same.refl _, rv⟩
theorem ItOk.str {z : Str} {e : En} : ItOk G (Its z) e σ H1 (signs z) := fun H2 r => by
  refine ⟨fun i d hd => ?_, ?_⟩
  · unfold signs at hd
    rw [List.getElem?_map] at hd
    cases q : z.cps.toList[i]? with
    | none => rw [q] at hd; cases hd
    | some c =>
      rw [q] at hd
      cases hd
      have lt := (List.getElem?_eq_some_iff.mp q).1
      refine ⟨(by show i < z.cps.size; simpa using lt), fun v H3 ⟨e3, c', hc, ev⟩ => ?_⟩
      subst e3 ev
      rw [← Array.getElem?_toList, q] at hc
      cases hc
      exact ⟨Same.refl _, .str _⟩
  · show z.cps.size ≤ (signs z).length
    simp [signs]
def enumD (ds : List D) : List D := ds.zipIdx.map fun p => .tuple [.int (p.2 : Nat), p.1]
theorem enumD_at {ds : List D} {i : Nat} {d : D} (h : (enumD ds)[i]? = some d) : ∃ x, ds[i]? = some x ∧ d = .tuple [.int (i : Nat), x] := by
  unfold enumD at h
  rw [List.getElem?_map, List.getElem?_zipIdx] at h
  cases q : ds[i]? with
  | none => rw [q] at h; cases h
  | some x =>
    rw [q] at h
    cases h
    exact ⟨x, rfl, by simp⟩
theorem enumD_len {ds : List D} : (enumD ds).length = ds.length := by simp [enumD]
theorem ItOk.enum {a : Addr} {vs : List V} {ds : List D} {e : En} (h : ∀ H2, Reach e σ H1 H2 → SqL G.K H2 a vs ∧ Reps G H2 vs ds) : ItOk G (IteL G.K a) e σ H1 (enumD ds) := fun H2 r => by
  obtain ⟨h1, h2⟩ := h H2 r
  refine ⟨fun i d hd => ?_, vs, h1, by rw [h2.length, enumD_len]⟩
  obtain ⟨x, hx, rfl⟩ := enumD_at hd
  obtain ⟨v, hv, rv⟩ := h2.getD hx
  refine ⟨⟨vs, v, h1, hv⟩, fun v' H3 ⟨T, x', us, ev, hT, e3, y⟩ => ?_⟩
  subst e3 ev
  have := y vs h1
  rw [hv] at this
  cases this
  exact ⟨same_upd hT, new_tup hT (.cons (.int _) (.cons rv .nil))⟩
theorem ItOk.enumT {a : Addr} {vs : List V} {ds : List D} {e : En} (h : ∀ H2, Reach e σ H1 H2 → SqT G.K H2 a vs ∧ Reps G H2 vs ds) : ItOk G (IteT G.K a) e σ H1 (enumD ds) := fun H2 r => by
  obtain ⟨h1, h2⟩ := h H2 r
  refine ⟨fun i d hd => ?_, vs, h1, by rw [h2.length, enumD_len]⟩
  obtain ⟨x, hx, rfl⟩ := enumD_at hd
  obtain ⟨v, hv, rv⟩ := h2.getD hx
  refine ⟨⟨vs, v, h1, hv⟩, fun v' H3 ⟨T, x', us, ev, hT, e3, y⟩ => ?_⟩
  subst e3 ev
  have := y vs h1
  rw [hv] at this
  cases this
  exact ⟨same_upd hT, new_tup hT (.cons (.int _) (.cons rv .nil))⟩
def rngD (lo c : Int) (n : Nat) : List D := (List.range n).map fun i => .int (lo + (i : Nat) * c)
theorem rngD_at {lo c : Int} {n i : Nat} {d : D} (h : (rngD lo c n)[i]? = some d) : i < n ∧ d = .int (lo + (i : Nat) * c) := by
  unfold rngD at h
  rw [List.getElem?_map] at h
  by_cases lt : i < n
  · rw [List.getElem?_range lt] at h
    cases h
    exact ⟨lt, rfl⟩
  · rw [List.getElem?_eq_none (by simpa using lt)] at h
    cases h
theorem rngD_len {lo c : Int} {n : Nat} : (rngD lo c n).length = n := by simp [rngD]
theorem ItOk.rng {lo : Int} {n : Nat} {e : En} : ItOk G (Itr lo n) e σ H1 (rngD lo 1 n) := fun H2 r => by
  refine ⟨fun i d hd => ?_, by show n ≤ (rngD lo 1 n).length; rw [rngD_len]; exact Nat.le_refl _⟩
  obtain ⟨lt, rfl⟩ := rngD_at hd
  refine ⟨lt, fun v H3 ⟨e3, ev⟩ => ?_⟩
  subst e3 ev
  rw [Int.mul_one]
  exact ⟨Same.refl _, .int _⟩
theorem ItOk.rngC {lo c : Int} {n : Nat} {e : En} : ItOk G (Itc lo c n) e σ H1 (rngD lo c n) := fun H2 r => by
  refine ⟨fun i d hd => ?_, by show n ≤ (rngD lo c n).length; rw [rngD_len]; exact Nat.le_refl _⟩
  obtain ⟨lt, rfl⟩ := rngD_at hd
  refine ⟨lt, fun v H3 ⟨e3, ev⟩ => ?_⟩
  subst e3 ev
  exact ⟨Same.refl _, .int _⟩
end
def iSeq (m : ME) : MI := fun env => (m env).bind fun r e => match walk r e with
  | some p => .ok p e
  | none => .stuck
def small62 (i : Int) : Bool := decide (-(2 ^ 62) ≤ i) && decide (i < 2 ^ 62)
theorem small62.ok {i : Int} (h : small62 i = true) : -(2 ^ 62) ≤ i ∧ i < 2 ^ 62 := by
  unfold small62 at h
  rw [Bool.and_eq_true] at h
  exact ⟨of_decide_eq_true h.1, of_decide_eq_true h.2⟩
/-- range(..), from the arguments -/
def rngOf : List D → Option (List D)
  | [.int j] => if small62 j = true then some (rngD 0 1 j.toNat) else none
  | [.int i, .int j] => if small62 i = true ∧ small62 j = true then some (rngD i 1 (j - i).toNat) else none
  | [.int i, .int j, .int c] => if small62 i = true ∧ small62 j = true then
      if c = -1 then some (rngD i (-1) (i - j).toNat)
      else if 0 < c ∧ c < 1073741824 ∧ Builtin.Range.small i j c = true then some (rngD i c (Builtin.Range.rangeSize i j c).toNat) else none
    else none
  | _ => none
def iRange (ms : En → R (List Val)) : MI := fun env => (ms env).bind fun rs e => match derefs e rs with
  | some ds => match rngOf ds with
    | some xs => .ok (xs, none) e
    | none => .stuck
  | none => .stuck
def iEnumD (m : ME) : MI := fun env => (m env).bind fun r e => match walk r e with
  | some (ds, o) => match r with
    | .d (.str _) => .stuck
    | .own j => match e[j]? with
      | some (.sh (.str _)) => .stuck
      | _ => .ok (enumD ds, o) e
    | _ => .ok (enumD ds, o) e
  | none => .stuck
section
variable {X : Cx} {C : Cc} {W : WX} {tg e a b c : Expr} {m : ME} {ms : En → R (List Val)} {p pos tpos : Pos} {elts : List Expr} {kk : Nat}
theorem tI_of {env e1 : En} {σ : L2.St} {H : Hp} {R : It → Hp → Prop} {mi : MI} (q : Rel (gd X) C env σ H) (h : match mi env with
  | .stuck => False
  | .ok r e1 => ∀ J H1, PostE (gd X) C env σ H e1 H1 → ItOk (gd X) J (lockE r.2 e1) σ H1 r.1 → R J H1
  | .exc c e1 => ∀ H1, PostE (gd X) C env σ H e1 H1 → W (.ref (C.cl c)) none σ H1) : tI C (gd X) W mi σ H R := ⟨env, q, h⟩
/-- the first part of an iterable -/
theorem itE {env : En} {σ : L2.St} {H : Hp} {R : It → Hp → Prop} {f : Val → En → PV.R (List D × Option Nat)} (q : Rel (gd X) C env σ H) {ma : PV.R Val} (h : match ma.bind f with
  | .stuck => False
  | .ok r e1 => ∀ J H1, PostE (gd X) C env σ H e1 H1 → ItOk (gd X) J (lockE r.2 e1) σ H1 r.1 → R J H1
  | .exc c e1 => ∀ H1, PostE (gd X) C env σ H e1 H1 → W (.ref (C.cl c)) none σ H1) :
    tK C (gd X) W (ValRel (gd X)) env σ H ma (fun v H1 => ∃ r e1, PostE (gd X) C env σ H e1 H1 ∧ ValRel (gd X) H e1 σ H1 v r ∧ match f r e1 with
      | .stuck => False
      | .ok r e2 => ∀ J H2, PostE (gd X) C env σ H e2 H2 → ItOk (gd X) J (lockE r.2 e2) σ H2 r.1 → R J H2
      | .exc c e2 => ∀ H2, PostE (gd X) C env σ H e2 H2 → W (.ref (C.cl c)) none σ H2) := by
  cases ma with
  | stuck => exact h
  | exc c e => exact h
  | ok r e1 => exact fun v H1 p1 vr => ⟨r, e1, p1, vr, h⟩
theorem itA {env : En} {σ : L2.St} {H : Hp} {R : It → Hp → Prop} {f : List Val → En → PV.R (List D × Option Nat)} (q : Rel (gd X) C env σ H) {ma : PV.R (List Val)} (h : match ma.bind f with
  | .stuck => False
  | .ok r e1 => ∀ J H1, PostE (gd X) C env σ H e1 H1 → ItOk (gd X) J (lockE r.2 e1) σ H1 r.1 → R J H1
  | .exc c e1 => ∀ H1, PostE (gd X) C env σ H e1 H1 → W (.ref (C.cl c)) none σ H1) :
    tK C (gd X) W (ValRels (gd X)) env σ H ma (fun v H1 => ∃ r e1, ma = .ok r e1 ∧ PostE (gd X) C env σ H e1 H1 ∧ ValRels (gd X) H e1 σ H1 v r ∧ match f r e1 with
      | .stuck => False
      | .ok r e2 => ∀ J H2, PostE (gd X) C env σ H e2 H2 → ItOk (gd X) J (lockE r.2 e2) σ H2 r.1 → R J H2
      | .exc c e2 => ∀ H2, PostE (gd X) C env σ H e2 H2 → W (.ref (C.cl c)) none σ H2) := by
  cases ma with
  | stuck => exact h
  | exc c e => exact h
  | ok r e1 => exact fun v H1 p1 vr => ⟨r, e1, rfl, p1, vr, h⟩
def iAny (K : PySem.W.Frag) (te : TE) : TI := fun σ H R => te σ H fun v H1 => (∃ a, v = .ref a ∧ (∃ xs, SqL K H1 a xs) ∧ R (Itl K a) H1) ∨ (∃ a, v = .ref a ∧ (∃ xs, SqT K H1 a xs) ∧ R (Itt K a) H1) ∨ ∃ x, v = .str x ∧ R (Its x) H1
theorem pi_any {te : TE} (he : PE X e te) : PI X tg e (iAny X.K te) := by
  refine ⟨fun pins s σ H R I h => ?_⟩
  refine thn (he.run pins s σ H _ I h) fun v s1 ⟨x, H1, I1, r1, q1⟩ => ?_
  rcases q1 with ⟨a, ea, ⟨xs, hq⟩, q⟩ | ⟨a, ea, ⟨xs, hq⟩, q⟩ | ⟨z, ez, q⟩
  · subst ea
    cases r1
    obtain ⟨its, rv, p, hz⟩ := I1.list hq
    exact wpAny_pyIter_list p.isList (pi_one (tk := s1.toks) I1 _ (turn_list a _) ⟨_, Heap.get?_push_size _ rfl, rfl, rfl⟩ q)
  · subst ea
    cases r1
    obtain ⟨its, rv, p, hz⟩ := I1.tuple hq
    exact wpAny_pyIter_tuple (show s1.heap.IsTuple a its.toArray from p) (pi_one (tk := s1.toks) I1 _ (turn_tuple a _) ⟨_, Heap.get?_push_size _ rfl, rfl, rfl⟩ q)
  · subst ez
    obtain ⟨t, rfl⟩ := r1
    cases ha : z.cps.all (· < 128)
    · exact wpAny_pyIter_wide ha (pi_one (tk := s1.toks) I1 _ (turn_str _ z t "str_iterator" (.inr rfl)) ⟨_, Heap.get?_push_size _ rfl, rfl, rfl⟩ q)
    · exact wpAny_pyIter_ascii ha (pi_one (tk := s1.toks) I1 _ (turn_str _ z t "str_ascii_iterator" (.inl rfl)) ⟨_, Heap.get?_push_size _ rfl, rfl, rfl⟩ q)
theorem _root_.L2.PI.imp {t t' : TI} (h : PI X tg e t) (i : ∀ σ H R, t' σ H R → t σ H R) : PI X tg e t' := ⟨fun pins s σ H R I hq => h.run pins s σ H R I (i σ H R hq)⟩
theorem i_seq (he : PE X e (tE C (gd X) W m)) : PI X tg e (tI C (gd X) W (iSeq m)) := (pi_any he).imp fun σ H R ⟨env, q, h⟩ => ⟨env, q, tK_mono (itE q h) fun v H1 ⟨r, e1, p1, vr, k⟩ => by
  cases z : walk r e1 with
  | none => rw [z] at k; exact k.elim
  | some po =>
    obtain ⟨ds, o⟩ := po
    rw [z] at k
    dsimp only at k
    rcases walk_ok q p1 vr z with ⟨a, vs, ev, h1, h2⟩ | ⟨a, vs, ev, h1, h2⟩ | ⟨y, ev, ed⟩
    · exact .inl ⟨a, ev, ⟨vs, h1⟩, k _ H1 p1 (ItOk.list h2)⟩
    · exact .inr (.inl ⟨a, ev, ⟨vs, h1⟩, k _ H1 p1 (ItOk.tup h2)⟩)
    · subst ed
      exact .inr (.inr ⟨y, ev, k _ H1 p1 ItOk.str⟩)⟩
theorem aNil_ok {env e1 : En} {rs : List Val} (h : aNil env = .ok rs e1) : rs = [] := by cases h; rfl
theorem aCons_ok {m : ME} {r : En → PV.R (List Val)} {env e1 : En} {rs : List Val} (h : aCons m r env = .ok rs e1) : ∃ v vs e2, rs = v :: vs ∧ r e2 = .ok vs e1 := by
  unfold aCons at h
  cases q : m env with
  | stuck => rw [q] at h; cases h
  | exc c e => rw [q] at h; cases h
  | ok v e2 =>
    rw [q] at h
    have h : (r e2).bind (fun vs e2 => R.ok (v :: vs) e2) = .ok rs e1 := h
    cases q2 : r e2 with
    | stuck => rw [q2] at h; cases h
    | exc c e => rw [q2] at h; cases h
    | ok vs e3 =>
      rw [q2] at h
      cases h
      exact ⟨v, vs, e2, rfl, q2⟩
theorem i_range1 {ma : ME} (hg : Gl X "range") (hm : X.mg "range" = none) (ha : PE X a (tE C (gd X) W ma)) (hs : starEach [a] X.env = [(false, eval a X.env)] := by rfl) : PI X tg (.Call (.Name "range" p) [a] [] pos) (tI C (gd X) W (iRange (aCons ma aNil))) :=
  (pi_range1 hg hm (a_cons ha a_nil hs) hs).imp fun σ H R ⟨env, q, h⟩ => ⟨env, q, tK_mono (itA q h) fun vs H1 ⟨rs, e1, eo, p1, vr, k⟩ => by
    obtain ⟨v1, vs1, e2, rfl, eo2⟩ := aCons_ok eo
    obtain rfl := aNil_ok eo2
    cases z : derefs e1 [v1] with
    | none => rw [z] at k; exact k.elim
    | some ds =>
      rw [z] at k
      dsimp only at k
      have dr := derefs_ok p1.rel vr z
      cases vr with
      | cons _ t =>
        cases t
        cases dr with
        | cons d1 t1 =>
          cases t1
          rename_i d
          cases d with
          | int j =>
            have k : match (match (if small62 j = true then some (rngD 0 1 j.toNat) else none) with | some xs => PV.R.ok (xs, (none : Option Nat)) e1 | none => .stuck) with
              | .stuck => False
              | .ok r e2 => ∀ J H2, PostE (gd X) C env σ H e2 H2 → ItOk (gd X) J (lockE r.2 e2) σ H2 r.1 → R J H2
              | .exc c e2 => ∀ H2, PostE (gd X) C env σ H e2 H2 → W (.ref (C.cl c)) none σ H2 := k
            by_cases s : small62 j = true
            · rw [if_pos s] at k
              obtain ⟨s1, s2⟩ := small62.ok s
              exact ⟨j, by rw [d1.int], s1, s2, k _ H1 p1 ItOk.rng⟩
            · rw [if_neg s] at k; exact k.elim
          | _ => exact k.elim⟩
theorem i_range2 {ma mb : ME} (hg : Gl X "range") (hm : X.mg "range" = none) (ha : PE X a (tE C (gd X) W ma)) (hb : PE X b (tE C (gd X) W mb)) (hs : starEach [a, b] X.env = [(false, eval a X.env), (false, eval b X.env)] := by rfl) (hs2 : starEach [b] X.env = [(false, eval b X.env)] := by rfl) :
    PI X tg (.Call (.Name "range" p) [a, b] [] pos) (tI C (gd X) W (iRange (aCons ma (aCons mb aNil)))) :=
  (pi_range2 hg hm (a_cons ha (a_cons hb a_nil hs2) (by rw [hs, hs2])) hs hs2).imp fun σ H R ⟨env, q, h⟩ => ⟨env, q, tK_mono (itA q h) fun vs H1 ⟨rs, e1, eo, p1, vr, k⟩ => by
    obtain ⟨v1, vs1, e2, rfl, eo2⟩ := aCons_ok eo
    obtain ⟨v2, vs2, e3, rfl, eo3⟩ := aCons_ok eo2
    obtain rfl := aNil_ok eo3
    cases z : derefs e1 [v1, v2] with
    | none => rw [z] at k; exact k.elim
    | some ds =>
      rw [z] at k
      dsimp only at k
      have dr := derefs_ok p1.rel vr z
      cases vr with
      | cons _ t =>
        cases t with
        | cons _ t =>
          cases t
          cases dr with
          | cons d1 t1 =>
            cases t1 with
            | cons d2 t2 =>
              cases t2
              rename_i x y
              cases x with
              | int i =>
                cases y with
                | int j =>
                  have k : match (match (if small62 i = true ∧ small62 j = true then some (rngD i 1 (j - i).toNat) else none) with | some xs => PV.R.ok (xs, (none : Option Nat)) e1 | none => .stuck) with
                    | .stuck => False
                    | .ok r e2 => ∀ J H2, PostE (gd X) C env σ H e2 H2 → ItOk (gd X) J (lockE r.2 e2) σ H2 r.1 → R J H2
                    | .exc c e2 => ∀ H2, PostE (gd X) C env σ H e2 H2 → W (.ref (C.cl c)) none σ H2 := k
                  by_cases s : small62 i = true ∧ small62 j = true
                  · rw [if_pos s] at k
                    obtain ⟨s1, s2⟩ := small62.ok s.1
                    obtain ⟨s3, s4⟩ := small62.ok s.2
                    exact ⟨i, j, by rw [d1.int, d2.int], ⟨s1, s2, s3, s4⟩, k _ H1 p1 ItOk.rng⟩
                  · rw [if_neg s] at k; exact k.elim
                | _ => exact k.elim
              | _ => exact k.elim⟩
def iEnumA (K : PySem.W.Frag) (te : TE) : TI := fun σ H R => te σ H fun v H1 => (∃ a xs, v = .ref a ∧ SqL K H1 a xs ∧ R (IteL K a) H1) ∨ ∃ a xs, v = .ref a ∧ SqT K H1 a xs ∧ R (IteT K a) H1
theorem pi_enumA {te : TE} (hg : Gl X "enumerate") (hm : X.mg "enumerate" = none) (he : PE X e te) (hs : starEach [e] X.env = (false, eval e X.env) :: starEach [] X.env := by rfl) :
    PI X (.Tuple elts kk tpos) (.Call (.Name "enumerate" p) [e] [] pos) (iEnumA X.K te) := by
  refine ⟨fun pins s σ H R I h => ?_⟩
  refine Call_ (ld_blt I hg hm boot_enumerate (PyProof.Rows.callWith_type1 (args_cons (thn (he.run pins s σ H _ I h) fun u s1 ⟨v, H1, I1, r1, q1⟩ => args_nil ?_) hs) hs rfl))
  rcases q1 with ⟨a, xs, ex, hq, q⟩ | ⟨a, xs, ex, hq, q⟩
  · subst ex
    cases r1
    obtain ⟨its, rv, p', hz⟩ := I1.list hq
    have lt : a < s1.heap.objs.size := by obtain ⟨_, _, e, _⟩ := id p'; exact Heap.lt_size e
    refine call_enumerate_list p'.isList fun h' he hit hsz hk => wpAny_pyIter_enum he ?_
    have I2 : Inv X pins σ H1 { s1 with heap := h' } := I1.kept (t' := s1.toks) hk
    refine ⟨s1.heap.objs.size + 1, [s1.heap.objs.size + 1, s1.heap.objs.size], _, _, H1, rfl, I2, turn_enumL a (s1.heap.objs.size + 1) s1.heap.objs.size (Nat.ne_of_lt lt) (Nat.ne_of_lt (Nat.lt_succ_of_lt lt)), ⟨⟨.none, he⟩, hit, Nat.succ_ne_self _⟩, fun b hb => ?_, q⟩
    have e' : b = s1.heap.objs.size + 1 ∨ b = s1.heap.objs.size := by simpa using hb
    have hle : s1.heap.objs.size ≤ b := by
      rcases e' with z | z
      · rw [z]; exact Nat.le_add_right _ _
      · rw [z]; exact Nat.le_refl _
    exact I1.fpOk hle (I1.hok.fresh hle)
  · subst ex
    cases r1
    obtain ⟨its, rv, p', hz⟩ := I1.tuple hq
    have lt : a < s1.heap.objs.size := by obtain ⟨o, ho, _⟩ := p'; exact Heap.lt_size ho
    refine enum1 (begins_tuple a its.toArray) (show s1.heap.IsTuple a its.toArray from p') fun h' he ho hsz hk => wpAny_pyIter_enum he ?_
    have I2 : Inv X pins σ H1 { s1 with heap := h' } := I1.kept (t' := s1.toks) hk
    refine ⟨s1.heap.objs.size + 1, [s1.heap.objs.size + 1, s1.heap.objs.size], _, _, H1, rfl, I2, turn_enumT a (s1.heap.objs.size + 1) s1.heap.objs.size (Nat.ne_of_lt lt) (Nat.ne_of_lt (Nat.lt_succ_of_lt lt)), ⟨⟨.none, he⟩, ⟨_, ho, rfl, rfl⟩, Nat.succ_ne_self _⟩, fun b hb => ?_, q⟩
    have e' : b = s1.heap.objs.size + 1 ∨ b = s1.heap.objs.size := by simpa using hb
    have hle : s1.heap.objs.size ≤ b := by
      rcases e' with z | z
      · rw [z]; exact Nat.le_add_right _ _
      · rw [z]; exact Nat.le_refl _
    exact I1.fpOk hle (I1.hok.fresh hle)
theorem WalkB.notStr {G : Gd} {H1 : Hp} {e : En} {σ : L2.St} {v : V} {ds : List D} (h : WalkB G H1 e σ v ds) (n : ∀ z, v ≠ .str z) : (∃ a vs, v = .ref a ∧ SqL G.K H1 a vs ∧ ∀ H2, Reach e σ H1 H2 → SqL G.K H2 a vs ∧ Reps G H2 vs ds) ∨ (∃ a vs, v = .ref a ∧ SqT G.K H1 a vs ∧ ∀ H2, Reach e σ H1 H2 → SqT G.K H2 a vs ∧ Reps G H2 vs ds) := by
  rcases h with h | h | ⟨z, e, _⟩
  · exact .inl h
  · exact .inr h
  · exact absurd e (n z)
theorem i_enum (hg : Gl X "enumerate") (hm : X.mg "enumerate" = none) (he : PE X e (tE C (gd X) W m)) (hs : starEach [e] X.env = (false, eval e X.env) :: starEach [] X.env := by rfl) :
    PI X (.Tuple elts kk tpos) (.Call (.Name "enumerate" p) [e] [] pos) (tI C (gd X) W (iEnumD m)) := (pi_enumA hg hm he hs).imp fun σ H R ⟨env, q, h⟩ => ⟨env, q, tK_mono (itE q h) fun v H1 ⟨r, e1, p1, vr, k⟩ => by
  cases z : walk r e1 with
  | none => rw [z] at k; exact k.elim
  | some po =>
    obtain ⟨ds, o⟩ := po
    rw [z] at k
    dsimp only at k
    have fin : (∀ J H2, PostE (gd X) C env σ H e1 H2 → ItOk (gd X) J (lockE o e1) σ H2 (enumD ds) → R J H2) → (∀ z, v ≠ .str z) → (∃ a xs, v = .ref a ∧ SqL X.K H1 a xs ∧ R (IteL X.K a) H1) ∨ ∃ a xs, v = .ref a ∧ SqT X.K H1 a xs ∧ R (IteT X.K a) H1 := fun k n => by
      rcases (walk_ok q p1 vr z).notStr n with ⟨a, vs, ev, h1, h2⟩ | ⟨a, vs, ev, h1, h2⟩
      · exact .inl ⟨a, vs, ev, h1, k _ H1 p1 (ItOk.enum h2)⟩
      · exact .inr ⟨a, vs, ev, h1, k _ H1 p1 (ItOk.enumT h2)⟩
    cases r with
    | d x =>
      cases x with
      | str y => exact k.elim
      | list y => exact fin k fun z ez => by subst ez; cases vr
      | tuple y => exact fin k fun z ez => by subst ez; cases vr
      | _ => cases z
    | nw x => exact fin k fun z ez => by obtain ⟨a, e, _⟩ := vr; rw [ez] at e; cases e
    | xc c => cases z
    | own j =>
      dsimp only at k
      obtain ⟨h1, h2⟩ := id vr
      have sr := p1.rel.slot j _ (List.getElem?_eq_getElem h2)
      rw [List.getElem?_eq_getElem h2] at k
      rw [h1] at sr
      cases hs : e1[j] with
      | un => simp [walk, List.getElem?_eq_getElem h2, hs] at z
      | xc c => rw [hs] at sr; exact sr.elim
      | sh d =>
        rw [hs] at sr k
        obtain ⟨v', ev, rp⟩ := sr
        cases ev
        cases d with
        | str y => exact k.elim
        | list y => exact fin k fun z ez => by subst ez; cases rp
        | tuple y => exact fin k fun z ez => by subst ez; cases rp
        | _ => simp [walk, List.getElem?_eq_getElem h2, hs] at z
      | ow b d => rw [hs] at sr k; obtain ⟨a, ev, _⟩ := sr; exact fin k fun z ez => by subst ez; cases ev
      | lk b d => rw [hs] at sr k; obtain ⟨a, ev, _⟩ := sr; exact fin k fun z ez => by subst ez; cases ev⟩
end
end PV

set_option Elab.async false
set_option linter.all false
set_option maxRecDepth 100000
set_option maxHeartbeats 4000000
namespace PVI
open PySem PySem.Spec PyProof.Rows L2 PV
abbrev EV : List (V × V) → List DictEntry → Prop := Paired fun p e => RelV p.1 e.key ∧ RelV p.2 e.val
/-- the pairs of the frozen dict at d, each a new tuple -/
def IteX (d : Addr) (o : Obj) (es : List DictEntry) (vvs : List (V × V)) : It :=
  ⟨fun i H => H d = some (.frz o (.ext (DictIs d es))) ∧ i < es.length, fun i H x H' => ∃ T k v us, vvs[i]? = some (k, v) ∧ x = .ref T ∧ H T = none ∧ H' = upd H T (.frz (tobj us) (.tup [k, v])), fun i H => H d = some (.frz o (.ext (DictIs d es))) ∧ es.length ≤ i⟩
theorem frzX {X : Cx} {pins : List (Addr × Obj)} {σ : L2.St} {H : Hp} {s : Shared} {d : Addr} {o : Obj} {es : List DictEntry} {es0 : Array DictEntry} {ep : Nat} (I : Inv X pins σ H s) (hod : o.data = .dict es0 ep) (h : H d = some (.frz o (.ext (DictIs d es)))) : s.heap.get? d = some o ∧ DT.Raw s.heap d es.toArray ep := by
  obtain ⟨ho, ⟨o', ep', h1, h2, h3⟩, _⟩ := (show ObjOk X.prog X.w H s.heap d (.frz o (.ext (DictIs d es))) from I.hok d _ h)
  rw [ho] at h1
  cases h1
  rw [h3] at hod
  cases hod
  exact ⟨ho, o, ho, h2, h3⟩
theorem pairGet {es : List DictEntry} : ∀ {vvs : List (V × V)} {i : Nat} {e : DictEntry}, EV vvs es → es[i]? = some e → ∃ p, vvs[i]? = some p ∧ RelV p.1 e.key ∧ RelV p.2 e.val := by
  induction es with
  | nil => intro vvs i e h q; simp at q
  | cons e0 es ih =>
    intro vvs i e h q
    cases h with
    | cons a t =>
      cases i with
      | zero => simp at q; subst q; exact ⟨_, rfl, a⟩
      | succ i => simpa using ih t (by simpa using q)
theorem turn_itemsX {P : Program} {w : World} {K : PySem.W.Frag} {d : Addr} {o : Obj} {es : List DictEntry} {es0 : Array DictEntry} {ep : Nat} {vvs : List (V × V)} {elts : List Expr} {kk : Nat} {tpos : Pos} (it : Addr) (hod : o.data = .dict es0 ep) (hp : EV vvs es) :
    Turn P w K (.Tuple elts kk tpos) (IteX d o es vvs) [it] it (fun i h => ∃ ok ov, IsItemIter h it d i es.length ep ok ov) where
  mem := by simp
  obj := fun i h st b hb => by
    have e : b = it := by simpa using hb
    subst e
    obtain ⟨ok, ov, e⟩ := st
    exact ⟨_, e, fun v z => nomatch z⟩
  keep := fun i h h' st k => let ⟨ok, ov, e⟩ := st; ⟨ok, ov, k it (by simp) _ e⟩
  item := by
    intro X hP hw hK hc i pins s σ H E I hf st hg
    subst hP hw hK
    obtain ⟨hd, hi⟩ := hg
    obtain ⟨hgd, raw⟩ := frzX I hod hd
    obtain ⟨⟨k, v⟩, hkv, rk, rv⟩ := pairGet hp (List.getElem?_eq_getElem hi)
    obtain ⟨ok, ov, he⟩ := st
    have hlt : it < s.heap.objs.size := Heap.lt_size he
    have he : IsItemIter s.heap it d i es.toArray.size ep ok ov := by simpa using he
    have hi' : i < es.toArray.size := by simpa using hi
    have ek : es.toArray[i] = es[i] := by simp
    refine DT.nextI he raw hi' fun h' ho hT hz hk => ?_
    rw [ek] at ho hT
    refine ⟨_, rfl, wpAny_letOwnedTupleGo_items (s := { s with heap := h' }) ho fun h'' he' sb => ?_⟩
    have hT2 : h''.get? s.heap.objs.size = some { cls := .type "tuple", data := .seq #[es[i].key, es[i].val] } := (sb.2 _ (Nat.ne_of_gt hlt)).trans hT
    have new : ObjOk X.prog X.w (upd H s.heap.objs.size (.frz (tobj [es[i].key, es[i].val]) (.tup [k, v]))) h'' s.heap.objs.size (.frz (tobj [es[i].key, es[i].val]) (.tup [k, v])) :=
      ⟨hT2, by show 2 ≤ sizeLine; decide, [es[i].key, es[i].val], .cons rk (.cons rv .nil), ⟨_, hT2, rfl, _, rfl⟩⟩
    have I1 : Inv X pins σ (upd H s.heap.objs.size (.frz (tobj [es[i].key, es[i].val]) (.tup [k, v]))) { s with heap := h'' } :=
      I.turnedNew (t' := s.toks) (ch := [it]) (fun b ob hb e => (sb.2 b (by simpa using hb)).trans (hk b ob (by simpa using hb) e)) hf (Nat.le_refl _) new
    refine ⟨.ref s.heap.objs.size, _, I1, rfl, ⟨_, k, v, _, hkv, rfl, I.hok.fresh (Nat.le_refl _), rfl⟩, ⟨es[i].key, es[i].val, by simpa using he'⟩, fun b hb => ?_⟩
    have e : b = it := by simpa using hb
    rw [e, upd_ne (Nat.ne_of_lt hlt)]
    exact (hf it (by simp)).1
  done := by
    intro X hP hw hK hc i pins s σ H E I hf st hg
    subst hP hw hK
    obtain ⟨hd, hi⟩ := hg
    obtain ⟨f0, f1, f2, f3, f4, f5⟩ := hf it (by simp)
    obtain ⟨hgd, raw⟩ := frzX I hod hd
    obtain ⟨ok, ov, he⟩ := st
    exact DT.endI (I.ok.hd hc) (by simpa using he) raw (by simpa using hi) fun h' eb => ⟨rfl, I.turned (t' := s.toks) (fun b ob hb e => eb b ob hb e) f0 f1 f3 f4 f5⟩
  self := fun A i s Q E st h => let ⟨_, _, e⟩ := st; PySem.W.kcp_self e h
def iItemsX (td : TE) : TI := fun σ H R => td σ H fun x H1 => ∃ d o es vvs, x = .ref d ∧ H1 d = some (.frz o (.ext (DictIs d es))) ∧ (d == sysModules) = false ∧ EV vvs es ∧ R (IteX d o es vvs) H1
section
variable {X : Cx} {tg e : Expr} {td : TE} {apos cpos : Pos}
theorem pi_itemsX {elts : List Expr} {kk : Nat} {tpos : Pos} (he : PE X e td) (hbase : attributeBase e "items" X.env (eval e X.env) = eval e X.env := by rfl) (hline : (apos.endLine == cpos.line) = true := by rfl) :
    PI X (.Tuple elts kk tpos) (.Call (.Attribute e "items" apos) [] [] cpos) (iItemsX td) := by
  refine ⟨fun pins s σ H R I h => ?_⟩
  refine wpAny_Call_method (T := "dict") (id := "dict.items") hbase rfl hline F.plainAttrs_dict F.slot_dict_items F.type_dict_items (thn (he.run pins s σ H _ I h) fun u s1 ⟨x, H1, I1, rx, d, o, es, vvs, ex, hd, hn, hp, q⟩ => ?_)
  subst ex
  obtain rfl : u = Value.ref d := rx
  obtain ⟨hgd, ⟨o', ep, h1, h2, h3⟩, _⟩ := (show ObjOk X.prog X.w H1 s1.heap d (.frz o (.ext (DictIs d es))) from I1.hok d _ hd)
  rw [hgd] at h1
  cases h1
  have raw : DT.Raw s1.heap d es.toArray ep := ⟨o, hgd, h2, h3⟩
  refine ⟨raw.typeIs, fun b e => ?_, ?_⟩
  · cases e; exact ⟨o, hgd, h2.2.1⟩
  have I2 : Inv X pins σ H1 { s1 with heap := s1.heap.push { cls := .type "dict_items", data := .fields #[.ref d] } } := I1.kept (t' := s1.toks) fun b ob q => Heap.get?_push_of_some _ q
  have fin : wpAny (model X.prog X.w) X.A (pyIter (.ref s1.heap.objs.size)) (PIE X pins σ (.Tuple elts kk tpos) R) X.xe { s1 with heap := s1.heap.push { cls := .type "dict_items", data := .fields #[.ref d] } } := by
    refine DT.iterI (d := d) ⟨_, Heap.get?_push_size _ rfl, rfl, rfl⟩ (raw.push _) (pi_one (tk := s1.toks) I2 _ (turn_itemsX _ h3 hp) ⟨.none, .none, ?_⟩ q)
    have := Heap.get?_push_size (s1.heap.push { cls := .type "dict_items", data := .fields #[.ref d] }) (o := { cls := .type "dict_itemiterator", data := .fields #[.none, .bool false, .ref d, .int 0 0, .int es.toArray.size 0, .int ep 0, .none, .none] }) rfl
    simpa [IsItemIter, rawInt] using this
  show wpAny _ _ (callWith cpos (.builtin "dict.items") [.ref d] [] []) _ X.xe s1
  exact method_meetsIn F.slot_dict_items F.entry_dict_items rfl (PySem.evalArgs_none ⟨rfl, raw.typeIs, F.args_dict_items_1 _, _, DT.meetsItems hn, raw, fin⟩)
end
end PVI
namespace PV
open PySem PySem.Spec PyProof.Rows L2 PVD PVI
def itemsD (kvs : List (D × D)) : List D := kvs.map fun p => .tuple [p.1, p.2]
def iItemsD (m : ME) : MI := fun env => (m env).bind fun r e => match frz1 r e with
  | some (.dict kvs, e2) => .ok (itemsD kvs, none) e2
  | _ => .stuck
theorem ents_ev {G : Gd} {H : Hp} : ∀ {es : List DictEntry} {kvs : List (D × D)}, Ents G H es kvs → ∃ vvs, EV vvs es ∧ ∀ (i : Nat) p, kvs[i]? = some p → ∃ k v, vvs[i]? = some (k, v) ∧ Rep G H k p.1 ∧ Rep G H v p.2
  | _, _, .nil => ⟨[], .nil, fun i p h => by simp at h⟩
  | _, _, .cons (x := x) (v := v) rk hk rv hv hh hs t => by
    obtain ⟨vvs, h1, h2⟩ := ents_ev t
    refine ⟨(x, v) :: vvs, .cons ⟨rk, rv⟩ h1, fun i p h => ?_⟩
    cases i with
    | zero => simp at h; subst h; exact ⟨x, v, rfl, hk, hv⟩
    | succ i => simpa using h2 i p (by simpa using h)
section
variable {X : Cx} {C : Cc} {W : WX} {e : Expr} {m : ME} {apos cpos tpos : Pos} {elts : List Expr} {kk : Nat}
theorem i_items (he : PE X e (tE C (gd X) W m)) (hbase : attributeBase e "items" X.env (eval e X.env) = eval e X.env := by rfl) (hline : (apos.endLine == cpos.line) = true := by rfl) :
    PI X (.Tuple elts kk tpos) (.Call (.Attribute e "items" apos) [] [] cpos) (tI C (gd X) W (iItemsD m)) :=
  (pi_itemsX (pe_gh he) hbase hline).imp fun σ H R ⟨env, q, h⟩ => ⟨env, q, tK_mono (itE q h) fun v H1 ⟨r, e1, p1, vr, k⟩ pins s I => by
    cases z : frz1 r e1 with
    | none => rw [z] at k; exact k.elim
    | some de =>
      obtain ⟨d, e2⟩ := de
      rw [z] at k
      obtain ⟨H2, I2, p2, rep, _, _⟩ := frz1_ok I q p1 (.inl vr) z
      refine ⟨H2, I2, ?_⟩
      cases rep with
      | @dic a o es kvs h r ok hz hn =>
        dsimp only at k
        obtain ⟨vvs, ev, at_⟩ := ents_ev r
        have hl := Ents.len r
        refine ⟨a, o, es, vvs, rfl, h, hn, ev, k _ H2 p2 fun H3 rc => ⟨fun i d hd => ?_, ?_⟩⟩
        · have rc : Reach e2 σ H2 H3 := rc
          have h3 := (Reach.kp p2.rel rc).2 _ _ _ h
          have hd : (itemsD kvs)[i]? = some d := hd
          unfold itemsD at hd
          rw [List.getElem?_map] at hd
          cases qi : kvs[i]? with
          | none => rw [qi] at hd; cases hd
          | some p =>
            rw [qi] at hd
            cases hd
            obtain ⟨kk, vv, e1, rk, rv⟩ := at_ i p qi
            have lt := (List.getElem?_eq_some_iff.mp qi).1
            refine ⟨⟨h3, by omega⟩, fun v H4 ⟨T, k', v', us, ek, ev, hT, e4⟩ => ?_⟩
            rw [e1] at ek
            cases ek
            subst ev e4
            exact ⟨same_upd hT, new_tup hT (.cons (rk.mono (Reach.kp p2.rel rc)) (.cons (rv.mono (Reach.kp p2.rel rc)) .nil))⟩
        · have rc : Reach e2 σ H2 H3 := rc
          exact ⟨(Reach.kp p2.rel rc).2 _ _ _ h, by show es.length ≤ (itemsD kvs).length; simp [itemsD, hl]⟩
      | _ => exact k.elim⟩
end
end PV

set_option Elab.async false
set_option linter.all false
set_option maxRecDepth 100000
set_option maxHeartbeats 4000000
namespace PV
open PySem PySem.Spec PyProof.Rows L2

/-- own values are frozen, new ones stay -/
def prep (r : Val) (e : En) : Option (Val × En) := match r with
  | .own j => match frz1 (.own j) e with
    | some (d, e2) => some (.d d, e2)
    | none => none
  | .xc _ => none
  | r => some (r, e)
def st1 (i : Nat) (r : Val) (e : En) : Option En := if okTgt e i = true then match r with
    | .d x => some (e.set i (.sh x))
    | .nw x => some (e.set i (.ow false x))
    | _ => none
  else none
def par2 (i j : Nat) (r1 r2 : Val) (e : En) : R Fl := match prep r1 e with
  | none => .stuck
  | some (a, e1) => match prep r2 e1 with
    | none => .stuck
    | some (b, e2) => match st1 i a e2 with
      | none => .stuck
      | some e3 => match st1 j b e3 with
        | none => .stuck
        | some e4 => .ok .nx e4
def mPar2 (i j : Nat) (ma mb : ME) : MS := fun env => (ma env).bind fun r1 e1 => (mb e1).bind fun r2 e2 => par2 i j r1 r2 e2
def par3 (i j l : Nat) (r1 r2 r3 : Val) (e : En) : R Fl := match prep r1 e with
  | none => .stuck
  | some (a, e1) => match prep r2 e1 with
    | none => .stuck
    | some (b, e2) => match prep r3 e2 with
      | none => .stuck
      | some (c, e3) => match st1 i a e3 with
        | none => .stuck
        | some e4 => match st1 j b e4 with
          | none => .stuck
          | some e5 => match st1 l c e5 with
            | none => .stuck
            | some e6 => .ok .nx e6
def mPar3 (i j l : Nat) (ma mb mc : ME) : MS := fun env => (ma env).bind fun r1 e1 => (mb e1).bind fun r2 e2 => (mc e2).bind fun r3 e3 => par3 i j l r1 r2 r3 e3
section
variable {X : Cx} {C : Cc} {env e1 e2 : En} {σ σ1 : L2.St} {H H1 : Hp} {pins : List (Addr × Obj)} {s : Shared}
theorem prep_ok {v : V} {r r' : Val} (I : Inv X pins σ H1 s) (q : Rel (gd X) C env σ H) (p : PostE (gd X) C env σ H e1 H1) (h : ValRel (gd X) H e1 σ H1 v r) (e : prep r e1 = some (r', e2)) :
    ∃ H2, Inv X pins σ H2 s ∧ PostE (gd X) C env σ H e2 H2 ∧ (∀ v' r', ValRel (gd X) H e1 σ H1 v' r' → ValRel (gd X) H e2 σ H2 v' r') ∧ ValRel (gd X) H e2 σ H2 v r' ∧ ((∃ x, r' = .d x) ∨ ∃ x, r' = .nw x ∧ r = .nw x) := by
  cases r with
  | d x => cases e; exact ⟨H1, I, p, fun _ _ z => z, h, .inl ⟨x, rfl⟩⟩
  | nw x => cases e; exact ⟨H1, I, p, fun _ _ z => z, h, .inr ⟨x, rfl, rfl⟩⟩
  | xc c => cases e
  | own j =>
    obtain ⟨h1, h2⟩ := h
    unfold prep at e
    cases z : frz1 (.own j) e1 with
    | none => simp [z] at e
    | some de =>
      obtain ⟨d, e'⟩ := de
      simp [z] at e
      obtain ⟨rfl, rfl⟩ := e
      unfold frz1 at z
      cases hs : e1[j]? with
      | none => simp [hs] at z
      | some sj =>
        have sr := p.rel.slot j sj hs
        rw [h1] at sr
        cases sj with
        | sh x =>
          simp [hs] at z
          obtain ⟨rfl, rfl⟩ := z
          obtain ⟨v', e', q'⟩ := sr
          cases e'
          exact ⟨H1, I, p, fun _ _ z => z, q', .inl ⟨_, rfl⟩⟩
        | ow b x =>
          cases b with
          | true => simp [hs] at z
          | false =>
            simp [hs] at z
            obtain ⟨rfl, rfl⟩ := z
            obtain ⟨a, e', ow⟩ := sr
            cases e'
            obtain ⟨u, hu, hf, _⟩ := ow.frzb
            obtain ⟨o, I2⟩ := frz_inv I hu hf
            have kp := ow.kp (o := o) hu
            have hna : H a ≠ none := q.heldSome ⟨j, p.sub j a ⟨⟨_, _, hs, rfl⟩, h1⟩⟩
            refine ⟨_, I2, p.frzOwn q hs h1 ow hu (ow.repAll hu _), fun v' r' z => ?_, ow.repAll hu _, .inl ⟨_, rfl⟩⟩
            cases r' with
            | d y => exact Rep.mono kp z
            | nw y =>
              obtain ⟨b, q1, q2, q3⟩ := z
              exact ⟨b, q1, q2, q3.mono kp (upd_ne fun w => hna (w ▸ q2))⟩
            | own k => exact ⟨z.1, by rw [List.length_set]; exact z.2⟩
            | xc c => exact z.elim
        | _ => simp [hs] at z
theorem st1_ok {i : Nat} {v : V} {r : Val} {e2 : En} (p : Post (gd X) C env σ H e1 σ1 H1) (h : (∃ x, r = .d x ∧ Rep (gd X) H1 v x) ∨ ∃ x a, r = .nw x ∧ v = .ref a ∧ H a = none ∧ C.Hs a = none ∧ (¬ ∃ k, Held e1 σ1 k a) ∧ Own (gd X) H1 a x) (e : st1 i r e1 = some e2) :
    Post (gd X) C env σ H e2 (σ1.set i (some v)) H1 ∧ ∀ k b, Held e2 (σ1.set i (some v)) k b → Held e1 σ1 k b ∨ (k = i ∧ v = .ref b ∧ ∃ x, r = .nw x) := by
  unfold st1 at e
  by_cases t : okTgt e1 i = true
  · rw [if_pos t] at e
    have lt := okTgt.lt t
    have ltσ : i < σ1.length := by rw [← p.rel.len]; exact lt
    rcases h with ⟨x, rfl, rep⟩ | ⟨x, a, rfl, rfl, h1, h2, h3, h4⟩
    · cases e
      refine ⟨p.setShG t rep, fun k b hh => ?_⟩
      by_cases z : k = i
      · subst z
        obtain ⟨⟨s', y, q1, q2⟩, _⟩ := hh
        rw [List.getElem?_set_self lt] at q1
        cases q1; cases q2
      · refine .inl ?_
        obtain ⟨⟨s', y, q1, q2⟩, q3⟩ := hh
        rw [List.getElem?_set_ne (Ne.symm z)] at q1 q3
        exact ⟨⟨s', y, q1, q2⟩, q3⟩
    · cases e
      refine ⟨p.setOwG t h1 h2 h3 h4, fun k b hh => ?_⟩
      by_cases z : k = i
      · subst z
        obtain ⟨_, q3⟩ := hh
        rw [List.getElem?_set_self ltσ] at q3
        exact .inr ⟨rfl, Option.some.inj (Option.some.inj q3), x, rfl⟩
      · refine .inl ?_
        obtain ⟨⟨s', y, q1, q2⟩, q3⟩ := hh
        rw [List.getElem?_set_ne (Ne.symm z)] at q1 q3
        exact ⟨⟨s', y, q1, q2⟩, q3⟩
  · rw [if_neg t] at e; cases e
/-- a value is ready; its object is new and no slot's -/
theorem rdy {v : V} {r : Val} (q : Rel (gd X) C env σ H) (p : PostE (gd X) C env σ H e1 H1) (h : ValRel (gd X) H e1 σ H1 v r) (k : (∃ x, r = .d x) ∨ ∃ x, r = .nw x) :
    (∃ x, r = .d x ∧ Rep (gd X) H1 v x) ∨ ∃ x a, r = .nw x ∧ v = .ref a ∧ H a = none ∧ C.Hs a = none ∧ (¬ ∃ k, Held e1 σ k a) ∧ Own (gd X) H1 a x := by
  rcases k with ⟨x, rfl⟩ | ⟨x, rfl⟩
  · exact .inl ⟨x, rfl, h⟩
  · obtain ⟨a, h1, h2, h3⟩ := h
    refine .inr ⟨x, a, rfl, h1, h2, ?_, p.noHeld q a h2, h3⟩
    cases z : C.Hs a with
    | none => rfl
    | some o => exact absurd h2 (q.old a (by rw [z]; simp))
end
section
variable {X : Cx} {C : Cc} {W : WX} {a b c : Expr} {ma mb mc : ME} {pos px py pz pt pt2 : Pos} {i j l kt k2 : Nat} {x y z : Str}
theorem tSK_E' {env e1 : En} {σ : L2.St} {H H1 : Hp} {D : Ends} (p : PostE (gd X) C env σ H e1 H1) {m : PV.R Val} {f : Val → En → PV.R Fl} (h : tSK C (gd X) W env σ H (m.bind f) D) :
    tK C (gd X) W (ValRel (gd X)) e1 σ H1 m (fun v H2 => ∃ r e2, PostE (gd X) C e1 σ H1 e2 H2 ∧ PostE (gd X) C env σ H e2 H2 ∧ ValRel (gd X) H1 e2 σ H2 v r ∧ tSK C (gd X) W env σ H (f r e2) D) := by
  cases m with
  | stuck => exact h
  | exc c e => exact fun H2 p2 => h σ H2 (p.trans p2).toPost
  | ok r e2 => exact fun v H2 p2 vr => ⟨r, e2, p2, p.trans p2, vr, h⟩
theorem nwNe {env e1 e2 : En} {σ : L2.St} {H H1 H2 : Hp} {v w : V} {r : Val} {x y : D} {a b : Addr} (h1 : ValRel (gd X) H e1 σ H1 v (.nw x)) (h2 : ValRel (gd X) H1 e2 σ H2 w (.nw y)) (ea : v = .ref a) (eb : w = .ref b) : a ≠ b := fun z => by
  obtain ⟨a', q1, _, q3⟩ := h1
  obtain ⟨b', q4, q5, _⟩ := h2
  rw [ea] at q1; cases q1
  rw [eb] at q4; cases q4
  obtain ⟨o, e, _⟩ := q3.obj
  rw [z, q5] at e
  cases e
theorem s_par2 (i j : Nat) (hc : X.calm = true) (hN : X.N.Nodup) (hi : X.N[i]? = some x) (hj : X.N[j]? = some y) (hij : i ≠ j)
    (hx : X.env.scope.names.lookup x = some .local) (hy : X.env.scope.names.lookup y = some .local) (ha : PE X a (tE C (gd X) W ma)) (hb : PE X b (tE C (gd X) W mb))
    (hw : swappedStores [.Tuple [.Name x px, .Name y py] kt pt] (.Tuple [a, b] k2 pt2) X.env = pure (some [x, y]))
    (hs : swapsWithSole [.Tuple [.Name x px, .Name y py] kt pt] (.Tuple [a, b] k2 pt2) pos.line X.env = pure false := by rfl)
    (hs1 : starEach [a, b] X.env = (false, eval a X.env) :: starEach [b] X.env := by rfl) (hs2 : starEach [b] X.env = (false, eval b X.env) :: starEach [] X.env := by rfl) :
    PS X (.Assign [.Tuple [.Name x px, .Name y py] kt pt] (.Tuple [a, b] k2 pt2) pos) (tS C (gd X) W (mPar2 i j ma mb)) := by
  refine (ps_par hc hN hi hj hij hx hy (pa_cons ha (pa_cons (pe_gh hb) pa_nil hs2) hs1) hw hs).imp fun D σ H ⟨env, q, h⟩ => ⟨env, q, tK_mono (tSK_E' (.refl q) h) fun v H1 ⟨r1, e1, _, p1, vr1, k1⟩ =>
    ⟨e1, p1.rel, tK_mono (tSK_E' p1 k1) fun w H2 ⟨r2, e2, i2, p2, vr2, k2⟩ pins s I => ?_⟩⟩
  have v1 := vr1.post p1.rel (p1.noHeld q) i2.toPost
  have v2 := vr2.anti p1.there
  unfold par2 at k2
  cases z1 : prep r1 e2 with
  | none => rw [z1] at k2; exact k2.elim
  | some ae =>
    obtain ⟨ra, e3⟩ := ae
    rw [z1] at k2
    dsimp only at k2
    obtain ⟨H3, I3, p3, t3, w1, n1⟩ := prep_ok I q p2 v1 z1
    cases z2 : prep r2 e3 with
    | none => rw [z2] at k2; exact k2.elim
    | some be =>
      obtain ⟨rb, e4⟩ := be
      rw [z2] at k2
      dsimp only at k2
      obtain ⟨H4, I4, p4, t4, w2, n2⟩ := prep_ok I3 q p3 (t3 _ _ v2) z2
      cases z3 : st1 i ra e4 with
      | none => rw [z3] at k2; exact k2.elim
      | some e5 =>
        rw [z3] at k2
        dsimp only at k2
        have r1' := rdy q p4 (t4 _ _ w1) (n1.imp id fun ⟨x, e, _⟩ => ⟨x, e⟩)
        obtain ⟨p5, h5⟩ := st1_ok p4.toPost r1' z3
        cases z4 : st1 j rb e5 with
        | none => rw [z4] at k2; exact k2.elim
        | some e6 =>
          rw [z4] at k2
          have r2' := rdy q p4 w2 (n2.imp id fun ⟨x, e, _⟩ => ⟨x, e⟩)
          have r2'' : (∃ x, rb = .d x ∧ Rep (gd X) H4 w x) ∨ ∃ x a, rb = .nw x ∧ w = .ref a ∧ H a = none ∧ C.Hs a = none ∧ (¬ ∃ k, Held e5 (σ.set i (some v)) k a) ∧ Own (gd X) H4 a x := by
            rcases r2' with h | ⟨x, a, q1, q2, q3, q4, q5, q6⟩
            · exact .inl h
            · refine .inr ⟨x, a, q1, q2, q3, q4, fun ⟨k, hk⟩ => ?_, q6⟩
              rcases h5 k a hk with h | ⟨_, ev, y, ey⟩
              · exact q5 ⟨k, h⟩
              · rcases n1 with ⟨_, z⟩ | ⟨x1, _, z1⟩
                · rw [z] at ey; cases ey
                · rcases n2 with ⟨_, z⟩ | ⟨x2, _, z2⟩
                  · rw [z] at q1; cases q1
                  · subst z1 z2
                    exact nwNe (X := X) (env := env) (r := .xc 0) vr1 vr2 ev q2 rfl
          obtain ⟨p6, _⟩ := st1_ok p5 r2'' z4
          exact ⟨H4, I4, v, w, rfl, k2 _ _ p6⟩
theorem s_par3 (i j l : Nat) (hc : X.calm = true) (hN : X.N.Nodup) (hi : X.N[i]? = some x) (hj : X.N[j]? = some y) (hl : X.N[l]? = some z) (hij : i ≠ j) (hil : i ≠ l) (hjl : j ≠ l)
    (hx : X.env.scope.names.lookup x = some .local) (hy : X.env.scope.names.lookup y = some .local) (hz : X.env.scope.names.lookup z = some .local) (ha : PE X a (tE C (gd X) W ma)) (hb : PE X b (tE C (gd X) W mb)) (hcc : PE X c (tE C (gd X) W mc))
    (hw : swappedStores [.Tuple [.Name x px, .Name y py, .Name z pz] kt pt] (.Tuple [a, b, c] k2 pt2) X.env = pure (some [x, y, z]))
    (hs : swapsWithSole [.Tuple [.Name x px, .Name y py, .Name z pz] kt pt] (.Tuple [a, b, c] k2 pt2) pos.line X.env = pure false := by rfl)
    (hs1 : starEach [a, b, c] X.env = (false, eval a X.env) :: starEach [b, c] X.env := by rfl) (hs2 : starEach [b, c] X.env = (false, eval b X.env) :: starEach [c] X.env := by rfl) (hs3 : starEach [c] X.env = (false, eval c X.env) :: starEach [] X.env := by rfl) :
    PS X (.Assign [.Tuple [.Name x px, .Name y py, .Name z pz] kt pt] (.Tuple [a, b, c] k2 pt2) pos) (tS C (gd X) W (mPar3 i j l ma mb mc)) := by
  refine (ps_par3 hc hN hi hj hl hij hil hjl hx hy hz (pa_cons ha (pa_cons hb (pa_cons (pe_gh hcc) pa_nil hs3) hs2) hs1) hw hs).imp fun D σ H ⟨env, q, h⟩ => ⟨env, q, tK_mono (tSK_E' (.refl q) h) fun v H1 ⟨r1, e1, _, p1, vr1, k1⟩ =>
    ⟨e1, p1.rel, tK_mono (tSK_E' p1 k1) fun w H2 ⟨r2, e2, i2, p2, vr2, k2⟩ => ⟨e2, p2.rel, tK_mono (tSK_E' p2 k2) fun u H2' ⟨r3, e2', i3, p2', vr3, k2⟩ pins s I => ?_⟩⟩⟩
  have v1 := (vr1.post p1.rel (p1.noHeld q) i2.toPost).post p2.rel (p2.noHeld q) i3.toPost
  have v2 := (vr2.anti p1.there).post p2.rel (p2.noHeld q) i3.toPost
  have v3 := vr3.anti p2.there
  have nh : ∀ a, H1 a = none → ¬ ∃ k, Held e2 σ k a := i2.noHeld p1.rel
  have vr2c : ValRel (gd X) H1 e2' σ H2' w r2 := vr2.post p2.rel nh i3.toPost
  unfold par3 at k2
  cases z1 : prep r1 e2' with
  | none => rw [z1] at k2; exact k2.elim
  | some ae =>
    obtain ⟨ra, e3⟩ := ae
    rw [z1] at k2
    dsimp only at k2
    obtain ⟨H3, I3, p3, t3, w1, n1⟩ := prep_ok I q p2' v1 z1
    cases z2 : prep r2 e3 with
    | none => rw [z2] at k2; exact k2.elim
    | some be =>
      obtain ⟨rb, e4⟩ := be
      rw [z2] at k2
      dsimp only at k2
      obtain ⟨H4, I4, p4, t4, w2, n2⟩ := prep_ok I3 q p3 (t3 _ _ v2) z2
      cases z2' : prep r3 e4 with
      | none => rw [z2'] at k2; exact k2.elim
      | some ce =>
        obtain ⟨rc, e4'⟩ := ce
        rw [z2'] at k2
        dsimp only at k2
        obtain ⟨H4', I4', p4', t4', w3, n3⟩ := prep_ok I4 q p4 (t4 _ _ (t3 _ _ v3)) z2'
        have r1' := rdy q p4' (t4' _ _ (t4 _ _ w1)) (n1.imp id fun ⟨x, e, _⟩ => ⟨x, e⟩)
        have r2' := rdy q p4' (t4' _ _ w2) (n2.imp id fun ⟨x, e, _⟩ => ⟨x, e⟩)
        have r3' := rdy q p4' w3 (n3.imp id fun ⟨x, e, _⟩ => ⟨x, e⟩)
        cases z3 : st1 i ra e4' with
        | none => rw [z3] at k2; exact k2.elim
        | some e5 =>
          rw [z3] at k2
          dsimp only at k2
          obtain ⟨p5, h5⟩ := st1_ok p4'.toPost r1' z3
          cases z4 : st1 j rb e5 with
          | none => rw [z4] at k2; exact k2.elim
          | some e6 =>
            rw [z4] at k2
            dsimp only at k2
            have r2'' : (∃ x, rb = .d x ∧ Rep (gd X) H4' w x) ∨ ∃ x a, rb = .nw x ∧ w = .ref a ∧ H a = none ∧ C.Hs a = none ∧ (¬ ∃ k, Held e5 (σ.set i (some v)) k a) ∧ Own (gd X) H4' a x := by
              rcases r2' with h | ⟨x, a, q1, q2, q3, q4, q5, q6⟩
              · exact .inl h
              · refine .inr ⟨x, a, q1, q2, q3, q4, fun ⟨k, hk⟩ => ?_, q6⟩
                rcases h5 k a hk with h | ⟨_, ev, y, ey⟩
                · exact q5 ⟨k, h⟩
                · rcases n1 with ⟨_, z⟩ | ⟨x1, _, z1⟩
                  · rw [z] at ey; cases ey
                  · rcases n2 with ⟨_, z⟩ | ⟨x2, _, z2⟩
                    · rw [z] at q1; cases q1
                    · subst z1 z2
                      exact nwNe (X := X) (env := env) (r := .xc 0) vr1 vr2 ev q2 rfl
            obtain ⟨p6, h6⟩ := st1_ok p5 r2'' z4
            cases z5 : st1 l rc e6 with
            | none => rw [z5] at k2; exact k2.elim
            | some e7 =>
              rw [z5] at k2
              have r3'' : (∃ x, rc = .d x ∧ Rep (gd X) H4' u x) ∨ ∃ x a, rc = .nw x ∧ u = .ref a ∧ H a = none ∧ C.Hs a = none ∧ (¬ ∃ k, Held e6 ((σ.set i (some v)).set j (some w)) k a) ∧ Own (gd X) H4' a x := by
                rcases r3' with h | ⟨x, a, q1, q2, q3, q4, q5, q6⟩
                · exact .inl h
                · refine .inr ⟨x, a, q1, q2, q3, q4, fun ⟨k, hk⟩ => ?_, q6⟩
                  obtain ⟨x3, z3⟩ : ∃ x3, r3 = .nw x3 := by
                    rcases n3 with ⟨_, z⟩ | ⟨x3, _, z3⟩
                    · rw [z] at q1; cases q1
                    · exact ⟨x3, z3⟩
                  rcases h6 k a hk with h | ⟨_, ev, y, ey⟩
                  · rcases h5 k a h with h | ⟨_, ev, y, ey⟩
                    · exact q5 ⟨k, h⟩
                    · rcases n1 with ⟨_, z⟩ | ⟨x1, _, z1⟩
                      · rw [z] at ey; cases ey
                      · subst z1 z3
                        have vr3b : ValRel (gd X) H1 e2' σ H2' u (.nw x3) := vr3.anti i2.there
                        exact nwNe (X := X) (env := env) (r := .xc 0) vr1 vr3b ev q2 rfl
                  · rcases n2 with ⟨_, z⟩ | ⟨x2, _, z2⟩
                    · rw [z] at ey; cases ey
                    · subst z2 z3
                      exact nwNe (X := X) (env := env) (r := .xc 0) vr2 vr3 ev q2 rfl
              obtain ⟨p7, _⟩ := st1_ok p6 r3'' z5
              exact ⟨H4', I4', v, w, u, rfl, k2 _ _ p7⟩
end
end PV

set_option Elab.async false
set_option linter.all false
set_option maxRecDepth 100000
set_option maxHeartbeats 4000000
namespace PV
open PySem PySem.Spec PyProof.Rows L2

def mChain (g g' : D → D → Option Val) (ma mb mc : ME) : ME := fun env => (ma env).bind fun a e1 => (mb e1).bind fun b e2 => (out2 g a b e2).bind fun r e3 => match asB r with
  | some true => (mc e3).bind fun c e4 => out2 g' b c e4
  | some false => .ok (.d (.bool false)) e3
  | none => .stuck
section
variable {X : Cx} {C : Cc} {W : WX} {a b c : Expr} {ma mb mc : ME} {pos : Pos} {g g' : D → D → Option Val} {op op' : CmpOp}
theorem out2_env {g : D → D → Option Val} {x y r : Val} {e e' : En} (h : out2 g x y e = .ok r e') : e' = e := by
  unfold out2 at h
  cases q1 : deref e x with
  | none => rw [q1] at h; cases h
  | some dx =>
    cases q2 : deref e y with
    | none => rw [q1, q2] at h; cases h
    | some dy =>
      rw [q1, q2] at h
      dsimp only at h
      cases q3 : g dx dy with
      | none => rw [q3] at h; cases h
      | some z => rw [q3] at h; cases h; rfl
theorem out2_noexc {g : D → D → Option Val} {x y : Val} {e e' : En} {c : Nat} (h : out2 g x y e = .exc c e') : False := by
  unfold out2 at h
  cases q1 : deref e x with
  | none => rw [q1] at h; cases h
  | some dx =>
    cases q2 : deref e y with
    | none => rw [q1, q2] at h; cases h
    | some dy =>
      rw [q1, q2] at h
      dsimp only at h
      cases q3 : g dx dy with
      | none => rw [q3] at h; cases h
      | some z => rw [q3] at h; cases h
theorem chainK {rd rd' : R2} (hg : Op2 (gd X) rd g) (hg' : Op2 (gd X) rd' g') {σ : L2.St} {H : Hp} {Q : VK} (h : tE C (gd X) W (mChain g g' ma mb mc) σ H Q) : tChain rd rd' (tE C (gd X) W ma) (tE C (gd X) W mb) (tE C (gd X) W mc) σ H Q := by
  obtain ⟨env, q, h⟩ := h
  refine ⟨env, q, tK_mono (tK_E (.refl q) h) fun v H1 ⟨r, e1, _, p1, vr, h1⟩ => ⟨e1, p1.rel, tK_mono (tK_E p1 h1) fun u H2 ⟨r2, e2, i2, p2, vr2, h2⟩ => ?_⟩⟩
  have vr' := vr.post p1.rel (p1.noHeld q) i2.toPost
  cases zo : out2 g r r2 e2 with
  | stuck => rw [zo] at h2; exact h2.elim
  | exc c e => exact (out2_noexc zo).elim
  | ok y e3 =>
    rw [zo] at h2
    obtain rfl := out2_env zo
    have h3 : tK C (gd X) W (ValRel (gd X)) env σ H (out2 g r r2 e3) (fun v H' => RV (gd X) H2 H' v y ∧ L2.Same H2 H') ∨ True := .inr trivial
    unfold out2 at zo
    cases q1 : deref e3 r with
    | none => rw [q1] at zo; cases zo
    | some dx =>
      cases q2 : deref e3 r2 with
      | none => rw [q1, q2] at zo; cases zo
      | some dy =>
        rw [q1, q2] at zo
        dsimp only at zo
        cases q3 : g dx dy with
        | none => rw [q3] at zo; cases zo
        | some z =>
          rw [q3] at zo
          cases zo
          refine hg v u dx dy H2 _ y (deref_ok p2.rel vr' q1) (deref_ok p2.rel vr2 q2) q3 fun w H3 sm rw_ => ?_
          dsimp only [R.bind] at h2
          have p3 := p2.trans (.same p2.rel sm)
          cases zb : asB y with
          | none => rw [zb] at h2; exact h2.elim
          | some k =>
            rw [zb] at h2
            have ew : w = .bl k := by
              cases y with
              | d x =>
                cases x with
                | bool b' => cases zb; cases rw_; rfl
                | _ => cases zb
              | _ => cases zb
            refine ⟨k, ew, ?_⟩
            cases k with
            | false => exact h2 _ H3 p3 (.bl false)
            | true =>
              refine ⟨e3, p3.rel, tK_mono (tK_E p3 h2) fun t H4 ⟨r4, e4, i4, p4, vr4, h4⟩ => ?_⟩
              have vr2' := (vr2.post p2.rel (p2.noHeld q) (PostE.same p2.rel sm).toPost).post p3.rel (p3.noHeld q) i4.toPost
              obtain ⟨dx', dy', ro, d1, d2, eg, zz⟩ := out2_ok p4 vr2' vr4 h4
              exact hg' u t dx' dy' H4 Q ro d1 d2 eg zz
theorem b_chain (h1 : BO X (compareOp op) g) (h2 : BO X (compareOp op') g') (ha : PE X a (tE C (gd X) W ma)) (hb : PE X b (tE C (gd X) W mb)) (hc : PE X c (tE C (gd X) W mc))
    (hm : lastMarks [op, op'] [b, c] = false := by with_unfolding_all rfl) : PE X (.Compare a [op, op'] [b, c] pos) (tE C (gd X) W (mChain g g' ma mb mc)) := by
  obtain ⟨_, a1, a2⟩ := h1
  obtain ⟨_, b1, b2⟩ := h2
  exact (pe_chain a1 b1 ha hb hc hm).imp fun _ _ _ k => chainK a2 b2 k
theorem t_chain (h1 : BO X (compareOp op) g) (h2 : BO X (compareOp op') g') (ha : PE X a (tE C (gd X) W ma)) (hb : PE X b (tE C (gd X) W mb)) (hc : PE X c (tE C (gd X) W mc))
    (hm : lastMarks [op, op'] [b, c] = false := by with_unfolding_all rfl) : PT X (.Compare a [op, op'] [b, c] pos) (tT C (gd X) W (mTB (mChain g g' ma mb mc))) := by
  obtain ⟨_, a1, a2⟩ := h1
  obtain ⟨_, b1, b2⟩ := h2
  exact (pt_chain a1 b1 ha hb hc hm).imp fun _ _ _ k => chainK a2 b2 (mTB_ok k)
end

section
variable {X : Cx} {C : Cc} {W : WX} {x : Str} {k : Nat} {fm : FM} {p pos : Pos}
theorem e_call0 (c : Callee X.prog X.w X.K X.mg X.base C.cl C.T x k fm) (hr : Room k X.A) (tk : Takes X W) (hg : Gl X x) (hdb : (x == ("__debug__" : Str)) = false := by decide) :
    PE X (.Call (.Name x p) [] [] pos) (tE C (gd X) W (mCall fm aNil)) := by
  obtain ⟨f, fd, ps, F, hb, hk, hm⟩ := c
  have base : PE X (.Call (.Name x p) [] [] pos) (fun σ H Q => spFn C.cl C.T (gd X) fm [] H Q (WE W σ)) := by
    refine ⟨fun pins s σ H Q I h => ?_⟩
    refine wpAny_Call_Name_kw (ld_glob I hg hm ?_ hdb)
    exact PySem.W.callWith_K0 I.kIn hk (run_fnS (us := []) F hr hb (passAt tk σ) I .nil h)
  refine base.imp fun σ H Q ⟨env, q, h⟩ => ?_
  have h : tK C (gd X) W (ValRel (gd X)) env σ H (doCall fm [] env) Q := h
  unfold doCall at h
  have h : tK C (gd X) W (ValRel (gd X)) env σ H (match fm [] with
      | .stuck => .stuck
      | .ok r os => .ok r env
      | .exc c os => .exc c env) Q := by
    cases z : fm [] with
    | stuck => simpa [mkArgs, ndOwn, z] using h
    | ok r os => have : wb [] os env = env := by unfold wb; rfl
                 simpa [mkArgs, ndOwn, z, this] using h
    | exc c os => have : wb [] os env = env := by unfold wb; rfl
                  simpa [mkArgs, ndOwn, z, this] using h
  have ar : ArgsRel (gd X) H [] [] := ⟨rfl, fun i v g a => by simp at a, fun i j v g g' a => by simp at a⟩
  have fp : ∀ {os H'}, PV.Fin C.T (gd X) H [] [] os H' → PostE (gd X) C env σ H env H' := fun {os H'} f => by
    have := fin_post (vs := []) (vals := []) (ps := []) (.refl q) rfl (fun i v r a => by simp at a) rfl f
    have e : wb [] os env = env := by unfold wb; rfl
    rwa [e] at this
  refine ⟨[], ar, q.tab, ?_⟩
  cases z : fm [] with
  | stuck => rw [z] at h; exact h
  | exc c os => rw [z] at h; exact fun H' f => h H' (fp f)
  | ok r os =>
    rw [z] at h
    refine fun v H' f rr => h v H' (fp f) ?_
    cases r with
    | d x => exact rr
    | nw x => exact rr
    | own j => exact rr.elim
    | xc c => exact rr.elim
end

def mRaise (c : Nat) : MS := fun e => .exc c e
section
variable {X : Cx} {C : Cc} {W : WX} {e : Expr} {pos : Pos}
theorem s_raise (c : Nat) (hc : X.calm = true) (tk : Takes X W) (he : PMk X e (fun _ H Q => Q (.ref (C.cl c)) none H)) : PS X (.Raise (some e) none pos) (tS C (gd X) W (mRaise c)) :=
  (ps_raise hc tk he).imp fun D σ H ⟨env, q, h⟩ => h σ H (.refl q)
end

def mTry (i : Nat) (res : Nat → Option D) (mb : MS) : MS := fun env => match mb env with
  | .exc c e => match res c with
    | some d => if i < e.length then .ok (.rt (.d d)) e else .stuck
    | none => .exc c e
  | r => r
section
variable {X : Cx} {C : Cc} {W : WX} {x n : Str} {cv : Value} {i : Nat} {body suite : List Stmt} {b₀ : Stmt} {np pos pos' : Pos} {mb : MS} {res : Nat → Option D}
/-- what the suite must give for an exception at a of class c -/
def Suite (X : Cx) (C : Cc) (i : Nat) (suite : List Stmt) (res : Nat → Option D) : Prop := ∀ (a : Addr) (c : Nat) (d : D) (oe : Obj) (pn : List (Addr × Obj)), res c = some d → Zc (.ref (C.cl c)) none oe → (∃ vs, oe.data = .fields vs) →
  PSs (X.suite a ((a, oe) :: pn)) suite (fun D σ H => σ[i]? = some (some (.ref a)) ∧ ∀ v H', L2.Same H H' → Rep (gd X) H' v d → D.rt v H')
theorem s_try (hs : X.stack = X.env :: X.outer) (hf : X.env.frame = some X.env.locals) (hN : X.N.Nodup) (hi : X.N[i]? = some n) (hln : X.env.kindOf n = some .local) (hc : Names X x cv) (tk : Takes X W)
    (hex : ∀ c, PySem.W.exmOne X.K (.ref (C.cl c)) cv = some (res c).isSome)
    (hb : ∀ (W : WX) (pn : List (Addr × Obj)) (xe : Value → Shared → Prop), Takes (X.tr pn xe) W → PassesOwn (model X.prog X.w) X.A X.env xe → PSs (X.tr pn xe) body (tS C (gd X) W mb))
    (hsu : Suite X C i (b₀ :: suite) res) :
    PS X (.Try body [.ExceptHandler (some (.Name x np)) (some n) (b₀ :: suite) pos'] [] [] pos) (tS C (gd X) W (mTry i res mb)) := by
  refine (ps_try_as (tb := fun W => tS C (gd X) W mb) (ts := fun a cls d D σ H => ∃ c r, cls = .ref (C.cl c) ∧ d = none ∧ res c = some r ∧ σ[i]? = some (some (.ref a)) ∧ ∀ v H', L2.Same H H' → Rep (gd X) H' v r → D.rt v H')
    (Wout := W) hs hf hN hi hln hc tk hb (fun a oe cls d pn hz hd => ?_)).imp fun D σ H ⟨env, q, h⟩ => ⟨env, q, ?_⟩
  · refine ⟨fun pins s σ H D I ⟨c, r, e1, e2, e3, e4, k⟩ => ?_⟩
    subst e1 e2
    exact (hsu a c r oe pn e3 hz hd).run pins s σ H D I ⟨e4, k⟩
  · unfold mTry at h
    cases z : mb env with
    | stuck => rw [z] at h; exact h
    | ok fl e =>
      rw [z] at h
      cases fl <;> exact h
    | exc c e =>
      rw [z] at h
      dsimp only at h
      intro σ' H' p
      refine ⟨_, hex c, fun hb a ha => ?_, fun hb => ?_⟩
      · cases zr : res c with
        | none => rw [zr] at hb; cases hb
        | some r =>
          rw [zr] at h
          have lt : i < σ'.length := by
            by_cases l : i < e.length
            · rw [← p.rel.len]; exact l
            · dsimp only at h; rw [if_neg l] at h; exact h.elim
          dsimp only at h
          rw [if_pos (by rw [p.rel.len]; exact lt)] at h
          refine ⟨c, r, rfl, rfl, zr, List.getElem?_set_self lt, fun v H2 sm rp => h v σ' H2 (p.trans (.same p.rel sm)) rp⟩
      · cases zr : res c with
        | some r => rw [zr] at hb; cases hb
        | none => rw [zr] at h; exact h σ' H' p
end
end PV

set_option Elab.async false
set_option linter.all false
set_option maxRecDepth 100000
set_option maxHeartbeats 4000000
namespace PV
open PySem PySem.Spec PyProof.Rows L2

def wipeE (e : En) : List Nat → En
  | [] => e
  | v :: vs => (wipeE e vs).set v .un
def backE (e0 : En) (e : En) : List Nat → En
  | [] => e
  | v :: vs => match e0[v]? with
    | some s => (backE e0 e vs).set v s
    | none => backE e0 e vs
def okS : Slot → Bool
  | .un => true
  | .sh _ => true
  | _ => false
/-- the block's names hold nothing but data -/
def okV (vs : List Nat) (e : En) : Bool := vs.all fun i => match e[i]? with
  | some s => okS s
  | none => false
theorem wipeE_len (e : En) : ∀ vs, (wipeE e vs).length = e.length
  | [] => rfl
  | v :: vs => by unfold wipeE; rw [List.length_set, wipeE_len e vs]
theorem wipeE_in {e : En} {i : Nat} (h : i < e.length) : ∀ {vs : List Nat}, i ∈ vs → (wipeE e vs)[i]? = some .un
  | v :: vs, m => by
    unfold wipeE
    by_cases z : v = i
    · subst z; rw [List.getElem?_set_self (by rw [wipeE_len]; exact h)]
    · rw [List.getElem?_set_ne z]
      rcases List.mem_cons.mp m with rfl | m
      · exact absurd rfl z
      · exact wipeE_in h m
theorem wipeE_out {e : En} {i : Nat} : ∀ {vs : List Nat}, i ∉ vs → (wipeE e vs)[i]? = e[i]?
  | [], _ => rfl
  | v :: vs, m => by
    simp only [List.mem_cons, not_or] at m
    unfold wipeE
    rw [List.getElem?_set_ne (Ne.symm m.1), wipeE_out m.2]
theorem wipe_in {σ : L2.St} {i : Nat} (h : i < σ.length) : ∀ {vs : List Nat}, i ∈ vs → (wipe σ vs)[i]? = some none
  | v :: vs, m => by
    unfold wipe
    by_cases z : v = i
    · subst z; rw [List.getElem?_set_self (by rw [wipe_length]; exact h)]
    · rw [List.getElem?_set_ne z]
      rcases List.mem_cons.mp m with rfl | m
      · exact absurd rfl z
      · exact wipe_in h m
theorem wipe_out {σ : L2.St} {i : Nat} : ∀ {vs : List Nat}, i ∉ vs → (wipe σ vs)[i]? = σ[i]?
  | [], _ => rfl
  | v :: vs, m => by
    simp only [List.mem_cons, not_or] at m
    unfold wipe
    rw [List.getElem?_set_ne (Ne.symm m.1), wipe_out m.2]
theorem backE_len (e0 e : En) : ∀ vs, (backE e0 e vs).length = e.length
  | [] => rfl
  | v :: vs => by
    unfold backE
    split
    · rw [List.length_set, backE_len e0 e vs]
    · exact backE_len e0 e vs
theorem backE_out {e0 e : En} {i : Nat} : ∀ {vs : List Nat}, i ∉ vs → (backE e0 e vs)[i]? = e[i]?
  | [], _ => rfl
  | v :: vs, m => by
    simp only [List.mem_cons, not_or] at m
    unfold backE
    split
    · rw [List.getElem?_set_ne (Ne.symm m.1), backE_out m.2]
    · exact backE_out m.2
theorem backE_in {e0 e : En} {i : Nat} (hl : e0.length = e.length) (h : i < e.length) : ∀ {vs : List Nat}, i ∈ vs → (backE e0 e vs)[i]? = e0[i]?
  | v :: vs, m => by
    unfold backE
    have hv : ∀ {k s}, e0[k]? = some s → k < (backE e0 e vs).length := fun {k s} q => by rw [backE_len, ← hl]; exact (List.getElem?_eq_some_iff.mp q).1
    by_cases z : v = i
    · subst z
      cases q : e0[v]? with
      | none => exact absurd (List.getElem?_eq_none_iff.mp q) (by omega)
      | some s => dsimp only; rw [List.getElem?_set_self (hv q)]
    · rcases List.mem_cons.mp m with rfl | m
      · exact absurd rfl z
      · cases q : e0[v]? with
        | none => exact backE_in hl h m
        | some s => dsimp only; rw [List.getElem?_set_ne z]; exact backE_in hl h m
theorem wipe_set {σ : L2.St} {i : Nat} {o : Option V} {vs : List Nat} (m : i ∈ vs) : wipe (σ.set i o) vs = wipe σ vs := by
  apply List.ext_getElem?
  intro k
  by_cases hk : k ∈ vs
  · by_cases lt : k < σ.length
    · rw [wipe_in (by rw [List.length_set]; exact lt) hk, wipe_in lt hk]
    · rw [List.getElem?_eq_none (by rw [wipe_length, List.length_set]; omega), List.getElem?_eq_none (by rw [wipe_length]; omega)]
  · rw [wipe_out hk, wipe_out hk, List.getElem?_set_ne (fun z => hk (by rw [← z]; exact m))]
theorem okV.at {vs : List Nat} {e : En} (h : okV vs e = true) {i : Nat} (m : i ∈ vs) : ∃ s, e[i]? = some s ∧ okS s = true := by
  have := List.all_eq_true.mp h i m
  cases z : e[i]? with
  | none => rw [z] at this; cases this
  | some s => rw [z] at this; exact ⟨s, rfl, this⟩
theorem okS.ownd {s : Slot} (h : okS s = true) : s.ownd = none := by cases s <;> first | rfl | cases h
section
variable {G : Gd} {C : Cc} {e e' : En} {σ σ' : L2.St} {H H' : Hp} {vs : List Nat}
theorem held_wipe (q : Rel G C e σ H) {i : Nat} {a : Addr} (h : Held (wipeE e vs) (wipe σ vs) i a) : Held e σ i a ∧ i ∉ vs := by
  obtain ⟨⟨s, d, h1, h2⟩, h3⟩ := h
  obtain ⟨h4, h5⟩ := wipe_some h3
  rw [wipeE_out h5] at h1
  exact ⟨⟨⟨s, d, h1, h2⟩, h4⟩, h5⟩
theorem Rel.wipe (q : Rel G C e σ H) : Rel G C (wipeE e vs) (wipe σ vs) H where
  len := by rw [wipeE_len, wipe_length]; exact q.len
  slot := fun i s h => by
    by_cases m : i ∈ vs
    · have lt : i < e.length := by rw [← wipeE_len e vs]; exact (List.getElem?_eq_some_iff.mp h).1
      rw [wipeE_in lt m] at h
      cases h
      trivial
    · rw [wipeE_out m] at h
      rw [wipe_out m]
      exact q.slot i s h
  inj := fun i j a h1 h2 => q.inj i j a (held_wipe q h1).1 (held_wipe q h2).1
  tab := q.tab
  new := fun i a ⟨d, hd⟩ hs => by
    obtain ⟨h4, h5⟩ := wipe_some hs
    rw [wipeE_out h5] at hd
    exact q.new i a ⟨d, hd⟩ h4
  old := q.old
theorem mut_wipe {a : Addr} (h : MutAt (wipeE e vs) (wipe σ vs) a) : MutAt e σ a := by
  obtain ⟨i, b, d, h1, h2⟩ := h
  obtain ⟨h4, h5⟩ := wipe_some h2
  rw [wipeE_out h5] at h1
  exact ⟨i, b, d, h1, h4⟩
/-- within a block: nothing but the block's names is stored to -/
structure PostV (G : Gd) (C : Cc) (vs : List Nat) (env : En) (σ : L2.St) (H : Hp) (env' : En) (σ' : L2.St) (H' : Hp) : Prop extends Post G C env σ H env' σ' H' where
  wip : L2.wipe σ' vs = L2.wipe σ vs
  sub : ∀ i a, Held env' σ' i a → Held env σ i a
theorem PostV.refl (q : Rel G C e σ H) : PostV G C vs e σ H e σ H := { Post.refl q with wip := rfl, sub := fun _ _ h => h }
theorem PostV.trans {e2 : En} {σ2 : L2.St} {H2 : Hp} (p : PostV G C vs e σ H e' σ' H') (q : PostV G C vs e' σ' H' e2 σ2 H2) : PostV G C vs e σ H e2 σ2 H2 :=
  { p.toPost.trans q.toPost with wip := q.wip.trans p.wip, sub := fun i a h => p.sub i a (q.sub i a h) }
theorem PostE.toV (p : PostE G C e σ H e' H') : PostV G C vs e σ H e' σ H' := { p.toPost with wip := rfl, sub := p.sub }
/-- a turn's end: the block's names are wiped again -/
theorem PostV.again {eb : En} {σb : L2.St} {H0 : Hp} (hb : ∀ i ∈ vs, eb[i]? = some .un ∨ eb[i]? = none) (hw : L2.wipe σb vs = σb) (p : PostV G C vs eb σb H0 e σ H) : PostV G C vs eb σb H0 (wipeE e vs) σb H := by
  have ew : L2.wipe σ vs = σb := p.wip.trans hw
  have r := p.rel.wipe (vs := vs)
  rw [ew] at r
  refine { rel := r, keep := p.keep, there := p.there, mutb := fun a m => ?_, fixL := fun i b d h => ?_, fixO := fun i d h => ?_, wip := rfl, sub := fun i a h => ?_ }
  · rw [← ew] at m
    exact p.mutb a (mut_wipe m)
  · have m : i ∉ vs := fun m => by rcases hb i m with z | z <;> rw [h] at z <;> cases z
    obtain ⟨h1, h2⟩ := p.fixL i b d h
    exact ⟨by rw [wipeE_out m]; exact h1, rfl⟩
  · have m : i ∉ vs := fun m => by rcases hb i m with z | z <;> rw [h] at z <;> cases z
    obtain ⟨⟨d', h1⟩, h2⟩ := p.fixO i d h
    exact ⟨⟨d', by rw [wipeE_out m]; exact h1⟩, rfl⟩
  · rw [← ew] at h
    exact p.sub i a (held_wipe p.rel h).1
/-- the block's end: the names are given back -/
theorem PostV.back (q : Rel G C e σ H) (ok : okV vs e = true) (p : PostV G C vs (wipeE e vs) (L2.wipe σ vs) H e' (L2.wipe σ vs) H') : PostE G C e σ H (backE e e' vs) H' := by
  have hl : e.length = e'.length := by
    have h1 := p.rel.len
    have h2 := q.len
    rw [wipe_length] at h1
    omega
  have kp := p.toPost.kp q.wipe
  have at_ : ∀ {i s}, (backE e e' vs)[i]? = some s → (i ∈ vs ∧ e[i]? = some s ∧ okS s = true) ∨ (i ∉ vs ∧ e'[i]? = some s) := fun {i s} h => by
    by_cases m : i ∈ vs
    · have lt : i < e'.length := by rw [← backE_len e e' vs]; exact (List.getElem?_eq_some_iff.mp h).1
      rw [backE_in hl lt m] at h
      obtain ⟨s', h1, h2⟩ := okV.at ok m
      rw [h] at h1; cases h1
      exact .inl ⟨m, h, h2⟩
    · rw [backE_out m] at h
      exact .inr ⟨m, h⟩
  have held : ∀ {i a}, Held (backE e e' vs) σ i a → Held e' (L2.wipe σ vs) i a := fun {i a} ⟨⟨s, d, h1, h2⟩, h3⟩ => by
    rcases at_ h1 with ⟨m, _, ho⟩ | ⟨m, h⟩
    · rw [okS.ownd ho] at h2; cases h2
    · exact ⟨⟨s, d, h, h2⟩, by rw [wipe_out m]; exact h3⟩
  have rel : Rel G C (backE e e' vs) σ H' := {
    len := by rw [backE_len, ← hl]; exact q.len
    slot := fun i s h => by
      rcases at_ h with ⟨m, h1, ho⟩ | ⟨m, h1⟩
      · have sr := q.slot i s h1
        cases s with
        | un => trivial
        | sh d => obtain ⟨v, e1, r⟩ := sr; exact ⟨v, e1, r.mono kp⟩
        | _ => cases ho
      · have sr := p.rel.slot i s h1
        rw [wipe_out m] at sr
        exact sr
    inj := fun i j a h1 h2 => p.rel.inj i j a (held h1) (held h2)
    tab := p.rel.tab
    new := fun i a ⟨d, hd⟩ hs => by
      have m : i ∉ vs := fun m => by
        rcases hd with hd | hd <;> (rcases at_ hd with ⟨_, _, ho⟩ | ⟨m', _⟩; · cases ho) <;> exact m' m
      rw [backE_out m] at hd
      exact p.rel.new i a ⟨d, hd⟩ (by rw [wipe_out m]; exact hs)
    old := p.rel.old }
  refine { rel := rel, keep := fun a o h ht hm => p.keep a o h ht fun m => hm (mut_wipe m), there := p.there, mutb := fun a ⟨i, b, d, h1, h2⟩ => ?_, fixL := fun i b d h => ?_, fixO := fun i d h => ?_, sub := fun i a h => ?_ }
  · rcases at_ h1 with ⟨_, _, ho⟩ | ⟨m, h⟩
    · cases ho
    · rcases p.mutb a ⟨i, b, d, h, by rw [wipe_out m]; exact h2⟩ with z | z
      · exact .inl (mut_wipe z)
      · exact .inr z
  · have m : i ∉ vs := fun m => by
      obtain ⟨s', h1, h2⟩ := okV.at ok m
      rw [h] at h1; cases h1; cases h2
    obtain ⟨h1, h2⟩ := p.fixL i b d (by rw [wipeE_out m]; exact h)
    exact ⟨by rw [backE_out m]; exact h1, rfl⟩
  · have m : i ∉ vs := fun m => by
      obtain ⟨s', h1, h2⟩ := okV.at ok m
      rw [h] at h1; cases h1; cases h2
    obtain ⟨⟨d', h1⟩, h2⟩ := p.fixO i d (by rw [wipeE_out m]; exact h)
    exact ⟨⟨d', by rw [backE_out m]; exact h1⟩, rfl⟩
  · exact (held_wipe q (p.sub i a (held h))).1
/-- an object that no slot has, new against the start, is written -/
theorem PostV.wrNew {env : En} {H0 : Hp} {σ0 : L2.St} {a : Addr} {d : D} {o : HO} (p : PostV G C vs env σ0 H0 e σ H) (hn : H0 a = none) (nh : ¬ ∃ k, Held e σ k a) (ow : Own G H a d) : PostV G C vs env σ0 H0 e σ (upd H a o) := by
  have kp : Kp H (upd H a o) := ow.kpw
  obtain ⟨o', eo, nt, _, _⟩ := ow.obj
  have rel : Rel G C e σ (upd H a o) := {
    len := p.rel.len
    slot := fun i s h => by
      have sr := p.rel.slot i s h
      have ow' : ∀ {b x}, Held e σ i b → Own G H b x → Own G (upd H a o) b x := fun {b x} hh q => q.mono kp (upd_ne fun z => nh ⟨i, z ▸ hh⟩)
      cases s with
      | un => trivial
      | xc c => exact sr.elim
      | sh x => obtain ⟨v, e1, r⟩ := sr; exact ⟨v, e1, r.mono kp⟩
      | ow b x => obtain ⟨b', e1, q⟩ := sr; exact ⟨b', e1, ow' ⟨⟨_, x, h, rfl⟩, e1⟩ q⟩
      | lk b x => obtain ⟨b', e1, q⟩ := sr; exact ⟨b', e1, ow' ⟨⟨_, x, h, rfl⟩, e1⟩ q⟩
    inj := p.rel.inj
    tab := fun P hP => by
      obtain ⟨ps, h, t⟩ := p.rel.tab P hP
      refine ⟨ps, ?_, t⟩
      rw [upd_ne]
      · exact h
      · intro z
        rw [z, eo] at h
        cases h
        exact nt ps rfl
    new := p.rel.new
    old := fun b h => by
      by_cases z : b = a
      · rw [z, upd_same]; simp
      · rw [upd_ne z]; exact p.rel.old b h }
  refine { rel := rel, keep := fun b w h ht hm => ?_, there := fun b h => ?_, mutb := p.mutb, fixL := p.fixL, fixO := p.fixO, wip := p.wip, sub := p.sub }
  · rw [upd_ne fun z => by rw [z, hn] at h; cases h]
    exact p.keep b w h ht hm
  · by_cases z : b = a
    · rw [z, upd_same]; simp
    · rw [upd_ne z]; exact p.there b h
end
def tGv (C : Cc) (G : Gd) (vs : List Nat) (g : TgD) : TG := fun v σ H Q => ∃ env d e', Rel G C env σ H ∧ Rep G H v d ∧ g d env = some e' ∧ ∀ σ' H', PostV G C vs env σ H e' σ' H' → Q σ' H'
def tGvs (C : Cc) (G : Gd) (vs : List Nat) (g : List D → En → Option En) : TGs := fun ws σ H Q => ∃ env ds e', Rel G C env σ H ∧ Reps G H ws ds ∧ g ds env = some e' ∧ ∀ σ' H', PostV G C vs env σ H e' σ' H' → Q σ' H'
section
variable {X : Cx} {C : Cc} {pos : Pos} {i : Nat} {x : Str} {es : List Expr} {e : Expr} {g : TgD} {gs : List D → En → Option En} {vs : List Nat}
theorem gv_name (i : Nat) (hv : i ∈ vs) (hN : X.N.Nodup) (hi : X.N[i]? = some x) (hx : Loc X.env.scope x) (hf : X.fn x = true ∨ X.env.scope.names.lookup x = some .local := by first | exact .inl rfl | exact .inr rfl | assumption) : PG X (.Name x pos) (tGv C (gd X) vs (gNm i)) :=
  (pg_name hN hi hx hf).imp fun v σ H Q ⟨env, d, e', q, r, h, hq⟩ => by
    unfold gNm at h
    by_cases t : okTgt env i = true
    · rw [if_pos t] at h
      cases h
      refine hq _ _ { (Post.refl q).setSh t r with wip := wipe_set hv, sub := fun k a hh => ?_ }
      have lt := okTgt.lt t
      by_cases z : k = i
      · subst z
        obtain ⟨⟨s', y, q1, q2⟩, _⟩ := hh
        rw [List.getElem?_set_self lt] at q1
        cases q1; cases q2
      · exact heldSet hh z
    · rw [if_neg t] at h; cases h
theorem gvs_nil : PGs X [] (tGvs C (gd X) vs gNl) := pgs_nil.imp fun v σ H Q ⟨env, d, e', q, r, h, hq⟩ => by
  cases r with
  | nil => cases h; exact ⟨rfl, hq _ _ (.refl q)⟩
  | cons _ _ => cases h
theorem gvs_cons (h1 : PG X e (tGv C (gd X) vs g)) (h2 : PGs X es (tGvs C (gd X) vs gs)) (hs : (assignEach (e :: es) X.env).map (·.2) = assign e X.env :: (assignEach es X.env).map (·.2) := by rfl) : PGs X (e :: es) (tGvs C (gd X) vs (gCn g gs)) :=
  (pgs_cons h1 h2 hs).imp fun ws σ H Q ⟨env, ds, e', q, r, h, hq⟩ => by
    cases r with
    | nil => cases h
    | @cons v d ws ds rv rs =>
      refine ⟨v, ws, rfl, env, d, ?_⟩
      have h : (match g d env with | some e1 => gs ds e1 | none => none) = some e' := h
      cases z : g d env with
      | none => rw [z] at h; cases h
      | some e1 =>
        rw [z] at h
        exact ⟨e1, q, rv, rfl, fun σ1 H1 p => ⟨e1, ds, e', p.rel, rs.mono (p.toPost.kp q), h, fun σ2 H2 p2 => hq _ _ (p.trans p2)⟩⟩
theorem gv_tup {k n : Nat} (hc : X.calm = true) (h : PGs X es (tGvs C (gd X) vs gs)) (hn : (assignEach es X.env).length = n := by rfl) (hst : (assignEach es X.env).findIdx? (·.1) = none := by rfl) : PG X (.Tuple es k pos) (tGv C (gd X) vs (gTp n gs)) := by
  have h1 := pg_tup (t := tGvs C (gd X) vs gs) (pos := pos) (k := k) hc h hn hst
  have h2 := pg_lst (t := tGvs C (gd X) vs gs) (pos := pos) (k := k) hc h hn hst
  refine ⟨fun pins s σ H v u Q I r ⟨env, d, e', q, rd, hg, hq⟩ => ?_⟩
  have rd : Dr (gd X) H v d := .inl rd
  unfold gTp at hg
  cases d with
  | tuple ds =>
    obtain ⟨a, ws, rfl, hs, rs⟩ := rd.tup
    have hg : (if ds.length = n then gs ds env else none) = some e' := hg
    by_cases z : ds.length = n
    · rw [if_pos z] at hg
      exact h1.run pins s σ H _ u Q I r ⟨a, ws, rfl, hs, by rw [rs.length]; exact z, env, ds, e', q, rs, hg, hq⟩
    · rw [if_neg z] at hg; cases hg
  | list ds =>
    obtain ⟨a, ws, rfl, hs, rs⟩ := rd.lst
    have hg : (if ds.length = n then gs ds env else none) = some e' := hg
    by_cases z : ds.length = n
    · rw [if_pos z] at hg
      exact h2.run pins s σ H _ u Q I r ⟨a, ws, rfl, hs, by rw [rs.length]; exact z, env, ds, e', q, rs, hg, hq⟩
    · rw [if_neg z] at hg; cases hg
  | _ => cases hg
end
def mYes : MT := fun e => .ok true e
section
variable {X : Cx} {C : Cc} {W : WX} {c : Expr} {m : MT}
theorem _root_.L2.PTs.imp {e : List Expr} {t t' : TT} (h : PTs X e t) (i : ∀ σ H Q, t' σ H Q → t σ H Q) : PTs X e t' := ⟨fun pins s σ H Q I hq => h.run pins s σ H Q I (i σ H Q hq)⟩
theorem ts_nil : PTs X [] (tT C (gd X) W mYes) := pts_nil.imp fun σ H Q ⟨env, q, h⟩ => h true H (.refl q) rfl
theorem ts_one (h : PT X c (tT C (gd X) W m)) : PTs X [c] (tT C (gd X) W m) := pts_one h
end
end PV

set_option Elab.async false
set_option linter.all false
set_option maxRecDepth 100000
set_option maxHeartbeats 4000000
namespace PV
open PySem PySem.Spec PyProof.Rows L2
def lcLoop (vs : List Nat) (g : TgD) (mt : MT) (me : ME) : List D → List D → En → R (List D)
  | [], acc => fun e => .ok acc e
  | d :: ds, acc => fun e => match g d e with
    | none => .stuck
    | some e1 => (mt e1).bind fun b e2 => if b = true then (me e2).bind fun r e3 => match frz1 r e3 with
        | some (y, e4) => if acc.length < sizeLine then lcLoop vs g mt me ds (acc ++ [y]) (wipeE e4 vs) else .stuck
        | none => .stuck
      else lcLoop vs g mt me ds acc (wipeE e2 vs)
def unlE (o : Option Nat) (e1 e : En) : En := match o with
  | some i => match e1[i]? with
    | some (.ow b d) => e.set i (.ow b d)
    | _ => e
  | none => e
def mLc (vs : List Nat) (mi : MI) (g : TgD) (mt : MT) (me : ME) : ME := fun env => (mi env).bind fun r e1 => if okV vs (lockE r.2 e1) = true then match lcLoop vs g mt me r.1 [] (wipeE (lockE r.2 e1) vs) with
    | .ok acc e2 => .ok (.nw (.list acc)) (unlE r.2 e1 (backE (lockE r.2 e1) e2 vs))
    | _ => .stuck
  else .stuck
abbrev noW : WX := fun _ _ _ _ => False
/-- an expression's value, frozen -/
def tEf (C : Cc) (G : Gd) (m : ME) : TE := fun σ H Q => ∃ env, Rel G C env σ H ∧ match m env with
  | .ok r e => match frz1 r e with
    | some (y, e2) => ∀ v H', PostE G C env σ H e2 H' → Rep G H' v y → Q v H'
    | none => False
  | _ => False
theorem e_frz {X : Cx} {C : Cc} {e : Expr} {m : ME} (he : PE X e (tE C (gd X) noW m)) : PE X e (tEf C (gd X) m) := (pe_gh he).imp fun σ H Q ⟨env, q, h⟩ => ⟨env, q, by
  cases z : m env with
  | stuck => rw [z] at h; exact h
  | exc c e => rw [z] at h; exact h.elim
  | ok r e =>
    rw [z] at h
    intro v H' p vr pins s I
    cases zf : frz1 r e with
    | none => simp only [zf] at h
    | some ye =>
      obtain ⟨y, e2⟩ := ye
      simp only [zf] at h
      obtain ⟨H2, I2, p2, rep, _, _⟩ := frz1_ok I q p (.inl vr) zf
      exact ⟨H2, I2, h v H2 p2 rep⟩⟩
theorem wipe_wipe {σ : L2.St} {vs : List Nat} : wipe (wipe σ vs) vs = wipe σ vs := by
  apply List.ext_getElem?
  intro k
  by_cases hk : k ∈ vs
  · by_cases lt : k < σ.length
    · rw [wipe_in (by rw [wipe_length]; exact lt) hk, wipe_in lt hk]
    · rw [List.getElem?_eq_none (by rw [wipe_length, wipe_length]; omega), List.getElem?_eq_none (by rw [wipe_length]; omega)]
  · rw [wipe_out hk]
theorem wipeE_un {vs : List Nat} {e : En} (ok : okV vs e = true) : ∀ i ∈ vs, (wipeE e vs)[i]? = some .un ∨ (wipeE e vs)[i]? = none := fun i m => by
  obtain ⟨s, h, _⟩ := okV.at ok m
  exact .inl (wipeE_in (List.getElem?_eq_some_iff.mp h).1 m)
section
variable {G : Gd} {C : Cc} {env e1 e2 : En} {σ : L2.St} {H H1 H2 : Hp}
theorem unl_ok (p : PostE G C env σ H e1 H1) (o : Option Nat) (p2 : PostE G C (lockE o e1) σ H1 e2 H2) : PostE G C env σ H (unlE o e1 e2) H2 := by
  unfold lockE at p2
  unfold unlE
  cases o with
  | none => exact p.trans p2
  | some i =>
    dsimp only at p2 ⊢
    cases z : e1[i]? with
    | none => rw [z] at p2; exact p.trans p2
    | some s =>
      rw [z] at p2
      cases s with
      | ow b d =>
        dsimp only at p2 ⊢
        have lt : i < e1.length := (List.getElem?_eq_some_iff.mp z).1
        obtain ⟨h2, _⟩ := p2.fixL i b d (List.getElem?_set_self lt)
        exact { Post.lockLoop p.toPost z p2.toPost with sub := fun k a h => p.sub k a (heldLk z (p2.sub k a (heldOw h2 h))) }
      | _ => exact p.trans p2
end
section
variable {X : Cx} {C : Cc} {W : WX} {elt tg iter : Expr} {ifs : List Expr} {scope : Scope} {own : List (Str × Nat)} {pos : Pos} {mi : MI} {g : TgD} {mt : MT} {me : ME} {vs : List Nat}
/-- what must hold of the rest of a block's loop -/
def lcFin (G : Gd) (C : Cc) (vs : List Nat) (eb : En) (σb : L2.St) (H1 : Hp) (D : Addr) (Q : VK) (k : R (List PV.D)) : Prop := match k with
  | .ok acc e => ∀ HF, PostV G C vs eb σb H1 e σb HF → Own G HF D (.list acc) → Q (.ref D) HF
  | _ => False
theorem lcK {σ : L2.St} {H : Hp} {Q : VK} (h : tE C (gd X) W (mLc vs mi g mt me) σ H Q) : tLc (tI C (gd X) W mi) (tGv C (gd X) vs g) (tT C (gd X) noW mt) (tEf C (gd X) me) vs σ H Q := by
  obtain ⟨env, q, h⟩ := h
  refine ⟨env, q, ?_⟩
  unfold mLc at h
  cases zi : mi env with
  | stuck => rw [zi] at h; exact h
  | exc c e => rw [zi] at h; exact h
  | ok r e1 =>
    obtain ⟨ds, o⟩ := r
    rw [zi] at h
    intro J H1 p1 it D hD
    have h : tK C (gd X) W (ValRel (gd X)) env σ H (if okV vs (lockE o e1) = true then match lcLoop vs g mt me ds [] (wipeE (lockE o e1) vs) with
      | .ok acc e2 => R.ok (.nw (.list acc)) (unlE o e1 (backE (lockE o e1) e2 vs))
      | _ => .stuck else .stuck) Q := h
    have it : ItOk (gd X) J (lockE o e1) σ H1 ds := it
    by_cases hok : okV vs (lockE o e1) = true
    case neg => rw [if_neg hok] at h; exact h.elim
    rw [if_pos hok] at h
    have ql : Rel (gd X) C (lockE o e1) σ H1 := p1.rel.lockE o
    have un := wipeE_un hok
    have nhD : ∀ {e σ' H'}, PostV (gd X) C vs (wipeE (lockE o e1) vs) (wipe σ vs) H1 e σ' H' → ¬ ∃ k, Held e σ' k D := fun {e σ' H'} pv ⟨k, hk⟩ => by
      exact ql.heldSome ⟨k, (held_wipe ql (pv.sub k D hk)).1⟩ hD
    have hHD : H D = none := by
      cases z : H D with
      | none => rfl
      | some o' => exact absurd hD (p1.there D (by rw [z]; simp))
    refine ⟨fun i m Hx => m = ds.length - i ∧ i ≤ ds.length ∧ ∃ e acc, PostV (gd X) C vs (wipeE (lockE o e1) vs) (wipe σ vs) H1 e (wipe σ vs) Hx ∧ Own (gd X) Hx D (.list acc) ∧
      lcFin (gd X) C vs (wipeE (lockE o e1) vs) (wipe σ vs) H1 D Q (lcLoop vs g mt me (ds.drop i) acc e), ⟨ds.length, by simp, Nat.zero_le _, wipeE (lockE o e1) vs, [], (PostE.same ql.wipe (same_upd hD)).toV, ⟨[], upd_same, .nil⟩, ?_⟩, ?_⟩
    · rw [List.drop_zero]
      cases zl : lcLoop vs g mt me ds [] (wipeE (lockE o e1) vs) with
      | stuck => rw [zl] at h; exact h.elim
      | exc c e => rw [zl] at h; exact h.elim
      | ok acc e2 =>
        rw [zl] at h
        exact fun HF pv ow => h (.ref D) HF (unl_ok p1 o (pv.back ql hok)) ⟨D, rfl, hHD, ow⟩
    · rintro i m Hx ⟨rfl, hle, e, acc, pv, ow, fin⟩
      have rc : Reach (lockE o e1) σ H1 Hx := fun a ob ha hnt hm => pv.keep a ob ha hnt fun mm => hm (mut_wipe mm)
      obtain ⟨items, stp⟩ := it Hx rc
      by_cases lt : i < ds.length
      case neg =>
        have e' : i = ds.length := by omega
        subst e'
        rw [List.drop_length] at fin
        exact .inl ⟨stp, fin Hx pv ow⟩
      have hd : ds[i]? = some ds[i] := List.getElem?_eq_getElem lt
      obtain ⟨go, yl⟩ := items i _ hd
      rw [List.drop_eq_getElem_cons lt] at fin
      refine .inr ⟨go, fun H' => ∃ e' acc', PostV (gd X) C vs (wipeE (lockE o e1) vs) (wipe σ vs) H1 e' (wipe σ vs) H' ∧ Own (gd X) H' D (.list acc') ∧
        lcFin (gd X) C vs (wipeE (lockE o e1) vs) (wipe σ vs) H1 D Q (lcLoop vs g mt me (ds.drop (i + 1)) acc' e'), fun H' ⟨e', acc', a1, a2, a3⟩ => ⟨ds.length - (i + 1), by omega, rfl, lt, e', acc', a1, a2, a3⟩, fun x H' y => ?_⟩
      obtain ⟨sm, rx⟩ := yl x H' y
      have pv1 := pv.trans (PostE.same pv.rel sm).toV
      have fin : lcFin (gd X) C vs (wipeE (lockE o e1) vs) (wipe σ vs) H1 D Q (match g ds[i] e with
        | none => .stuck
        | some e1 => (mt e1).bind fun b e2 => if b = true then (me e2).bind fun r e3 => match frz1 r e3 with
            | some (y, e4) => if acc.length < sizeLine then lcLoop vs g mt me (ds.drop (i + 1)) (acc ++ [y]) (wipeE e4 vs) else .stuck
            | none => .stuck
          else lcLoop vs g mt me (ds.drop (i + 1)) acc (wipeE e2 vs)) := fin
      cases zg : g ds[i] e with
      | none => rw [zg] at fin; exact fin.elim
      | some e2 =>
        rw [zg] at fin
        dsimp only at fin
        refine ⟨e, ds[i], e2, pv1.rel, rx, zg, fun σ2 H2 p2 => ⟨p2.wip.trans wipe_wipe, ?_⟩⟩
        have pv2 := pv1.trans p2
        -- the new list as it stands
        have owAt : ∀ {e' σ' H3}, PostV (gd X) C vs (wipeE (lockE o e1) vs) (wipe σ vs) H1 e' σ' H3 → PostV (gd X) C vs e (wipe σ vs) Hx e' σ' H3 → ∃ ws, Hx D = some (.lst ws) ∧ H3 D = some (.lst ws) ∧ Reps (gd X) H3 ws acc := fun {e' σ' H3} _ px => by
          obtain ⟨ws, h1, h2⟩ := id ow
          refine ⟨ws, h1, px.keep D _ h1 (fun _ z => nomatch z) (fun mm => ?_), h2.mono (px.toPost.kp pv.rel)⟩
          obtain ⟨k, hk⟩ := mm.held
          exact nhD pv ⟨k, hk⟩
        have px2 := (PostE.same pv.rel sm).toV.trans p2
        refine ⟨e2, p2.rel, ?_⟩
        cases zt : mt e2 with
        | stuck => rw [zt] at fin; exact fin.elim
        | exc c e' => rw [zt] at fin; exact fin.elim
        | ok b e3 =>
          rw [zt] at fin
          intro b' H3 p3 eb
          subst eb
          have pv3 := pv2.trans p3.toV
          have px3 := px2.trans p3.toV
          have fin : lcFin (gd X) C vs (wipeE (lockE o e1) vs) (wipe σ vs) H1 D Q (if b' = true then (me e3).bind fun r e3 => match frz1 r e3 with
              | some (y, e4) => if acc.length < sizeLine then lcLoop vs g mt me (ds.drop (i + 1)) (acc ++ [y]) (wipeE e4 vs) else .stuck
              | none => .stuck
            else lcLoop vs g mt me (ds.drop (i + 1)) acc (wipeE e3 vs)) := fin
          by_cases hb : b' = true
          case neg =>
            rw [if_neg hb] at fin ⊢
            obtain ⟨ws, _, h3, r3⟩ := owAt pv3 px3
            exact ⟨_, acc, pv3.again un wipe_wipe, ⟨ws, h3, r3⟩, fin⟩
          rw [if_pos hb] at fin ⊢
          refine ⟨e3, pv3.rel, ?_⟩
          cases zm : me e3 with
          | stuck => rw [zm] at fin; exact fin.elim
          | exc c e' => rw [zm] at fin; exact fin.elim
          | ok r e4 =>
            rw [zm] at fin
            have fin : lcFin (gd X) C vs (wipeE (lockE o e1) vs) (wipe σ vs) H1 D Q (match frz1 r e4 with
              | some (y, e4) => if acc.length < sizeLine then lcLoop vs g mt me (ds.drop (i + 1)) (acc ++ [y]) (wipeE e4 vs) else .stuck
              | none => .stuck) := fin
            dsimp only
            cases zf : frz1 r e4 with
            | none => rw [zf] at fin; exact fin.elim
            | some ye =>
              obtain ⟨yy, e5⟩ := ye
              rw [zf] at fin
              dsimp only at fin ⊢
              intro v H4 p4 rv
              have pv4 := pv3.trans p4.toV
              have px4 := px3.trans p4.toV
              by_cases hl : acc.length < sizeLine
              case neg => rw [if_neg hl] at fin; exact fin.elim
              rw [if_pos hl] at fin
              obtain ⟨ws, _, h4, r4⟩ := owAt pv4 px4
              have ow4 : Own (gd X) H4 D (.list acc) := ⟨ws, h4, r4⟩
              refine ⟨ws, h4, by rw [r4.length]; exact hl, _, acc ++ [yy], (pv4.wrNew (o := .lst (ws ++ [v])) hD (nhD pv4) ow4).again un wipe_wipe, ⟨ws ++ [v], upd_same, ?_⟩, fin⟩
              exact (Reps.append r4 (.cons rv .nil)).mono ow4.kpw
theorem b_lc (hc : X.calm = true) (hN : X.N.Nodup) (hi : PI X tg iter (tI C (gd X) W mi)) (ok : BlkOk X.N X.env.scope scope own) (hvs : own.map (·.2) = vs)
    (hg : ∀ (s : Shared) (H : Hp) (c : Addr) (cl : List (Str × Addr)) (fp : List Addr), PG (X.blk s H scope (compEnvC scope cl c X.env) fp) tg (tGv C (gd X) vs g))
    (ht : ∀ (s : Shared) (H : Hp) (c : Addr) (cl : List (Str × Addr)) (fp : List Addr), PTs (X.blk s H scope (compEnvC scope cl c X.env) fp) ifs (tT C (gd X) noW mt))
    (he : ∀ (s : Shared) (H : Hp) (c : Addr) (cl : List (Str × Addr)) (fp : List Addr), PE (X.blk s H scope (compEnvC scope cl c X.env) fp) elt (tE C (gd X) noW me)) (hs : ∀ x, foldedSetIterable iter X.env x = pure x := by intro _; rfl) :
    PE X (.ListComp elt [⟨tg, iter, ifs, 0⟩] scope pos) (tE C (gd X) W (mLc vs mi g mt me)) := by
  subst hvs
  exact (pe_lc (te := tEf C (gd X) me) hc hN hi ok hg ht (fun s H c cl fp => e_frz (he s H c cl fp)) hs).imp fun σ H Q h => lcK h
theorem lc_nw {env : En} {r : Val} {e : En} (h : mLc vs mi g mt me env = .ok r e) : ∃ y, r = .nw y := by
  unfold mLc at h
  cases zi : mi env with
  | stuck => rw [zi] at h; cases h
  | exc c e => rw [zi] at h; cases h
  | ok q e1 =>
    rw [zi] at h
    simp only [R.bind] at h
    split at h
    · split at h
      · cases h; exact ⟨_, rfl⟩
      · cases h
    · cases h
/-- a store of a new object wants no step -/
theorem setK {m : ME} {i : Nat} {D : Ends} {σ : L2.St} {H : Hp} (hn : ∀ {env r e}, m env = .ok r e → ∃ y, r = .nw y) (h : tS C (gd X) W (mSet i m) D σ H) : tE C (gd X) W m σ H fun x H1 => D.nx (σ.set i (some x)) H1 := by
  obtain ⟨env, q, h⟩ := h
  refine ⟨env, q, ?_⟩
  unfold mSet at h
  cases k : m env with
  | stuck => rw [k] at h; exact h
  | exc c e => rw [k] at h; exact fun H' p => h σ H' p.toPost
  | ok r e1 =>
    obtain ⟨y, rfl⟩ := hn k
    rw [k] at h
    intro v H' p vr
    have h : tSK C (gd X) W env σ H (if okTgt e1 i then R.ok Fl.nx (e1.set i (.ow false y)) else .stuck) D := h
    by_cases t : okTgt e1 i = true
    · rw [if_pos t] at h
      obtain ⟨a, e', hn', ow⟩ := vr
      subst e'
      exact h _ _ (p.setOw q t hn' ow)
    · rw [if_neg t] at h; exact h.elim
/-- name = [.. for ..] on one line -/
theorem s_setLc (i : Nat) {y : Str} {py spos : Pos} (hc : X.calm = true) (hN : X.N.Nodup) (hy : X.N[i]? = some y) (hyl : X.env.scope.names.lookup y = some .local)
    (hsw : swapsWith (.ListComp elt [⟨tg, iter, ifs, 0⟩] scope pos) (some (.Name y py)) spos.line X.env = pure true) (hi : PI X tg iter (tI C (gd X) W mi)) (ok : BlkOk X.N X.env.scope scope own) (hvs : own.map (·.2) = vs)
    (hg : ∀ (s : Shared) (H : Hp) (c : Addr) (cl : List (Str × Addr)) (fp : List Addr), PG (X.blk s H scope (compEnvC scope cl c X.env) fp) tg (tGv C (gd X) vs g))
    (ht : ∀ (s : Shared) (H : Hp) (c : Addr) (cl : List (Str × Addr)) (fp : List Addr), PTs (X.blk s H scope (compEnvC scope cl c X.env) fp) ifs (tT C (gd X) noW mt))
    (he : ∀ (s : Shared) (H : Hp) (c : Addr) (cl : List (Str × Addr)) (fp : List Addr), PE (X.blk s H scope (compEnvC scope cl c X.env) fp) elt (tE C (gd X) noW me)) (hs : ∀ x, foldedSetIterable iter X.env x = pure x := by intro _; rfl) :
    PS X (.Assign [.Name y py] (.ListComp elt [⟨tg, iter, ifs, 0⟩] scope pos) spos) (tS C (gd X) W (mSet i (mLc vs mi g mt me))) := by
  subst hvs
  exact (ps_setLc (te := tEf C (gd X) me) hc hN hy hyl hsw hi ok hg ht (fun s H c cl fp => e_frz (he s H c cl fp)) hs).imp fun D σ H h => lcK (setK lc_nw h)
end
end PV

set_option Elab.async false
set_option linter.all false
set_option maxRecDepth 100000
set_option maxHeartbeats 4000000
namespace PV
open PySem PySem.Spec PyProof.Rows L2

theorem over_loopG {A : Around} {elt : Expr} {gs : List Comprehension} {scope : Scope} {pos : Pos} {it acc : Value} {env : Env} : A.over (.compLoop (.GeneratorExp elt gs scope pos) 0 it acc env) [] = A.deeper env := by
  first
    | rfl
    | (obtain ⟨hd, d, fr, gs, u⟩ := A; simp [Around.over, Around.deeper, marksOver, frameCount, unitsOf, envsOf, guardsOf, pushEnvs, pushGuards, Code.envs, Code.env?, Code.isFrame, Code.guards, Code.isGuard, Code.weight, Code.frames, Code.isCreation, Code.isCaller, Code.cUnits])
theorem over_startG {A : Around} {elt : Expr} {gs : List Comprehension} {scope : Scope} {pos : Pos} {it acc : Value} {env : Env} : A.over (.compStart (.GeneratorExp elt gs scope pos) 0 it acc env) [] = A.deeper env := by
  first
    | rfl
    | (obtain ⟨hd, d, fr, gs, u⟩ := A; simp [Around.over, Around.deeper, marksOver, frameCount, unitsOf, envsOf, guardsOf, pushEnvs, pushGuards, Code.envs, Code.env?, Code.isFrame, Code.guards, Code.isGuard, Code.weight, Code.frames, Code.isCreation, Code.isCaller, Code.cUnits])

/-- the context of a generator expression's frame -/
abbrev _root_.L2.Cx.gen (X : Cx) (A : Around) (s : Shared) (H : Hp) (env : Env) (fp : List Addr) (pn : List (Addr × Obj)) : Cx :=
  { X with A := A, s_0 := s, H_0 := H, env := env, outer := X.stack, stack := env :: X.stack, ex := fp, fn := fun _ => false, pn := pn, xe := fun _ _ => False }
/-- the names of a generator expression -/
structure GenOk (N : List Str) (sc scope : Scope) (own : List (Str × Nat)) : Prop extends BlkOk N sc scope own where
  co : scope.isCoroutine = false
  cell : ∀ y ∈ scope.names, y.2 ≠ .cell
  dot : scope.names.lookup (".0" : Str) = some NameKind.local
theorem gclo_mem {cells : List (Str × Addr)} {names : List (Str × NameKind)} {n : Str} {c : Addr} (h : (cloFrom cells names []).lookup n = some c) : (n, NameKind.free) ∈ names ∧ c = (cells.lookup n).getD 0 := by
  rcases cloFrom_mem (PySem.mem_of_lookup h) with z | z
  · cases z
  · exact z
theorem gen_start {X : Cx} {pins : List (Addr × Obj)} {σ : L2.St} {H : Hp} {s s2 : Shared} {scope : Scope} {own : List (Str × Nat)} {fp : List Addr} {B : Around} {pn : List (Addr × Obj)} {code : Value} {bi : Addr} {m : Str → Option Value}
    (I : Inv X pins σ H s) (ok : GenOk X.N X.env.scope scope own) (hN : X.N.Nodup) (hfp : ∀ b ∈ fp, FpOk X pins H b ∧ b < s.heap.objs.size) (hB : B.handled = none) (hfr : B.frames = some X.stack) (hbi : bi = builtinsNs)
    (ho : s2.os = s.os) (hb : AllBare s2.gens) (kp : ∀ b o, s.heap.get? b = some o → s2.heap.get? b = some o) (hn : s2.heap.Ns s.heap.objs.size m)
    (hpn : ∀ p ∈ pn, s2.heap.get? p.1 = some p.2 ∧ s.heap.objs.size < p.1 ∧ ∀ v, p.2.data ≠ .cell v) :
    Inv (X.gen (B.deeper (genEnv scope (cloFrom X.env.cells scope.names []) s.heap.objs.size code bi X.env)) s H (genEnv scope (cloFrom X.env.cells scope.names []) s.heap.objs.size code bi X.env) fp pn) [] (wipe σ (own.map (·.2))) H s2 := by
  have hfree : ∀ y ∈ scope.names, y.2 = .free → ∃ c, X.env.cells.lookup y.1 = some c := fun y hy e => by
    rcases ok.free y hy e with k | k
    · exact I.ok.has _ (.inl k)
    · exact I.ok.has _ (.inr k)
  have cm : ∀ {y c}, (cloFrom X.env.cells scope.names []).lookup y = some c → X.env.cells.lookup y = some c ∧ c < s.heap.objs.size ∧ (y, NameKind.free) ∈ scope.names := fun {y c} hm => by
    obtain ⟨h1, rfl⟩ := gclo_mem hm
    obtain ⟨c, hc⟩ := hfree _ h1 rfl
    rw [hc]
    obtain ⟨w, z⟩ := I.cell _ _ hc
    exact ⟨rfl, z.lt, h1⟩
  have look : ∀ {y}, scope.names.lookup y = some .free → ∃ c, (cloFrom X.env.cells scope.names []).lookup y = some c ∧ X.env.cells.lookup y = some c := fun {y} hl => by
    obtain ⟨c', e'⟩ := mem_lookup (cloFrom_has (cells := X.env.cells) (acc := []) (PySem.mem_of_lookup hl))
    exact ⟨c', e', (cm e').1⟩
  have nocell : ∀ {y}, scope.names.lookup y ≠ some .cell := fun {y} h => ok.cell _ (PySem.mem_of_lookup h) rfl
  have stk : ∀ b ∈ frs X.stack, b < s.heap.objs.size := fun b hb => by
    rcases List.mem_cons.mp (I.stkSub b hb) with z | z
    · rw [z]; exact I.lt
    · obtain ⟨_, o, h, _⟩ := I.ok.funs.mem z
      exact Nat.lt_of_lt_of_le (Heap.lt_size h) I.sz
  refine ⟨⟨I.ok.mod, ok.kind, I.ok.glob, hbi, Nat.le_refl _, fun y z c e1 e2 => I.ok.inj y z c (cm e1).1 (cm e2).1, fun y hy => ?_, fun y c z e => absurd z Bool.false_ne_true, fun _ => hB, ?_, .inr ⟨rfl, rfl⟩, fun b hb => ⟨Nat.ne_of_lt (hfp b hb).2, fun y c e z => ?_⟩, I.bs, Nat.le_trans I.ok.bsz I.sz, fun b o e hb => ?_, fun b hb z => ?_, I.stack, I.stkFree⟩,
    ho, hb, Un.kept kp, ⟨m, hn, fun i y av e1 e2 e3 => ?_⟩, fun y c e => ?_, I.hok.fresh (Nat.le_refl _), fun y c e => I.freeC y c (cm e).1, fun p hp => ?_, I.hok.kept kp, by rw [wipe_length]; exact I.len⟩
  · rcases hy with hy | hy
    · exact absurd hy nocell
    · obtain ⟨c, h, _⟩ := look hy
      exact ⟨c, h⟩
  · exact Around.frames_deeper hfr
  · exact (hfp b hb).1.2.2.2.2.1 y c (cm e).1 z
  · rcases (hfp b hb).1.2.2.2.1 with z | z
    · exact I.ok.noex b o e z
    · exact absurd (Nat.lt_of_lt_of_le (Heap.lt_size e) (Nat.le_trans I.ok.bsz z)) (Nat.lt_irrefl _)
  · rcases List.mem_cons.mp (I.stkSub b z) with z | z
    · exact (hfp b hb).1.2.1 z
    · exact (hfp b hb).1.2.2.1 z
  · obtain ⟨e2, hne⟩ := wipe_some e2
    have e3 : Vis scope y := e3
    have no : ∀ k, scope.names.lookup y = some k → ¬ (k = .local ∨ k = .cell) := fun k e hh => by
      rcases ok.own _ (PySem.mem_of_lookup e) hh with e' | e'
      · obtain ⟨p, hp, hpy⟩ := List.mem_map.mp e'
        have e3 := ok.ix p hp
        have : p.1 = y := hpy
        rw [this] at e3
        exact hne (List.mem_map.mpr ⟨p, hp, nodup_ix hN e3 e1⟩)
      · exact e' (List.mem_of_getElem? e1)
    have hfr : scope.names.lookup y = some .free := by
      rcases e3 with e3 | e3 | e3
      · exact absurd (.inl rfl) (no _ e3)
      · exact absurd (.inr rfl) (no _ e3)
      · exact e3
    obtain ⟨m, hn, hl⟩ := I.loc
    have hvis : Vis X.env.scope y := (ok.free _ (PySem.mem_of_lookup hfr) rfl).elim (fun k => .inr (.inl k)) (fun k => .inr (.inr k))
    obtain ⟨w, r, q⟩ := hl i y av e1 e2 hvis
    obtain ⟨c, h1, h2⟩ := look hfr
    refine ⟨w, r, .inr ⟨.inr hfr, c, h1, ?_⟩⟩
    rcases q with ⟨k, _⟩ | ⟨_, c', e', z⟩
    · have k : X.env.scope.names.lookup y = some .local := k
      rcases ok.free _ (PySem.mem_of_lookup hfr) rfl with k' | k' <;> rw [show X.env.scope.names.lookup y = _ from k'] at k <;> cases k
    · rw [h2] at e'; cases e'
      exact z.keeps kp
  · obtain ⟨w, z⟩ := I.cell y c (cm e).1
    exact ⟨w, z.keeps kp⟩
  · have hp : p ∈ pn ++ [] := hp
    rw [List.append_nil] at hp
    obtain ⟨h1, h2, h3⟩ := hpn p hp
    exact ⟨h1, I.hok.fresh (Nat.le_of_lt h2), Nat.ne_of_gt h2, fun z => absurd (Nat.lt_trans h2 (stk _ z)) (Nat.lt_irrefl _), h3⟩
end PV

set_option Elab.async false
set_option linter.all false
set_option maxRecDepth 100000
set_option maxHeartbeats 4000000
namespace PV
open PySem PySem.Spec PyProof.Rows L2

abbrev GNx := List D → En → R (Option (D × List D))
def gNext (vs : List Nat) (g : TgD) (mt : MT) (me : ME) : GNx
  | [] => fun e => .ok none e
  | d :: ds => fun e => match g d e with
    | none => .stuck
    | some e1 => (mt e1).bind fun b e2 => if b = true then (me e2).bind fun r e3 => match frz1 r e3 with
        | some (y, e4) => .ok (some (y, ds)) (wipeE e4 vs)
        | none => .stuck
      else gNext vs g mt me ds (wipeE e2 vs)
def isOk {α : Type} : R α → Prop
  | .ok _ _ => True
  | _ => False
/-- the items left and the slots behind j items -/
def hist (nx : GNx) (ds0 : List D) (e0 : En) : Nat → Option (List D × En)
  | 0 => some (ds0, e0)
  | j + 1 => match hist nx ds0 e0 j with
    | some (ds, e) => match nx ds e with
      | .ok (some (y, ds')) e' => some (ds', e')
      | _ => none
    | none => none
/-- the consumer's own objects (S) may change meanwhile -/
structure Slp (S : List Addr) (s1 s2 : Shared) : Prop where
  os : s2.os = s1.os
  bare : AllBare s2.gens
  keep : ∀ b o, b ∉ S → s1.heap.get? b = some o → s2.heap.get? b = some o
  there : ∀ b ∈ S, ∃ o, s2.heap.get? b = some o ∧ ∀ v, o.data ≠ .cell v
structure SOk (Xg : Cx) (S : List Addr) : Prop where
  young : ∀ b ∈ S, Xg.s_0.heap.objs.size ≤ b
  loc : ∀ b ∈ S, b ≠ Xg.env.locals
  fs : ∀ b ∈ S, b ∉ Xg.fs
  cell : ∀ b ∈ S, ∀ x c, Xg.env.cells.lookup x = some c → c ≠ b
  pn : ∀ b ∈ S, ∀ p ∈ Xg.pn, p.1 ≠ b
  ex : ∀ b ∈ S, b ∉ Xg.ex
theorem SOk.fp {Xg : Cx} {S : List Addr} {H : Hp} (so : SOk Xg S) (hn : ∀ b ∈ S, H b = none) : ∀ b ∈ S, FpOk Xg [] H b := fun b hb =>
  ⟨hn b hb, so.loc b hb, so.fs b hb, .inr (so.young b hb), so.cell b hb, fun p hp => by
    have hp : p ∈ Xg.pn ++ [] := hp
    rw [List.append_nil] at hp
    exact so.pn b hb p hp⟩
theorem _root_.L2.Inv.slp {Xg : Cx} {S : List Addr} {pins : List (Addr × Obj)} {σ : L2.St} {H : Hp} {s1 s2 : Shared} (I : Inv Xg pins σ H s1) (so : SOk Xg S) (hn : ∀ b ∈ S, H b = none) (sl : Slp S s1 s2) : Inv Xg (pinsAt S s2.heap) σ H s2 := by
  have I0 : Inv Xg [] σ H s1 := Inv.unpinned (pins := []) (pl := pins) I
  have nS : ∀ b u, H b = some u → b ∉ S := fun b u e hb => by rw [hn b hb] at e; cases e
  have hok : HOk Xg.prog Xg.w H s2.heap := fun b u e => (I.hok b u e).stay (fun d v hd q => sl.keep d v (by
    rcases hd with z | z
    · rw [z]; exact nS b u e
    · exact nS d _ z) q) (fun _ q => q) fun _ _ q => q
  have I2 := I0.call' (ch := S) sl.os ⟨fun b o q _ _ hx => sl.keep b o hx q, fun b o q _ _ hx => ⟨o.slots, sl.keep b o hx q⟩, fun _ _ _ n _ => n, fun b o q hx => ⟨o, sl.keep b o hx q⟩, fun _ _ q => q, fun _ _ _ q => q, fun _ ps q => ⟨#[], by rw [q]; simp⟩⟩ hok sl.bare fun b hb => ⟨.inr (so.young b hb), so.loc b hb, so.cell b hb, fun p hp => by
    have hp : p ∈ Xg.pn ++ [] := hp
    rw [List.append_nil] at hp
    exact so.pn b hb p hp⟩
  exact I2.pinned (so.fp hn) sl.there
/-- the end of the run -/
def FG (Xg : Cx) (S : List Addr) (C : Cc) (vs : List Nat) (nx : GNx) (ds0 : List D) (eb : En) (σb : L2.St) (Hb : Hp) : Nat → Shared → Shared → Prop := fun n s₀ s1 =>
  ∃ ds e e' H1, hist nx ds0 eb (ds0.length + 1 - n) = some (ds, e) ∧ nx ds e = .ok none e' ∧ Inv Xg (pinsAt S s₀.heap) σb H1 s1 ∧ PostV (gd Xg) C vs eb σb Hb e' σb H1
def RG (Xg : Cx) (S : List Addr) (C : Cc) (vs : List Nat) (nx : GNx) (ds0 : List D) (eb : En) (σb : L2.St) (Hb : Hp) : GenEnd := fun n s₀ r s₁ =>
  ((r = .ok (.ret .none) ∨ r = .ok .next) ∧ FG Xg S C vs nx ds0 eb σb Hb n s₀ s₁) ∨ ∃ e, r = .error e ∧ (fun (_ : Value) (_ : Shared) => False) e s₁
def YG (Xg : Cx) (S : List Addr) (C : Cc) (vs : List Nat) (nx : GNx) (ds0 : List D) (eb : En) (σb : L2.St) (Hb : Hp) : Protocol := fun m s₀ v s1 kap =>
  ∃ ds e y ds' e' H1 x, m + 1 ≤ ds0.length + 1 ∧ hist nx ds0 eb (ds0.length + 1 - (m + 1)) = some (ds, e) ∧ nx ds e = .ok (some (y, ds')) e' ∧ Inv Xg (pinsAt S s₀.heap) σb H1 s1 ∧ PostV (gd Xg) C vs eb σb Hb e' σb H1 ∧ RelV x v ∧ Rep (gd Xg) H1 x y ∧
    ∀ s2, isOk (nx ds' e') → Slp S s1 s2 → kap (.send .none) s2
theorem hist_succ {nx : GNx} {ds0 : List D} {e0 : En} {j : Nat} {ds : List D} {e : En} {y : D} {ds' : List D} {e' : En} (h : hist nx ds0 e0 j = some (ds, e)) (h2 : nx ds e = .ok (some (y, ds')) e') : hist nx ds0 e0 (j + 1) = some (ds', e') := by
  show (match hist nx ds0 e0 j with
    | some (ds, e) => match nx ds e with
      | .ok (some (y, ds')) e' => some (ds', e')
      | _ => none
    | none => none) = _
  rw [h]
  dsimp only
  rw [h2]

section
variable {Xg : Cx} {C : Cc} {elt tg iter : Expr} {ifs : List Expr} {scope : Scope} {pos : Pos} {g : TgD} {mt : MT} {me : ME} {vs : List Nat} {ds0 : List D} {eb : En} {σb : L2.St} {Hb : Hp} {B : Around} {J : It} {fp S : List Addr} {it : Addr} {tn : Nat → Heap → Prop}
theorem seg_gen (hB : B.deeper Xg.env = Xg.A) (hxe : Xg.xe = fun _ _ => False) (hc : Xg.calm = true) (T : Turn Xg.prog Xg.w Xg.K tg J fp it tn) (hfp : Xg.ex = fp) (hpn : ∀ p ∈ Xg.pn, p.1 ∉ fp) (so : SOk Xg S) (hco : Xg.env.scope.isCoroutine = false)
    (hit : ∀ e Hx, PostV (gd Xg) C vs eb σb Hb e σb Hx → (∀ (i : Nat) d, ds0[i]? = some d → J.go i Hx ∧ ∀ v H3, J.yld i Hx v H3 → Same Hx H3 ∧ Rep (gd Xg) H3 v d) ∧ J.stop ds0.length Hx)
    (hg : PG Xg tg (tGv C (gd Xg) vs g)) (ht : PTs Xg ifs (tT C (gd Xg) noW mt)) (he : PE Xg elt (tEf C (gd Xg) me)) (hun : ∀ i ∈ vs, eb[i]? = some .un ∨ eb[i]? = none) (hw : wipe σb vs = σb) :
    ∀ (k i n : Nat) (s₀ s : Shared) (H : Hp) (e : En) (ds1 : List D) (e1 : En), ds0.length - i = k → i ≤ ds0.length → ds0.length - i < n → n ≤ ds0.length + 1 → hist (gNext vs g mt me) ds0 eb (ds0.length + 1 - n) = some (ds1, e1) → gNext vs g mt me ds1 e1 = gNext vs g mt me (ds0.drop i) e →
      isOk (gNext vs g mt me (ds0.drop i) e) → Inv Xg (pinsAt S s₀.heap) σb H s → (∀ b ∈ S, ∃ o, s₀.heap.get? b = some o) → PostV (gd Xg) C vs eb σb Hb e σb H → tn i s.heap → (∀ b ∈ fp, H b = none) →
      Seg (model Xg.prog Xg.w) B (RG Xg S C vs (gNext vs g mt me) ds0 eb σb Hb) (YG Xg S C vs (gNext vs g mt me) ds0 eb σb Hb) n s₀ (.compLoop (.GeneratorExp elt [⟨tg, iter, ifs, 0⟩] scope pos) 0 (.ref it) .none Xg.env)
        ((model Xg.prog Xg.w).den (.compLoop (.GeneratorExp elt [⟨tg, iter, ifs, 0⟩] scope pos) 0 (.ref it) .none Xg.env)) [] s := by
  have hA : B.over (.compLoop (.GeneratorExp elt [⟨tg, iter, ifs, 0⟩] scope pos) 0 (.ref it) .none Xg.env) [] = Xg.A := over_loopG.trans hB
  have stat : ∀ {σ' : L2.St} {H' : Hp} {s' : Shared} {h₀ : Heap}, Inv Xg (pinsAt S h₀) σ' H' s' → (∀ b ∈ fp, H' b = none) → ∀ b ∈ fp, FpOk Xg (pinsAt S h₀) H' b := fun {σ' H' s' h₀} I' hn b hb =>
    ⟨hn b hb, (I'.ok.exf b (hfp ▸ hb)).1, I'.ok.exfs b (hfp ▸ hb), .inl (hfp ▸ hb), fun x c e => (I'.ok.exf b (hfp ▸ hb)).2 x c e, fun p hp z => by
      rcases List.mem_append.mp hp with hp | hp
      · exact hpn p hp (z ▸ hb)
      · exact so.ex p.1 (of_pinsAt hp).1 (hfp ▸ z ▸ hb)⟩
  have kx : ∀ {Q : Prop} {u : Value} {s' : Shared}, Xg.xe u s' → Q := fun {Q u s'} h => by rw [hxe] at h; exact h.elim
  intro k
  induction k with
  | zero =>
    intro i n s₀ s H e ds1 e1 hk hi hn hnl hh hx hok I hS pv st nf
    have hin : i = ds0.length := by omega
    subst hin
    rw [List.drop_length] at hx hok
    show Seg _ B _ _ n s₀ _ ((compTurn (.GeneratorExp elt [⟨tg, iter, ifs, 0⟩] scope pos) 0 (.ref it) .none Xg.env).onRaise (leaving Xg.env)) [] s
    rw [compTurn_gen, Sem.onRaise_eq_wrap]
    refine seg_bind_wrap (wpAny_standAt ?_)
    refine seg_bind_wrap ?_
    rw [hA]
    refine thnF (T.done Xg rfl rfl rfl hc _ _ s _ H (fun _ _ => False) I (stat I nf) st (hit e H pv).2) fun r s1 ⟨hr, I1⟩ => ?_
    subst hr
    exact seg_end (.ok .next) (.inl ⟨.inr rfl, ds1, e1, e, H, hh, hx, I1, pv⟩)
  | succ k ih =>
    intro i n s₀ s H e ds1 e1 hk hi hn hnl hh hx hok I hS pv st nf
    have hlt : i < ds0.length := by omega
    obtain ⟨items, _⟩ := hit e H pv
    obtain ⟨go, yl⟩ := items i _ (List.getElem?_eq_getElem hlt)
    rw [List.drop_eq_getElem_cons hlt] at hx hok
    show Seg _ B _ _ n s₀ _ ((compTurn (.GeneratorExp elt [⟨tg, iter, ifs, 0⟩] scope pos) 0 (.ref it) .none Xg.env).onRaise (leaving Xg.env)) [] s
    rw [compTurn_gen, Sem.onRaise_eq_wrap]
    refine seg_bind_wrap (wpAny_standAt ?_)
    refine seg_bind_wrap ?_
    rw [hA]
    refine thnF (T.item Xg rfl rfl rfl hc i _ s _ H (fun _ _ => False) I (stat I nf) st go) fun r s6 ⟨u, hr, h6⟩ => ?_
    subst hr
    refine seg_bind_wrap ?_
    rw [hA]
    refine thnF h6 fun _ s7 ⟨x, H7, I7, r7, y7, st7, n7⟩ => ?_
    have I7' := I7.pinned (stat I7 n7) (T.obj _ _ st7)
    obtain ⟨sm, rx⟩ := yl x H7 y7
    have pv1 := pv.trans (PostE.same pv.rel sm).toV
    -- the denotation's turn
    have unf : gNext vs g mt me (ds0[i] :: ds0.drop (i + 1)) e = match g ds0[i] e with
      | none => .stuck
      | some e1 => (mt e1).bind fun b e2 => if b = true then (me e2).bind fun r e3 => match frz1 r e3 with
          | some (y, e4) => .ok (some (y, ds0.drop (i + 1))) (wipeE e4 vs)
          | none => .stuck
        else gNext vs g mt me (ds0.drop (i + 1)) (wipeE e2 vs) := rfl
    rw [unf] at hx hok
    cases zg : g ds0[i] e with
    | none => rw [zg] at hok; exact hok.elim
    | some e2 =>
      rw [zg] at hx hok
      dsimp only at hx hok
      refine seg_bind_wrap ?_
      rw [hA]
      refine wpAny_mono (hg.run _ s7 _ H7 x u (fun σ2 H2 => PostV (gd Xg) C vs eb σb Hb e2 σ2 H2) I7' r7 ⟨e, ds0[i], e2, pv1.rel, rx, zg, fun σ2 H2 p2 => pv1.trans p2⟩) (fun _ s8 ⟨σ8, H8, I8, pv2⟩ => ?_) fun _ _ h => kx h
      have hw8 : wipe σ8 vs = σb := pv2.wip.trans hw
      -- the turn's end
      have fin : ∀ {s' : Shared} {H' : Hp}, Inv Xg (pinsAt S s₀.heap ++ pinsAt fp s7.heap) σ8 H' s' → Inv Xg (pinsAt S s₀.heap) σb H' s' ∧ tn (i + 1) s'.heap ∧ ∀ b ∈ fp, H' b = none := fun {s' H'} I' => by
        have pin' : ∀ b ∈ fp, ∀ o, s7.heap.get? b = some o → s'.heap.get? b = some o ∧ H' b = none := fun b hb o e =>
          let z := I'.pin (b, o) (List.mem_append_right _ (List.mem_append_right _ (mem_pinsAt hb e)))
          ⟨z.1, z.2.1⟩
        have hl : σb.length = σ8.length := by rw [← hw8, wipe_length]
        refine ⟨(I'.unpinned (pins := pinsAt S s₀.heap)).weak hl (fun j v e => ?_), T.keep _ _ _ st7 fun b hb o e => (pin' b hb o e).1, fun b hb => ?_⟩
        · rw [← hw8] at e
          exact (wipe_some e).1
        · obtain ⟨o, e, _⟩ := T.obj _ _ st7 b hb
          exact (pin' b hb o e).2
      refine seg_bind_wrap ?_
      rw [hA]
      cases zt : mt e2 with
      | stuck => rw [zt] at hok; exact hok.elim
      | exc c e' => rw [zt] at hok; exact hok.elim
      | ok b e3 =>
        rw [zt] at hx hok
        refine wpAny_mono (ht.run _ s8 σ8 H8 (fun b' H3 => b' = b ∧ PostV (gd Xg) C vs eb σb Hb e3 σ8 H3) I8 ⟨e2, pv2.rel, by rw [zt]; exact fun b' H3 p3 eb => ⟨eb, pv2.trans p3.toV⟩⟩) (fun b' s9 ⟨H9, I9, e9, pv3⟩ => ?_) fun _ _ h => kx h
        subst e9
        have hx : gNext vs g mt me ds1 e1 = if b' = true then (me e3).bind fun r e3 => match frz1 r e3 with
            | some (y, e4) => .ok (some (y, ds0.drop (i + 1))) (wipeE e4 vs)
            | none => .stuck
          else gNext vs g mt me (ds0.drop (i + 1)) (wipeE e3 vs) := hx
        have hok : isOk (if b' = true then (me e3).bind fun r e3 => match frz1 r e3 with
            | some (y, e4) => .ok (some (y, ds0.drop (i + 1))) (wipeE e4 vs)
            | none => .stuck
          else gNext vs g mt me (ds0.drop (i + 1)) (wipeE e3 vs)) := hok
        cases b' with
        | false =>
          simp only [Bool.false_eq_true, if_false] at hx hok ⊢
          obtain ⟨J1, J2, J3⟩ := fin I9
          have pw := pv3.again hun hw
          exact seg_again rfl (ih (i + 1) n s₀ _ H9 (wipeE e3 vs) ds1 e1 (by omega) hlt (by omega) hnl hh hx hok J1 hS pw J2 J3)
        | true =>
          simp only [if_true] at hx hok ⊢
          cases zm : me e3 with
          | stuck => rw [zm] at hok; exact hok.elim
          | exc c e' => rw [zm] at hok; exact hok.elim
          | ok r e4 =>
            rw [zm] at hx hok
            have hx : gNext vs g mt me ds1 e1 = (match frz1 r e4 with
              | some (y, e4) => .ok (some (y, ds0.drop (i + 1))) (wipeE e4 vs)
              | none => .stuck) := hx
            have hok : isOk (match frz1 r e4 with
              | some (y, e4) => .ok (some (y, ds0.drop (i + 1))) (wipeE e4 vs)
              | none => (.stuck : R (Option (D × List D)))) := hok
            cases zf : frz1 r e4 with
            | none => rw [zf] at hok; exact hok.elim
            | some ye =>
              obtain ⟨yy, e5⟩ := ye
              rw [zf] at hx hok
              dsimp only at hx hok
              have hy : ∀ v, yieldOut Xg.env v = yieldValue v := fun v => by simp only [yieldOut, hco, Bool.false_eq_true, if_false]
              simp only [hy]
              rw [Sem.bind_eq_wrap', Sem.bind_eq_wrap', Sem.wrap_wrap, Sem.wrap_wrap]
              refine seg_wrap ?_
              rw [hA]
              refine wpAny_mono (he.run _ s9 σ8 H9 (fun v H4 => PostV (gd Xg) C vs eb σb Hb e5 σ8 H4 ∧ Rep (gd Xg) H4 v yy) I9 ⟨e3, pv3.rel, by rw [zm]; dsimp only; rw [zf]; exact fun v H4 p4 rv => ⟨pv3.trans p4.toV, rv⟩⟩) (fun uy s10 ⟨xy, H10, I10, rxy, pv4, rep⟩ => ?_) fun _ _ h => kx h
              obtain ⟨J1, J2, J3⟩ := fin I10
              have pw := pv4.again hun hw
              obtain ⟨m, rfl⟩ : ∃ m, n = m + 1 := ⟨n - 1, by omega⟩
              refine seg_at (seg_yield rfl rfl rfl ⟨ds1, e1, yy, ds0.drop (i + 1), wipeE e5 vs, H10, xy, hnl, hh, hx, J1, pw, rxy, rep, fun s2 hok2 sl => ?_⟩)
              have nS : ∀ b ∈ S, H10 b = none := fun b hb => by
                obtain ⟨ob, eo⟩ := hS b hb
                exact (J1.pin (b, ob) (List.mem_append_right _ (mem_pinsAt hb eo))).2.1
              have hm : ds0.length + 1 - m = ds0.length + 1 - (m + 1) + 1 := by omega
              have hh2 := hist_succ hh hx
              rw [← hm] at hh2
              exact seg_again rfl (ih (i + 1) m s2 _ H10 (wipeE e5 vs) _ _ (by omega) hlt (by omega) (by omega) hh2 rfl hok2
                (J1.slp so nS sl) (fun b hb => let ⟨o, e, _⟩ := sl.there b hb; ⟨o, e⟩) pw (T.keep _ _ _ J2 fun b hb o e => sl.keep b o (fun z => so.ex b z (hfp ▸ hb)) e) J3)
/-- from the beginning -/
theorem seg_gen0 (hB : B.deeper Xg.env = Xg.A) (hxe : Xg.xe = fun _ _ => False) (hc : Xg.calm = true) (T : Turn Xg.prog Xg.w Xg.K tg J fp it tn) (hfp : Xg.ex = fp) (hpn : ∀ p ∈ Xg.pn, p.1 ∉ fp) (so : SOk Xg S) (hco : Xg.env.scope.isCoroutine = false)
    (hit : ∀ e Hx, PostV (gd Xg) C vs eb σb Hb e σb Hx → (∀ (i : Nat) d, ds0[i]? = some d → J.go i Hx ∧ ∀ v H3, J.yld i Hx v H3 → Same Hx H3 ∧ Rep (gd Xg) H3 v d) ∧ J.stop ds0.length Hx)
    (hg : PG Xg tg (tGv C (gd Xg) vs g)) (ht : PTs Xg ifs (tT C (gd Xg) noW mt)) (he : PE Xg elt (tEf C (gd Xg) me)) (hun : ∀ i ∈ vs, eb[i]? = some .un ∨ eb[i]? = none) (hw : wipe σb vs = σb)
    (s₀ s : Shared) (H : Hp) (hok : isOk (gNext vs g mt me ds0 eb)) (I : Inv Xg (pinsAt S s₀.heap) σb H s) (hS : ∀ b ∈ S, ∃ o, s₀.heap.get? b = some o) (pv : PostV (gd Xg) C vs eb σb Hb eb σb H) (st : tn 0 s.heap) (nf : ∀ b ∈ fp, H b = none) :
      Seg (model Xg.prog Xg.w) B (RG Xg S C vs (gNext vs g mt me) ds0 eb σb Hb) (YG Xg S C vs (gNext vs g mt me) ds0 eb σb Hb) (ds0.length + 1) s₀ (.compStart (.GeneratorExp elt [⟨tg, iter, ifs, 0⟩] scope pos) 0 (.ref it) .none Xg.env)
        ((model Xg.prog Xg.w).den (.compStart (.GeneratorExp elt [⟨tg, iter, ifs, 0⟩] scope pos) 0 (.ref it) .none Xg.env)) [] s := by
  have loop := seg_gen (iter := iter) (scope := scope) (pos := pos) hB hxe hc T hfp hpn so hco hit hg ht he hun hw ds0.length 0 (ds0.length + 1) s₀ s H eb ds0 eb (Nat.sub_zero _) (Nat.zero_le _) (by omega) (Nat.le_refl _) (by rw [Nat.sub_self]; rfl) (by rw [List.drop_zero]) (by rw [List.drop_zero]; exact hok) I hS pv st nf
  show Seg _ B _ _ _ s₀ _ ((compStart (.GeneratorExp elt [⟨tg, iter, ifs, 0⟩] scope pos) 0 (.ref it) .none Xg.env).onRaise (leaving Xg.env)) [] s
  unfold compStart
  rw [Sem.onRaise_eq_wrap]
  show Seg _ B _ _ _ s₀ _ ((ask >>= _).wrap _ _ _ _) [] s
  refine seg_bind_wrap (wpAny_askSetting ?_)
  split
  · exact seg_again rfl loop
  · first
      | exact seg_bind_wrap (wpAny_rule (seg_bind_wrap (wpAny_standAt (seg_bind_wrap (T.self _ 0 s _ _ st (seg_again rfl loop))))))
      | (refine seg_bind_wrap (wpAny_rule ?_); show Seg _ B _ _ _ s₀ _ ((standAt iter.pos >>= _).wrap _ _ _ _) [] s; exact seg_bind_wrap (wpAny_standAt (seg_bind_wrap (T.self _ 0 s _ _ st (seg_again rfl loop)))))
end
end PV

set_option Elab.async false
set_option linter.all false
set_option maxRecDepth 100000
set_option maxHeartbeats 4000000
namespace PV
open PySem PySem.Spec PyProof.Rows L2 GenW

theorem PostE.tbl {G : Gd} {C : Cc} {e : En} {σ : L2.St} {H : Hp} {P : Addr} {ps ps' : Array Value} (q : Rel G C e σ H) (hP : H P = some (.tbl ps)) (ht : TriplesOk ps'.toList) : PostE G C e σ H e (upd H P (.tbl ps')) := by
  have at_ : ∀ {a o}, H a = some o → (∀ p, o ≠ .tbl p) → upd H P (.tbl ps') a = some o := fun {a o} h n => by
    rw [upd_ne]
    · exact h
    · rintro rfl
      rw [hP] at h; cases h
      exact n _ rfl
  have kp : Kp H (upd H P (.tbl ps')) := ⟨fun a xs h => at_ h fun p z => (nomatch z), fun a o u h => at_ h fun p z => (nomatch z)⟩
  have ow : ∀ {a d}, Own G H a d → Own G (upd H P (.tbl ps')) a d := fun {a d} o => o.mono kp (by
    obtain ⟨o', e, n, _⟩ := o.obj
    rw [at_ e n, e])
  refine { rel := ?_, keep := fun a o h n _ => at_ h n, there := fun a h => ?_, mutb := fun _ h => .inl h, fixL := fun _ _ _ h => ⟨h, rfl⟩, fixO := fun _ d h => ⟨⟨d, h⟩, rfl⟩, sub := fun _ _ h => h }
  · refine { len := q.len, slot := fun i sl e => ?_, inj := q.inj, tab := fun P' hP' => ?_, new := q.new, old := fun a h => ?_ }
    · have h := q.slot i sl e
      cases sl with
      | un => trivial
      | sh d => obtain ⟨v, e, r⟩ := h; exact ⟨v, e, r.mono kp⟩
      | ow b d => obtain ⟨a, e, r⟩ := h; exact ⟨a, e, ow r⟩
      | lk b d => obtain ⟨a, e, r⟩ := h; exact ⟨a, e, ow r⟩
      | xc c => exact h.elim
    · by_cases z : P' = P
      · subst z; exact ⟨ps', upd_same, ht⟩
      · obtain ⟨p, h1, h2⟩ := q.tab P' hP'
        exact ⟨p, by rw [upd_ne z]; exact h1, h2⟩
    · by_cases z : a = P
      · subst z; rw [upd_same]; simp
      · rw [upd_ne z]; exact q.old a h
  · by_cases z : a = P
    · subst z; rw [upd_same]; simp
    · rw [upd_ne z]; exact h

theorem hist_len {vs : List Nat} {g : TgD} {mt : MT} {me : ME} : ∀ {ds : List D} {e : En} {y : D} {ds' : List D} {e' : En}, gNext vs g mt me ds e = .ok (some (y, ds')) e' → ds'.length < ds.length
  | [], e, y, ds', e', h => by cases h
  | d :: ds, e, y, ds', e', h => by
    unfold gNext at h
    cases zg : g d e with
    | none => rw [zg] at h; cases h
    | some e1 =>
      rw [zg] at h
      dsimp only at h
      cases zt : mt e1 with
      | stuck => rw [zt] at h; cases h
      | exc c e => rw [zt] at h; cases h
      | ok b e2 =>
        rw [zt] at h
        have h : (if b = true then (me e2).bind fun r e3 => match frz1 r e3 with
            | some (y, e4) => (.ok (some (y, ds)) (wipeE e4 vs) : R (Option (D × List D)))
            | none => .stuck
          else gNext vs g mt me ds (wipeE e2 vs)) = .ok (some (y, ds')) e' := h
        by_cases hb : b = true
        case neg =>
          rw [if_neg hb] at h
          exact Nat.lt_succ_of_lt (hist_len h)
        rw [if_pos hb] at h
        cases zm : me e2 with
        | stuck => rw [zm] at h; cases h
        | exc c e => rw [zm] at h; cases h
        | ok r e3 =>
          rw [zm] at h
          have h : (match frz1 r e3 with
            | some (y, e4) => (.ok (some (y, ds)) (wipeE e4 vs) : R (Option (D × List D)))
            | none => .stuck) = .ok (some (y, ds')) e' := h
          cases zf : frz1 r e3 with
          | none => rw [zf] at h; cases h
          | some ye =>
            obtain ⟨yy, e5⟩ := ye
            rw [zf] at h
            cases h
            exact Nat.lt_succ_self _

section
variable {Xg : Cx} {C : Cc} {vs : List Nat} {nx : GNx} {ds0 : List D} {eb : En} {σb : L2.St} {Hb : Hp} {B : Around} {a : Addr} {gn : Nat} {S : List Addr}
/-- a generator expression's generator behind j items -/
def GSt (Xg : Cx) (S : List Addr) (C : Cc) (vs : List Nat) (nx : GNx) (ds0 : List D) (eb : En) (σb : L2.St) (Hb : Hp) (B : Around) (gn : Nat) (j : Nat) (ds : List D) (e : En) (s : Shared) : Prop :=
  hist nx ds0 eb j = some (ds, e) ∧ ds.length + j ≤ ds0.length ∧ ∃ H, Inv Xg (pinsAt S s.heap) σb H s ∧ PostV (gd Xg) C vs eb σb Hb e σb H ∧ (∀ b ∈ S, H b = none ∧ ∃ o, s.heap.get? b = some o ∧ ∀ v, o.data ≠ .cell v) ∧
    (isOk (nx ds e) → ∃ gs, s.gens[gn]? = some gs ∧ ∀ s2, Slp S s s2 → gs.Goes (model Xg.prog Xg.w) B (RG Xg S C vs nx ds0 eb σb Hb) (YG Xg S C vs nx ds0 eb σb Hb) (ds0.length + 1 - j) (.send .none) s2)
/-- the generator's object is pinned -/
def GPin (Xg : Cx) (a : Addr) (gn : Nat) : Prop := ∃ (o : Obj) (nm qn : Value), (a, o) ∈ Xg.pn ∧ o.cls = .type "generator" ∧ o.data = .fields #[.int gn 0, nm, qn] ∧ o.slots = #[]
theorem GPin.isGen {σ : L2.St} {H : Hp} {s : Shared} {pins : List (Addr × Obj)} (p : GPin Xg a gn) (I : Inv Xg pins σ H s) : s.heap.IsGen a gn := by
  obtain ⟨o, nm, qn, h1, h2, h3, h4⟩ := p
  exact ⟨o, nm, qn, (I.pin (a, o) (List.mem_append_left _ h1)).1, h2, h3, h4⟩
theorem slp_refl {s s2 : Shared} (h1 : s2.os = s.os) (h2 : AllBare s2.gens) (h3 : s2.heap = s.heap) (hS : ∀ b ∈ S, ∃ o, s.heap.get? b = some o ∧ ∀ v, o.data ≠ .cell v) : Slp S s s2 := ⟨h1, h2, fun b o _ e => by rw [h3]; exact e, fun b hb => by rw [h3]; exact hS b hb⟩
theorem Slp.trans {s1 s2 s3 : Shared} (a : Slp S s1 s2) (b : Slp S s2 s3) : Slp S s1 s3 := ⟨b.os.trans a.os, b.bare, fun c o hc e => b.keep c o hc (a.keep c o hc e), b.there⟩
theorem GSt.slp {j : Nat} {ds : List D} {e : En} {s s2 : Shared} (st : GSt Xg S C vs nx ds0 eb σb Hb B gn j ds e s) (so : SOk Xg S) (sl : Slp S s s2) (hg : s2.gens = s.gens) : GSt Xg S C vs nx ds0 eb σb Hb B gn j ds e s2 := by
  obtain ⟨h1, h2, H, I, pv, hS, go⟩ := st
  refine ⟨h1, h2, H, I.slp so (fun b hb => (hS b hb).1) sl, pv, fun b hb => ⟨(hS b hb).1, sl.there b hb⟩, fun hok => ?_⟩
  obtain ⟨gs, hgs, go⟩ := go hok
  exact ⟨gs, by rw [hg]; exact hgs, fun s3 sl3 => go s3 (sl.trans sl3)⟩
theorem gen_next {A : Around} {Q : Option Value → Shared → Prop} {E : Value → Shared → Prop} {j : Nat} {ds : List D} {e : En} {s : Shared} (hl : ∀ {ds : List D} {e : En} {y : D} {ds' : List D} {e' : En}, nx ds e = .ok (some (y, ds')) e' → ds'.length < ds.length)
    (hB : B = A.in1) (hh : A.handled = none) (hroom : A.depth < recursionLimit) (gp : GPin Xg a gn) (so : SOk Xg S) (st : GSt Xg S C vs nx ds0 eb σb Hb B gn j ds e s) (hok : isOk (nx ds e))
    (hY : ∀ y ds' e' v s', nx ds e = .ok (some (y, ds')) e' → GSt Xg S C vs nx ds0 eb σb Hb B gn (j + 1) ds' e' s' → (∃ x H, RelV x v ∧ Rep (gd Xg) H x y) → (∀ b ∈ S, ∀ o, s.heap.get? b = some o → s'.heap.get? b = some o) → Q (some v) s')
    (hN : ∀ e' H1 s', nx ds e = .ok none e' → Inv Xg [] σb H1 s' → PostV (gd Xg) C vs eb σb Hb e' σb H1 → (∀ b ∈ S, ∀ o, s.heap.get? b = some o → s'.heap.get? b = some o) → Q none s') : wpAny (model Xg.prog Xg.w) A (pyNext (.ref a)) Q E s := by
  obtain ⟨hh0, hlen, H, I, pv, hS, go⟩ := st
  obtain ⟨gs, hgs, go⟩ := go hok
  have lt : gn < s.gens.size := (Array.getElem?_eq_some_iff.mp hgs).1
  have hgo := go (s.setGen gn .running) (slp_refl rfl (allBare_setGen I.bare rfl) rfl fun b hb => (hS b hb).2)
  subst hB
  refine wpAny_gsz (n := gn + 1) lt ?_
  refine next_genG (P := Xg.prog) (w := Xg.w) hh I.nolimit hroom (gp.isGen I) hgs hgo (fun v s₁ gs' hb hv => ?_) (fun s₁ hp h' hk => ?_) (fun e s₁ h => h.elim)
  · intro hsz
    obtain ⟨dsY, eY, y, ds', e', H1, x, h1, h2, h3, I1, pv1, rx, rep, kap⟩ := hv
    have ej : ds0.length + 1 - (ds0.length + 1 - j - 1 + 1) = j := by omega
    rw [ej, hh0] at h2
    cases h2
    have l2 := hl h3
    have hpin : ∀ b ∈ S, ∀ o, s.heap.get? b = some o → s₁.heap.get? b = some o ∧ H1 b = none := fun b hb o eo =>
      let z := I1.pin (b, o) (List.mem_append_right _ (mem_pinsAt hb eo))
      ⟨z.1, z.2.1⟩
    have nS : ∀ b ∈ S, H1 b = none ∧ ∃ o, s₁.heap.get? b = some o ∧ ∀ v, o.data ≠ .cell v := fun b hb => by
      obtain ⟨_, o, eo, no⟩ := hS b hb
      exact ⟨(hpin b hb o eo).2, o, (hpin b hb o eo).1, no⟩
    refine hY y ds' e' v _ h3 ⟨hist_succ hh0 h3, by omega, H1, I1.slp so (fun b hb => (nS b hb).1) (slp_refl rfl (allBare_setGen I1.bare hb) rfl fun b hb => (nS b hb).2), pv1, nS, fun hok2 => ?_⟩ ⟨x, H1, rx, rep⟩ fun b hb o eo => (hpin b hb o eo).1
    have hsz1 : gn < s₁.gens.size := by
      have q : (s₁.setGen gn gs').gens.size = s₁.gens.size := setGen_size _ _ _
      omega
    refine ⟨gs', setGen_at hsz1, fun s2 sl => ?_⟩
    obtain ⟨m, hm⟩ : ∃ m, ds0.length + 1 - j = m + 1 := ⟨ds0.length - j, by omega⟩
    have hk := kap s2 hok2 ⟨sl.os, sl.bare, sl.keep, sl.there⟩
    rw [hm] at hk
    have : ds0.length + 1 - (j + 1) = m := by omega
    rw [this]
    exact hk
  · intro hsz
    obtain ⟨dsY, eY, e', H1, h2, h3, I1, pv1⟩ := hp
    have ej : ds0.length + 1 - (ds0.length + 1 - j) = j := by omega
    rw [ej, hh0] at h2
    cases h2
    have I0 : Inv Xg [] σb H1 s₁ := Inv.unpinned (pins := []) (pl := pinsAt S s.heap) I1
    exact hN e' H1 _ h3 (I0.call' (ch := []) rfl (Un.kept hk) (I0.hok.kept hk) (allBare_setGen I0.bare rfl) fun b z => by simp at z) pv1 fun b hb o eo => hk b o (I1.pin (b, o) (List.mem_append_right _ (mem_pinsAt hb eo))).1

/-- all (b), any (not b) -/
def allG (vs : List Nat) (g : TgD) (mt : MT) (me : ME) (t : Bool) : List D → En → R Bool
  | [] => fun e => .ok t e
  | d :: ds => fun e => match g d e with
    | none => .stuck
    | some e1 => (mt e1).bind fun b e2 => if b = true then (me e2).bind fun r e3 => match frz1 r e3 with
        | some (.bool y, e4) => if y = t then allG vs g mt me t ds (wipeE e4 vs) else .ok (!t) (wipeE e4 vs)
        | _ => .stuck
      else allG vs g mt me t ds (wipeE e2 vs)
theorem allG_cons {g : TgD} {mt : MT} {me : ME} {t : Bool} {d : D} {ds : List D} {e : En} : allG vs g mt me t (d :: ds) e = match g d e with
    | none => .stuck
    | some e1 => (mt e1).bind fun b e2 => if b = true then (me e2).bind fun r e3 => match frz1 r e3 with
        | some (.bool y, e4) => if y = t then allG vs g mt me t ds (wipeE e4 vs) else .ok (!t) (wipeE e4 vs)
        | _ => .stuck
      else allG vs g mt me t ds (wipeE e2 vs) := rfl
theorem gNext_cons {g : TgD} {mt : MT} {me : ME} {d : D} {ds : List D} {e : En} : gNext vs g mt me (d :: ds) e = match g d e with
    | none => .stuck
    | some e1 => (mt e1).bind fun b e2 => if b = true then (me e2).bind fun r e3 => match frz1 r e3 with
        | some (y, e4) => .ok (some (y, ds)) (wipeE e4 vs)
        | none => .stuck
      else gNext vs g mt me ds (wipeE e2 vs) := rfl
theorem allG_next {g : TgD} {mt : MT} {me : ME} {t : Bool} : ∀ {ds : List D} {e : En}, isOk (allG vs g mt me t ds e) → isOk (gNext vs g mt me ds e) ∧ allG vs g mt me t ds e = match gNext vs g mt me ds e with
    | .ok (some (.bool y, ds')) e' => if y = t then allG vs g mt me t ds' e' else .ok (!t) e'
    | .ok none e' => .ok t e'
    | _ => .stuck
  | [], e, h => ⟨trivial, rfl⟩
  | d :: ds, e, h => by
    rw [allG_cons] at h
    rw [allG_cons, gNext_cons]
    cases zg : g d e with
    | none => rw [zg] at h; exact h.elim
    | some e1 =>
      rw [zg] at h
      dsimp only at h ⊢
      cases zt : mt e1 with
      | stuck => rw [zt] at h; exact h.elim
      | exc c e => rw [zt] at h; exact h.elim
      | ok b e2 =>
        rw [zt] at h
        simp only [R.bind] at h ⊢
        by_cases hb : b = true
        case neg =>
          rw [if_neg hb] at h
          rw [if_neg hb, if_neg hb]
          exact allG_next h
        rw [if_pos hb] at h
        rw [if_pos hb, if_pos hb]
        cases zm : me e2 with
        | stuck => rw [zm] at h; exact h.elim
        | exc c e => rw [zm] at h; exact h.elim
        | ok r e3 =>
          rw [zm] at h
          dsimp only at h ⊢
          cases zf : frz1 r e3 with
          | none => rw [zf] at h; exact h.elim
          | some ye =>
            obtain ⟨yy, e5⟩ := ye
            rw [zf] at h
            cases yy with
            | bool y => exact ⟨trivial, rfl⟩
            | _ => exact h.elim
theorem allG_end {g : TgD} {mt : MT} {me : ME} {t : Bool} {ds : List D} {e e' : En} (h : isOk (allG vs g mt me t ds e)) (h2 : gNext vs g mt me ds e = .ok none e') : allG vs g mt me t ds e = .ok t e' := by
  rw [(allG_next h).2, h2]
theorem allG_step {g : TgD} {mt : MT} {me : ME} {t : Bool} {ds ds' : List D} {e e' : En} {y : D} (h : isOk (allG vs g mt me t ds e)) (h2 : gNext vs g mt me ds e = .ok (some (y, ds')) e') : ∃ b, y = .bool b ∧ allG vs g mt me t ds e = if b = t then allG vs g mt me t ds' e' else .ok (!t) e' := by
  have q := (allG_next h).2
  rw [h2] at q
  cases y with
  | bool b => exact ⟨b, rfl, q⟩
  | _ => rw [q] at h; exact h.elim

theorem all_loop {A : Around} {R : Result → Shared → Prop} {g : TgD} {mt : MT} {me : ME} (hB : B = A.in1.in1) (hh : A.handled = none) (hroom : A.depth < recursionLimit) (gp : GPin Xg a gn) (so : SOk Xg S) :
    ∀ (k j : Nat) (ds : List D) (e : En) (s : Shared), ds.length = k → GSt Xg S C vs (gNext vs g mt me) ds0 eb σb Hb B gn j ds e s → isOk (allG vs g mt me true ds e) →
      (∀ b e' H1 s', allG vs g mt me true ds e = .ok b e' → Inv Xg [] σb H1 s' → PostV (gd Xg) C vs eb σb Hb e' σb H1 → R (.ok (.ret (.bool b))) s') → codeAny (model Xg.prog Xg.w) A (.builtin "all.loop" ⟨[.ref a], []⟩) R s := by
  intro k
  induction k using Nat.strongRecOn with
  | ind k ih =>
    intro j ds e s hk st hok hR
    refine codeAny_builtin F.entry_all_loop ?_
    rw [Around.under_plainId F.plain_all_loop _]
    show wpAny _ A.in1 (pyNext (.ref a) >>= _) _ _ s
    refine wpAny_bind (gen_next (A := A.in1) hist_len hB hh hroom gp so st (allG_next hok).1 (fun y ds' e' v s' hnx st' hv _ => ?_) fun e' H1 s' hnx I1 pv1 _ => ?_)
    · obtain ⟨b, rfl, hq⟩ := allG_step hok hnx
      obtain ⟨x, H, rx, rep⟩ := hv
      cases rep
      obtain rfl : v = .bool b := rx
      refine wpAny_bind (wpAny_holding (wpAny_truthy_bool ?_))
      refine wpAny_bind (wpAny_letGo ?_)
      cases b with
      | true =>
        simp only [if_true] at hq ⊢
        refine wpAny_pure ⟨plainId_quiet F.plain_all_loop _, ih ds'.length (by rw [← hk]; exact hist_len hnx) (j + 1) ds' e' _ rfl st' (by rw [← hq]; exact hok) fun b e2 H1 s2 h1 h2 h3 => hR b e2 H1 s2 (by rw [hq]; exact h1) h2 h3⟩
      | false =>
        simp only [Bool.false_eq_true, if_false] at hq ⊢
        refine wpAny_bind (wpAny_rule (wpAny_pure ?_))
        obtain ⟨_, _, H1, I1, pv1, _⟩ := st'
        exact hR false e' H1 _ hq (Inv.unpinned (pins := []) (pl := pinsAt S s'.heap) I1) pv1
    · refine wpAny_bind (wpAny_rule (wpAny_pure ?_))
      exact hR true e' H1 _ (allG_end hok hnx) I1 pv1
theorem any_loop {A : Around} {R : Result → Shared → Prop} {g : TgD} {mt : MT} {me : ME} (hB : B = A.in1.in1) (hh : A.handled = none) (hroom : A.depth < recursionLimit) (gp : GPin Xg a gn) (so : SOk Xg S) :
    ∀ (k j : Nat) (ds : List D) (e : En) (s : Shared), ds.length = k → GSt Xg S C vs (gNext vs g mt me) ds0 eb σb Hb B gn j ds e s → isOk (allG vs g mt me false ds e) →
      (∀ b e' H1 s', allG vs g mt me false ds e = .ok b e' → Inv Xg [] σb H1 s' → PostV (gd Xg) C vs eb σb Hb e' σb H1 → R (.ok (.ret (.bool b))) s') → codeAny (model Xg.prog Xg.w) A (.builtin "any.loop" ⟨[.ref a], []⟩) R s := by
  intro k
  induction k using Nat.strongRecOn with
  | ind k ih =>
    intro j ds e s hk st hok hR
    refine codeAny_builtin F.entry_any_loop ?_
    rw [Around.under_plainId F.plain_any_loop _]
    show wpAny _ A.in1 (pyNext (.ref a) >>= _) _ _ s
    refine wpAny_bind (gen_next (A := A.in1) hist_len hB hh hroom gp so st (allG_next hok).1 (fun y ds' e' v s' hnx st' hv _ => ?_) fun e' H1 s' hnx I1 pv1 _ => ?_)
    · obtain ⟨b, rfl, hq⟩ := allG_step hok hnx
      obtain ⟨x, H, rx, rep⟩ := hv
      cases rep
      obtain rfl : v = .bool b := rx
      refine wpAny_bind (wpAny_holding (wpAny_truthy_bool ?_))
      refine wpAny_bind (wpAny_letGo ?_)
      cases b with
      | false =>
        simp only [Bool.false_eq_true, if_false, if_true] at hq ⊢
        refine wpAny_pure ⟨plainId_quiet F.plain_any_loop _, ih ds'.length (by rw [← hk]; exact hist_len hnx) (j + 1) ds' e' _ rfl st' (by rw [← hq]; exact hok) fun b e2 H1 s2 h1 h2 h3 => hR b e2 H1 s2 (by rw [hq]; exact h1) h2 h3⟩
      | true =>
        simp only [Bool.true_eq_false, if_false, if_true] at hq ⊢
        refine wpAny_bind (wpAny_rule (wpAny_pure ?_))
        obtain ⟨_, _, H1, I1, pv1, _⟩ := st'
        exact hR true e' H1 _ hq (Inv.unpinned (pins := []) (pl := pinsAt S s'.heap) I1) pv1
    · refine wpAny_bind (wpAny_rule (wpAny_pure ?_))
      exact hR false e' H1 _ (allG_end hok hnx) I1 pv1
end
end PV

set_option Elab.async false
set_option linter.all false
set_option maxRecDepth 100000
set_option maxHeartbeats 4000000
namespace PV
open PySem PySem.Spec PyProof.Rows L2 GenW

theorem room_gen {k : Nat} {A : Around} (r : Room (k + 1) A) (env : Env) : Room k (A.in1.in1.deeper env) :=
  ⟨r.hd, by have := r.dp; show A.depth + 1 + 3 * k + 5 < _; omega, by have := r.un; show A.units + 1 + 1 + 3 + 16 * k + 200 < _; omega⟩
def bkE (o : Option Nat) (e1 : En) (vs : List Nat) (e2 : En) : En := unlE o e1 (backE (lockE o e1) e2 vs)
/-- the def's own code object, its table -/
structure TabC (X : Cx) (C : Cc) (c P : Addr) : Prop where
  tb : GxR.TabB X.base X.mg c P
  code : X.env.code = .ref c
  mem : P ∈ C.T
section
variable {X : Cx} {C : Cc} {W : WX} {elt tg iter : Expr} {ifs : List Expr} {scope : Scope} {own : List (Str × Nat)} {gpos : Pos} {mi : MI} {g : TgD} {mt : MT} {me : ME} {vs : List Nat} {k : Nat} {c P : Addr}
abbrev _root_.L2.Cx.genB (X : Cx) (B : Around) (s : Shared) (H : Hp) (scope : Scope) (cl : List (Str × Addr)) (c : Addr) (code : Value) (fp : List Addr) (pn : List (Addr × Obj)) : Cx :=
  X.gen (B.deeper (genEnv scope cl c code builtinsNs X.env)) s H (genEnv scope cl c code builtinsNs X.env) fp pn
theorem gen_eval {pins : List (Addr × Obj)} {σ : L2.St} {H : Hp} {s : Shared} {env e1 : En} {ds : List D} {o : Option Nat} {Q' : Value → Shared → Prop} (B : Around) (hB : B.handled = none) (hBf : B.frames = X.A.frames)
    (hr : Room (k + 1) X.A) (hrB : ∀ env, Room k (B.deeper env)) (hc : X.calm = true) (hN : X.N.Nodup) (TC : TabC X C c P) (hi : PI X tg iter (tI C (gd X) W mi)) (ok : GenOk X.N X.env.scope scope own) (hvs : own.map (·.2) = vs)
    (hg : ∀ (A : Around) (s : Shared) (H : Hp) (c : Addr) (cl : List (Str × Addr)) (code : Value) (fp : List Addr) (pn : List (Addr × Obj)), Room k A → PG (X.gen A s H (genEnv scope cl c code builtinsNs X.env) fp pn) tg (tGv C (gd X) vs g))
    (ht : ∀ (A : Around) (s : Shared) (H : Hp) (c : Addr) (cl : List (Str × Addr)) (code : Value) (fp : List Addr) (pn : List (Addr × Obj)), Room k A → PTs (X.gen A s H (genEnv scope cl c code builtinsNs X.env) fp pn) ifs (tT C (gd X) noW mt))
    (he : ∀ (A : Around) (s : Shared) (H : Hp) (c : Addr) (cl : List (Str × Addr)) (code : Value) (fp : List Addr) (pn : List (Addr × Obj)), Room k A → PE (X.gen A s H (genEnv scope cl c code builtinsNs X.env) fp pn) elt (tE C (gd X) noW me))
    (hs : ∀ x, genFold iter X.env x = pure x) (I : Inv X pins σ H s) (q : Rel (gd X) C env σ H) (hm : mi env = .ok (ds, o) e1) (hok : okV vs (lockE o e1) = true)
    (hQ : ∀ a gn s5 s4 H4 cc cl code fp pn, GPin (X.genB B s4 H4 scope cl cc code fp pn) a gn → s5.heap.IsGen a gn → Inv (X.genB B s4 H4 scope cl cc code fp pn) [] (wipe σ vs) H4 s5 →
      (∀ S s6, (∀ b ∈ S, s5.heap.objs.size ≤ b) → Slp [] s5 s6 → s6.gens = s5.gens → (∀ b ∈ S, ∃ o, s6.heap.get? b = some o ∧ ∀ v, o.data ≠ .cell v) → SOk (X.genB B s4 H4 scope cl cc code fp pn) S ∧ GSt (X.genB B s4 H4 scope cl cc code fp pn) S C vs (gNext vs g mt me) ds (wipeE (lockE o e1) vs) (wipe σ vs) H4 B gn 0 ds (wipeE (lockE o e1) vs) s6) →
      (∀ s' H' e', Inv (X.genB B s4 H4 scope cl cc code fp pn) [] (wipe σ vs) H' s' → PostV (gd X) C vs (wipeE (lockE o e1) vs) (wipe σ vs) H4 e' (wipe σ vs) H' → Inv X pins σ H' s' ∧ PostE (gd X) C env σ H (bkE o e1 vs e') H') → Q' (.ref a) s5) :
    wpAny (model X.prog X.w) X.A (eval (.GeneratorExp elt [⟨tg, iter, ifs, 0⟩] scope gpos) X.env) Q' X.xe s := by
  have hfree : ∀ y ∈ scope.names, y.2 = .free → ∃ c, X.env.cells.lookup y.1 = some c := fun y hy e => by
    rcases ok.free y hy e with k | k
    · exact I.ok.has _ (.inl k)
    · exact I.ok.has _ (.inr k)
  refine wpAny_GeneratorExp_make ok.co (closure_ok hfree) ok.cell ok.dot ok.kind (by have := hr.dp; omega) ?_ hs
  refine thn (hi.run pins s σ H (fun J H1 => PostE (gd X) C env σ H e1 H1 ∧ ItOk (gd X) J (lockE o e1) σ H1 ds) I ⟨env, q, by rw [hm]; exact fun J H1 p it => ⟨p, it⟩⟩) fun xv s1 hx => thn hx fun itv s2 h2 => ?_
  obtain ⟨it, fp, tn, J, H2, e, I2, T, st2, f2, p1, iok⟩ := h2
  subst e
  obtain ⟨ps, hP, ht0⟩ := p1.rel.tab P TC.mem
  have hPs : s2.heap.get? P = some { cls := .none, data := .fields ps } := I2.hok P _ hP
  have cd : PySem.W.CodeHd s2.heap c P := TC.tb.code.keeps fun b u e => I2.bk b u e
  have cont : ∀ (code : Value) (h3 : Heap) (tk : Nat) (ps' : Array Value), (∀ b u, b ≠ P → s2.heap.get? b = some u → h3.get? b = some u) → s2.heap.objs.size ≤ h3.objs.size → h3.get? P = some { cls := .none, data := .fields ps' } → (∃ more, ps' = ps ++ more) → TriplesOk ps'.toList →
      wpAny (model X.prog X.w) X.A (builtinsFor X.env.globals X.env.builtins) (fun bi s₄ => ∀ h', h'.Ns s₄.heap.objs.size (fun y => if y = ".0" then some (.ref it) else none) → Heap.SameBut s₄.heap.objs.size (s₄.heap.push { cls := .type "frame", data := .dict #[] }) h' →
          Q' (.ref h'.objs.size) { s₄ with
            gens := s₄.gens.push (.fresh (.compStart (.GeneratorExp elt [⟨tg, iter, ifs, 0⟩] scope gpos) 0 (.ref it) .none (genEnv scope (cloFrom X.env.cells scope.names []) s₄.heap.objs.size code bi X.env))),
            toks := s₄.toks + 1 + 1 + 1,
            heap := h'.push { cls := .type "generator", data := .fields #[.int s₄.gens.size 0, .str "<genexpr>" (s₄.toks + 1), .str (X.env.qual ++ "<genexpr>") (s₄.toks + 1 + 1)] } }) X.xe { s2 with heap := h3, toks := tk } := by
    rintro code h3 tk ps' keep3 hsz hP3 ⟨more, rfl⟩ ht3
    have I4 : Inv X pins σ (upd H2 P (.tbl (ps ++ more))) { s2 with heap := h3, toks := tk } := GxR.inv_tab (more := more) (g' := s2.gens) (d' := s2.drawn) I2 hP keep3 hP3 I2.bare
    obtain ⟨bm, ob, a1, a2, a3, a4, a5, a6, a7, a8⟩ := TC.tb.bm
    refine wpAny_builtinsFor (m := X.mg) (by rw [I4.ok.glob]; exact I4.mod.glob.keeps I4.bk) a1 a2 (I4.bk _ _ a5) a6 a7 a8 ?_
    generalize hs4 : ({ s2 with heap := h3, toks := tk } : Shared) = s4 at I4
    have e4 : s4.heap = h3 := by rw [← hs4]
    have g4 : s4.gens = s2.gens := by rw [← hs4]
    intro h' hn' hs'
    have hsz' : h'.objs.size = s4.heap.objs.size + 1 := by rw [hs'.1, Heap.size_push]
    have pL : PostE (gd X) C (lockE o e1) σ H2 (lockE o e1) (upd H2 P (.tbl (ps ++ more))) := PostE.tbl (p1.rel.lockE o) hP ht3
    generalize hH4 : upd H2 P (.tbl (ps ++ more)) = H4 at I4 pL
    have nfp : ∀ b ∈ fp, b ≠ P := fun b hb z => by
      have := (f2 b hb).1
      rw [z, hP] at this; cases this
    have f4 : ∀ b ∈ fp, FpOk X pins H4 b ∧ b < s4.heap.objs.size := fun b hb => by
      obtain ⟨o', ho', _⟩ := T.obj _ _ st2 b hb
      refine ⟨⟨by rw [← hH4, upd_ne (nfp b hb)]; exact (f2 b hb).1, (f2 b hb).2⟩, ?_⟩
      rw [e4]
      exact Nat.lt_of_lt_of_le (Heap.lt_size ho') hsz
    have kp5 : ∀ (go : Obj) b ob, s4.heap.get? b = some ob → (h'.push go).get? b = some ob := fun go b ob h =>
      Heap.get?_push_of_some _ (hs'.extBut b ob (Nat.ne_of_lt (Heap.lt_size h)) (Heap.get?_push_of_some _ h))
    generalize hgo : ({ cls := .type "generator", data := .fields #[.int s4.gens.size 0, .str "<genexpr>" (s4.toks + 1), .str (X.env.qual ++ "<genexpr>") (s4.toks + 1 + 1)] } : Obj) = go
    have hgat : (h'.push go).get? h'.objs.size = some go := by rw [← hgo]; exact Heap.get?_push_size _ rfl
    generalize hs5 : ({ s4 with gens := s4.gens.push (.fresh (.compStart (.GeneratorExp elt [⟨tg, iter, ifs, 0⟩] scope gpos) 0 (.ref it) .none (genEnv scope (cloFrom X.env.cells scope.names []) s4.heap.objs.size code builtinsNs X.env))), toks := s4.toks + 1 + 1 + 1, heap := h'.push go } : Shared) = s5
    have os5 : s5.os = s4.os := by rw [← hs5]
    have h5 : s5.heap = h'.push go := by rw [← hs5]
    have g5 : s5.gens = s4.gens.push (.fresh (.compStart (.GeneratorExp elt [⟨tg, iter, ifs, 0⟩] scope gpos) 0 (.ref it) .none (genEnv scope (cloFrom X.env.cells scope.names []) s4.heap.objs.size code builtinsNs X.env))) := by rw [← hs5]
    have b5 : AllBare s5.gens := by rw [g5]; exact AllBare.push I4.bare rfl
    have I5 := gen_start (B := B) (pn := [(h'.objs.size, go)]) (code := code) (bi := builtinsNs) (s2 := s5) (fp := fp) I4 ok hN f4 hB (hBf.trans I4.ok.frames) rfl os5 b5 (fun b ob h => by rw [h5]; exact kp5 go b ob h) (by rw [h5]; exact hn'.push _)
      (fun p hp => by
        rw [List.mem_singleton.mp hp]
        refine ⟨by rw [h5]; exact hgat, ?_, fun v z => by rw [← hgo] at z; cases z⟩
        show s4.heap.objs.size < h'.objs.size
        rw [hsz']; exact Nat.lt_succ_self _)
    rw [hvs] at I5
    have qw : Rel (gd X) C (wipeE (lockE o e1) vs) (wipe σ vs) H4 := pL.rel.wipe
    have gp : GPin (X.genB B s4 H4 scope (cloFrom X.env.cells scope.names []) s4.heap.objs.size code fp [(h'.objs.size, go)]) h'.objs.size s4.gens.size :=
      ⟨go, .str "<genexpr>" (s4.toks + 1), .str (X.env.qual ++ "<genexpr>") (s4.toks + 1 + 1), List.mem_singleton.mpr rfl, by rw [← hgo], by rw [← hgo], by rw [← hgo]⟩
    refine hQ h'.objs.size s4.gens.size s5 s4 H4 s4.heap.objs.size (cloFrom X.env.cells scope.names []) code fp [(h'.objs.size, go)] gp (gp.isGen I5) I5 (fun S s6 hSy sl6 hg6 hS6 => ?_) fun s' H' e' I' pv => ⟨?_, unl_ok p1 o (pL.trans (pv.back pL.rel hok))⟩
    · have szle : s4.heap.objs.size < s5.heap.objs.size := by rw [h5, Heap.size_push]; omega
      have so : SOk (X.genB B s4 H4 scope (cloFrom X.env.cells scope.names []) s4.heap.objs.size code fp [(h'.objs.size, go)]) S := by
        refine ⟨fun b hb => Nat.le_trans (Nat.le_of_lt szle) (hSy b hb), fun b hb => ?_, fun b hb => I5.nofs (hSy b hb), fun b hb x c e z => ?_, fun b hb p hp z => ?_, fun b hb hf => ?_⟩
        · exact Nat.ne_of_gt (Nat.lt_of_lt_of_le I5.lt (hSy b hb))
        · obtain ⟨v, q⟩ := I5.cell x c e
          exact absurd (Nat.lt_of_lt_of_le q.lt (z ▸ hSy b hb)) (Nat.lt_irrefl _)
        · have h1 := Heap.lt_size (I5.pin p (List.mem_append_left _ hp)).1
          exact absurd (Nat.lt_of_lt_of_le h1 (z ▸ hSy b hb)) (Nat.lt_irrefl _)
        · exact absurd (Nat.lt_of_lt_of_le (Nat.lt_trans (f4 b hf).2 szle) (hSy b hb)) (Nat.lt_irrefl _)
      have nS : ∀ b ∈ S, H4 b = none := fun b hb => I5.hok.fresh (hSy b hb)
      have slS : Slp S s5 s6 := ⟨sl6.os, sl6.bare, fun b o _ e => sl6.keep b o (by simp) e, hS6⟩
      refine ⟨so, rfl, Nat.le_refl _, H4, I5.slp so nS slS, .refl qw, fun b hb => ⟨nS b hb, hS6 b hb⟩, fun hn => ⟨_, by rw [hg6, g5]; exact Array.getElem?_push_size .., fun s7 sl => ?_⟩⟩
      have sl7 := slS.trans sl
      refine ⟨rfl, ?_⟩
      have hpnfp : ∀ p ∈ [(h'.objs.size, go)], p.1 ∉ fp := fun p hp hb => by
        rw [List.mem_singleton.mp hp] at hb
        have := (f4 _ hb).2
        have this : (h'.objs.size : Nat) < s4.heap.objs.size := this
        omega
      exact seg_gen0 (Xg := X.genB B s4 H4 scope (cloFrom X.env.cells scope.names []) s4.heap.objs.size code fp [(h'.objs.size, go)]) (B := B) rfl rfl hc T rfl hpnfp so ok.co
        (fun e Hx pv => iok Hx fun a ob ha hnt hm => pv.keep a ob (by
          rw [← hH4, upd_ne]
          · exact ha
          · rintro rfl
            rw [hP] at ha; cases ha
            exact hnt _ rfl) hnt fun mm => hm (mut_wipe mm))
        (hg _ _ _ _ _ _ _ _ (hrB _)) (ht _ _ _ _ _ _ _ _ (hrB _)) (e_frz (he _ _ _ _ _ _ _ _ (hrB _))) (wipeE_un hok) wipe_wipe s7 s7 H4 hn
        (I5.slp so nS sl7) (fun b hb => let ⟨o, e, _⟩ := sl.there b hb; ⟨o, e⟩) (.refl qw)
        (T.keep _ _ _ st2 fun b hb ob h => sl7.keep b ob (fun hS => so.ex b hS hb) (by rw [h5]; exact kp5 go b ob (by rw [e4]; exact keep3 b ob (nfp b hb) h))) fun b hb => (f4 b hb).1.1
    · exact I4.call' (ch := fp) I'.os I'.base I'.hok I'.bare fun b hb => ⟨(f4 b hb).1.2.2.2.1, (f4 b hb).1.2.1, (f4 b hb).1.2.2.2.2.1, (f4 b hb).1.2.2.2.2.2⟩
  refine ⟨I2.nolimit, ?_⟩
  cases hf : codeAmong gpos ps.toList with
  | none =>
    refine wpAny_genexprCodeX TC.code (cd.code hPs ht0) (cd.tab hPs) hf fun c' h' tk hx hge hlt hco' _ htab' _ => ?_
    obtain ⟨o1, vs, f1, tf, fl, tg, inF, tx, tt, op, _, _, _, _, _, _, _, _, _, htr, _⟩ := hco'
    exact cont _ h' tk _ (fun b u hb e => hx b u hb e) (Nat.le_trans hge (Nat.le_of_lt hlt)) htab'.2 ⟨_, rfl⟩ htr
  | some cv =>
    refine wpAny_genexprCode_hit TC.code (cd.code hPs ht0) hf ?_
    exact cont cv s2.heap s2.toks ps (fun b u _ e => e) (Nat.le_refl _) hPs ⟨#[], by simp⟩ ht0
def mAllG (t : Bool) (vs : List Nat) (mi : MI) (g : TgD) (mt : MT) (me : ME) : ME := fun env => (mi env).bind fun r e1 => if okV vs (lockE r.2 e1) = true then match allG vs g mt me t r.1 (wipeE (lockE r.2 e1) vs) with
    | .ok b e2 => .ok (.d (.bool b)) (bkE r.2 e1 vs e2)
    | _ => .stuck
  else .stuck
theorem all_cases {t : Bool} {σ : L2.St} {H : Hp} {Q : VK} {env : En} (h : tK C (gd X) W (ValRel (gd X)) env σ H (mAllG t vs mi g mt me env) Q) :
    (∃ c e, mi env = .exc c e ∧ ∀ H', PostE (gd X) C env σ H e H' → W (.ref (C.cl c)) none σ H') ∨
    ∃ ds o e1 b e2, mi env = .ok (ds, o) e1 ∧ okV vs (lockE o e1) = true ∧ allG vs g mt me t ds (wipeE (lockE o e1) vs) = .ok b e2 ∧ ∀ H', PostE (gd X) C env σ H (bkE o e1 vs e2) H' → Q (.bl b) H' := by
  unfold mAllG at h
  cases zi : mi env with
  | stuck => rw [zi] at h; exact h.elim
  | exc c e => rw [zi] at h; exact .inl ⟨c, e, rfl, h⟩
  | ok r e1 =>
    obtain ⟨ds, o⟩ := r
    rw [zi] at h
    simp only [R.bind] at h
    by_cases hok : okV vs (lockE o e1) = true
    case neg => rw [if_neg hok] at h; exact h.elim
    rw [if_pos hok] at h
    cases zl : allG vs g mt me t ds (wipeE (lockE o e1) vs) with
    | stuck => rw [zl] at h; exact h.elim
    | exc c e => rw [zl] at h; exact h.elim
    | ok b e2 =>
      rw [zl] at h
      exact .inr ⟨ds, o, e1, b, e2, rfl, hok, zl, fun H' p => h _ H' p (.bl b)⟩
theorem gen_exc {pins : List (Addr × Obj)} {σ : L2.St} {H : Hp} {s : Shared} {env e1 : En} {cx : Nat} {Q' : Value → Shared → Prop} (hr : Room (k + 1) X.A) (hi : PI X tg iter (tI C (gd X) W mi)) (ok : GenOk X.N X.env.scope scope own)
    (hs : ∀ x, genFold iter X.env x = pure x) (I : Inv X pins σ H s) (q : Rel (gd X) C env σ H) (hm : mi env = .exc cx e1) (hW : ∀ H', PostE (gd X) C env σ H e1 H' → W (.ref (C.cl cx)) none σ H') :
    wpAny (model X.prog X.w) X.A (eval (.GeneratorExp elt [⟨tg, iter, ifs, 0⟩] scope gpos) X.env) Q' X.xe s := by
  have hfree : ∀ y ∈ scope.names, y.2 = .free → ∃ c, X.env.cells.lookup y.1 = some c := fun y hy e => by
    rcases ok.free y hy e with k | k
    · exact I.ok.has _ (.inl k)
    · exact I.ok.has _ (.inr k)
  refine wpAny_GeneratorExp_make ok.co (closure_ok hfree) ok.cell ok.dot ok.kind (by have := hr.dp; omega) ?_ hs
  refine thn (hi.run pins s σ H (fun _ _ => False) I ⟨env, q, by rw [hm]; exact hW⟩) fun xv s1 hx => thn hx fun itv s2 h2 => ?_
  obtain ⟨_, _, _, _, _, _, _, _, _, _, h⟩ := h2
  exact h.elim
section
variable {p pos : Pos}
/-- all(elt for tg in iter if ..) -/
theorem b_allG (hr : Room (k + 1) X.A) (hgl : Gl X "all") (hmg : X.mg "all" = none) (hc : X.calm = true) (hN : X.N.Nodup) (TC : TabC X C c P) (hi : PI X tg iter (tI C (gd X) W mi)) (ok : GenOk X.N X.env.scope scope own) (hvs : own.map (·.2) = vs)
    (hg : ∀ (A : Around) (s : Shared) (H : Hp) (c : Addr) (cl : List (Str × Addr)) (code : Value) (fp : List Addr) (pn : List (Addr × Obj)), Room k A → PG (X.gen A s H (genEnv scope cl c code builtinsNs X.env) fp pn) tg (tGv C (gd X) vs g))
    (ht : ∀ (A : Around) (s : Shared) (H : Hp) (c : Addr) (cl : List (Str × Addr)) (code : Value) (fp : List Addr) (pn : List (Addr × Obj)), Room k A → PTs (X.gen A s H (genEnv scope cl c code builtinsNs X.env) fp pn) ifs (tT C (gd X) noW mt))
    (he : ∀ (A : Around) (s : Shared) (H : Hp) (c : Addr) (cl : List (Str × Addr)) (code : Value) (fp : List Addr) (pn : List (Addr × Obj)), Room k A → PE (X.gen A s H (genEnv scope cl c code builtinsNs X.env) fp pn) elt (tE C (gd X) noW me))
    (hs : ∀ x, genFold iter X.env x = pure x := by intro _; rfl)
    (hst : starEach [.GeneratorExp elt [⟨tg, iter, ifs, 0⟩] scope gpos] X.env = (false, eval (.GeneratorExp elt [⟨tg, iter, ifs, 0⟩] scope gpos) X.env) :: starEach [] X.env := by rfl) :
    PE X (.Call (.Name "all" p) [.GeneratorExp elt [⟨tg, iter, ifs, 0⟩] scope gpos] [] pos) (tE C (gd X) W (mAllG true vs mi g mt me)) := by
  refine ⟨fun pins s σ H Q I ⟨env, q, h⟩ => ?_⟩
  refine wpAny_Call_Name_kw (ld_blt I hgl hmg boot_all ?_)
  refine PyProof.Rows.callWith_builtin1 ?_ hst (by rfl)
  rw [hst]
  show wpAny _ _ (spliced ((false, eval (.GeneratorExp elt [⟨tg, iter, ifs, 0⟩] scope gpos) X.env) :: backTo pos (starEach [] X.env))) _ _ s
  rcases all_cases h with ⟨cx, ex, zi, hW⟩ | ⟨ds, o, e1, b, e2, zi, hok, zl, hq⟩
  · exact Calls.spliced_cons (gen_exc hr hi ok hs I q zi hW)
  refine Calls.spliced_cons (gen_eval (k := k) X.A.in1.in1 hr.hd rfl hr (room_gen hr) hc hN TC hi ok hvs hg ht he hs I q zi hok fun a gn s5 s4 H4 cc cl code fp pn gp hgn I5 mk back => ?_)
  refine Calls.spliced_nil ?_
  refine call_function_tree F.kind_all F.plain_all F.entry_all (F.args_all1 _) ?_
  unfold Builtin.«all»
  refine wpAny_bind (m := oneArg "all" _) (wpAny_pure ?_)
  obtain ⟨so, st⟩ := mk [] s5 (fun b hb => by simp at hb) ⟨rfl, I5.bare, fun b o _ e => e, fun b hb => by simp at hb⟩ rfl fun b hb => by simp at hb
  refine wpAny_bind (wpAny_pyIter_gen hgn ?_)
  refine wpAny_pure ⟨plainId_quiet F.plain_all_loop _, all_loop (Xg := X.genB X.A.in1.in1 s4 H4 scope cl cc code fp pn) rfl hr.hd (by have := hr.dp; omega) gp so ds.length 0 ds _ s5 rfl st (by rw [zl]; trivial) fun b' e' H1 s' h1 I1 pv1 => ?_⟩
  rw [zl] at h1
  cases h1
  obtain ⟨I6, p6⟩ := back s' H1 e2 I1 pv1
  exact ⟨.bl b, H1, I6, rfl, hq H1 p6⟩
/-- any(elt for tg in iter if ..) -/
theorem b_anyG (hr : Room (k + 1) X.A) (hgl : Gl X "any") (hmg : X.mg "any" = none) (hc : X.calm = true) (hN : X.N.Nodup) (TC : TabC X C c P) (hi : PI X tg iter (tI C (gd X) W mi)) (ok : GenOk X.N X.env.scope scope own) (hvs : own.map (·.2) = vs)
    (hg : ∀ (A : Around) (s : Shared) (H : Hp) (c : Addr) (cl : List (Str × Addr)) (code : Value) (fp : List Addr) (pn : List (Addr × Obj)), Room k A → PG (X.gen A s H (genEnv scope cl c code builtinsNs X.env) fp pn) tg (tGv C (gd X) vs g))
    (ht : ∀ (A : Around) (s : Shared) (H : Hp) (c : Addr) (cl : List (Str × Addr)) (code : Value) (fp : List Addr) (pn : List (Addr × Obj)), Room k A → PTs (X.gen A s H (genEnv scope cl c code builtinsNs X.env) fp pn) ifs (tT C (gd X) noW mt))
    (he : ∀ (A : Around) (s : Shared) (H : Hp) (c : Addr) (cl : List (Str × Addr)) (code : Value) (fp : List Addr) (pn : List (Addr × Obj)), Room k A → PE (X.gen A s H (genEnv scope cl c code builtinsNs X.env) fp pn) elt (tE C (gd X) noW me))
    (hs : ∀ x, genFold iter X.env x = pure x := by intro _; rfl)
    (hst : starEach [.GeneratorExp elt [⟨tg, iter, ifs, 0⟩] scope gpos] X.env = (false, eval (.GeneratorExp elt [⟨tg, iter, ifs, 0⟩] scope gpos) X.env) :: starEach [] X.env := by rfl) :
    PE X (.Call (.Name "any" p) [.GeneratorExp elt [⟨tg, iter, ifs, 0⟩] scope gpos] [] pos) (tE C (gd X) W (mAllG false vs mi g mt me)) := by
  refine ⟨fun pins s σ H Q I ⟨env, q, h⟩ => ?_⟩
  refine wpAny_Call_Name_kw (ld_blt I hgl hmg boot_any ?_)
  refine PyProof.Rows.callWith_builtin1 ?_ hst (by rfl)
  rw [hst]
  show wpAny _ _ (spliced ((false, eval (.GeneratorExp elt [⟨tg, iter, ifs, 0⟩] scope gpos) X.env) :: backTo pos (starEach [] X.env))) _ _ s
  rcases all_cases h with ⟨cx, ex, zi, hW⟩ | ⟨ds, o, e1, b, e2, zi, hok, zl, hq⟩
  · exact Calls.spliced_cons (gen_exc hr hi ok hs I q zi hW)
  refine Calls.spliced_cons (gen_eval (k := k) X.A.in1.in1 hr.hd rfl hr (room_gen hr) hc hN TC hi ok hvs hg ht he hs I q zi hok fun a gn s5 s4 H4 cc cl code fp pn gp hgn I5 mk back => ?_)
  refine Calls.spliced_nil ?_
  refine call_function_tree F.kind_any F.plain_any F.entry_any (F.args_any1 _) ?_
  unfold Builtin.«any»
  refine wpAny_bind (m := oneArg "any" _) (wpAny_pure ?_)
  obtain ⟨so, st⟩ := mk [] s5 (fun b hb => by simp at hb) ⟨rfl, I5.bare, fun b o _ e => e, fun b hb => by simp at hb⟩ rfl fun b hb => by simp at hb
  refine wpAny_bind (wpAny_pyIter_gen hgn ?_)
  refine wpAny_pure ⟨plainId_quiet F.plain_any_loop _, any_loop (Xg := X.genB X.A.in1.in1 s4 H4 scope cl cc code fp pn) rfl hr.hd (by have := hr.dp; omega) gp so ds.length 0 ds _ s5 rfl st (by rw [zl]; trivial) fun b' e' H1 s' h1 I1 pv1 => ?_⟩
  rw [zl] at h1
  cases h1
  obtain ⟨I6, p6⟩ := back s' H1 e2 I1 pv1
  exact ⟨.bl b, H1, I6, rfl, hq H1 p6⟩
end
end
end PV

set_option Elab.async false
set_option linter.all false
set_option maxRecDepth 100000
set_option maxHeartbeats 4000000
namespace PV
open PySem PySem.Spec PyProof.Rows L2 GenW
def fitI (i : Int) : Bool := decide (-(2 ^ 63) ≤ i) && decide (i < 2 ^ 63)
def sumG (vs : List Nat) (g : TgD) (mt : MT) (me : ME) : Int → List D → En → R Int
  | acc, [] => fun e => .ok acc e
  | acc, d :: ds => fun e => match g d e with
    | none => .stuck
    | some e1 => (mt e1).bind fun b e2 => if b = true then (me e2).bind fun r e3 => match frz1 r e3 with
        | some (.int y, e4) => if fitI y && fitI (acc + y) then sumG vs g mt me (acc + y) ds (wipeE e4 vs) else .stuck
        | _ => .stuck
      else sumG vs g mt me acc ds (wipeE e2 vs)
section
variable {Xg : Cx} {C : Cc} {vs : List Nat} {ds0 : List D} {eb : En} {σb : L2.St} {Hb : Hp} {B : Around} {a : Addr} {gn : Nat}
theorem sumG_cons {g : TgD} {mt : MT} {me : ME} {acc : Int} {d : D} {ds : List D} {e : En} : sumG vs g mt me acc (d :: ds) e = match g d e with
    | none => .stuck
    | some e1 => (mt e1).bind fun b e2 => if b = true then (me e2).bind fun r e3 => match frz1 r e3 with
        | some (.int y, e4) => if fitI y && fitI (acc + y) then sumG vs g mt me (acc + y) ds (wipeE e4 vs) else .stuck
        | _ => .stuck
      else sumG vs g mt me acc ds (wipeE e2 vs) := rfl
theorem sumG_next {g : TgD} {mt : MT} {me : ME} {acc : Int} : ∀ {ds : List D} {e : En}, isOk (sumG vs g mt me acc ds e) → isOk (gNext vs g mt me ds e) ∧ sumG vs g mt me acc ds e = match gNext vs g mt me ds e with
    | .ok (some (.int y, ds')) e' => if fitI y && fitI (acc + y) then sumG vs g mt me (acc + y) ds' e' else .stuck
    | .ok none e' => .ok acc e'
    | _ => .stuck
  | [], e, h => ⟨trivial, rfl⟩
  | d :: ds, e, h => by
    rw [sumG_cons] at h
    rw [sumG_cons, gNext_cons]
    cases zg : g d e with
    | none => rw [zg] at h; exact h.elim
    | some e1 =>
      rw [zg] at h
      dsimp only at h ⊢
      cases zt : mt e1 with
      | stuck => rw [zt] at h; exact h.elim
      | exc c e => rw [zt] at h; exact h.elim
      | ok b e2 =>
        rw [zt] at h
        simp only [R.bind] at h ⊢
        by_cases hb : b = true
        case neg =>
          rw [if_neg hb] at h
          rw [if_neg hb, if_neg hb]
          exact sumG_next h
        rw [if_pos hb] at h
        rw [if_pos hb, if_pos hb]
        cases zm : me e2 with
        | stuck => rw [zm] at h; exact h.elim
        | exc c e => rw [zm] at h; exact h.elim
        | ok r e3 =>
          rw [zm] at h
          dsimp only at h ⊢
          cases zf : frz1 r e3 with
          | none => rw [zf] at h; exact h.elim
          | some ye =>
            obtain ⟨yy, e5⟩ := ye
            rw [zf] at h
            cases yy with
            | int y => exact ⟨trivial, rfl⟩
            | _ => exact h.elim
theorem sumG_end {g : TgD} {mt : MT} {me : ME} {acc : Int} {ds : List D} {e e' : En} (h : isOk (sumG vs g mt me acc ds e)) (h2 : gNext vs g mt me ds e = .ok none e') : sumG vs g mt me acc ds e = .ok acc e' := by
  rw [(sumG_next h).2, h2]
theorem sumG_step {g : TgD} {mt : MT} {me : ME} {acc : Int} {ds ds' : List D} {e e' : En} {y : D} (h : isOk (sumG vs g mt me acc ds e)) (h2 : gNext vs g mt me ds e = .ok (some (y, ds')) e') : ∃ i, y = .int i ∧ fitI i = true ∧ fitI (acc + i) = true ∧ sumG vs g mt me acc ds e = sumG vs g mt me (acc + i) ds' e' := by
  have q := (sumG_next h).2
  rw [h2] at q
  cases y with
  | int i =>
    dsimp only at q
    by_cases z : (fitI i && fitI (acc + i)) = true
    · rw [if_pos z] at q
      rw [Bool.and_eq_true] at z
      exact ⟨i, rfl, z.1, z.2, q⟩
    · rw [if_neg z] at q; rw [q] at h; exact h.elim
  | _ => rw [q] at h; exact h.elim
theorem sum_loop {A : Around} {R : Result → Shared → Prop} {S : Addr} {g : TgD} {mt : MT} {me : ME} (hB : B = A.in1.in1) (hh : A.handled = none) (hroom : A.depth < recursionLimit) (gp : GPin Xg a gn) (so : SOk Xg [S]) :
    ∀ (k j : Nat) (ds : List D) (e : En) (s : Shared) (acc : Int) (tA : Tok) (c : Nat), ds.length = k → GSt Xg [S] C vs (gNext vs g mt me) ds0 eb σb Hb B gn j ds e s → isOk (sumG vs g mt me acc ds e) →
      s.heap.get? S = some { cls := .type "list", dict := none, data := .seq #[.int acc tA] c, slots := #[] } →
      (∀ i t e' H1 s', sumG vs g mt me acc ds e = .ok i e' → Inv Xg [] σb H1 s' → PostV (gd Xg) C vs eb σb Hb e' σb H1 → R (.ok (.ret (.int i t))) s') → codeAny (model Xg.prog Xg.w) A (.builtin "sum.loop" ⟨[.ref a, .ref S, rawInt 0, rawInt 0], []⟩) R s := by
  intro k
  induction k using Nat.strongRecOn with
  | ind k ih =>
    intro j ds e s acc tA c hk st hok hS hR
    refine codeAny_builtin F.entry_sum_loop ?_
    rw [Around.under_plainId F.plain_sum_loop _]
    show wpAny _ A.in1 (seqItems? (.ref S) >>= _) _ _ s
    refine wpAny_bind (wpAny_seqItems hS rfl ?_)
    show wpAny _ A.in1 (tryCatch (pyNext (.ref a)) _ >>= _) _ _ s
    refine wpAny_bind (wpAny_tryCatch (gen_next (A := A.in1) hist_len hB hh hroom gp so st (sumG_next hok).1 (fun y ds' e' v s' hnx st' hv hk' => ?_) fun e' H1 s' hnx I1 pv1 hk' => ?_))
    · obtain ⟨i, rfl, f1, f2, hq⟩ := sumG_step hok hnx
      obtain ⟨x, H, rx, rep⟩ := hv
      cases rep
      obtain ⟨t, rfl⟩ : ∃ t, v = .int i t := rx
      have hS' := hk' S (List.mem_singleton.mpr rfl) _ hS
      have hc : ((decide (-(2 ^ 63) ≤ i) && decide (i < 2 ^ 63)) && (decide (-(2 ^ 63) ≤ acc + i) && decide (acc + i < 2 ^ 63))) = true := by
        unfold fitI at f1 f2
        rw [f1, f2]; rfl
      show wpAny _ A.in1 (if (_ : Bool) = true then (mkInt (acc + i) >>= _) else _) _ _ _
      split
      · refine wpAny_bind (wpAny_mkInt ?_)
        show wpAny _ A.in1 (updateSeq S (fun _ => #[.int (acc + i) s'.toks]) >>= _) _ _ _
        refine wpAny_bind ?_
        obtain ⟨_, _, H1, I1, _⟩ := id st'
        have b' : AllBare s'.gens := I1.bare
        refine wpAny_updateSeq hS' rfl (wpAny_pure ⟨plainId_quiet F.plain_sum_loop _, ih ds'.length (by rw [← hk]; exact hist_len hnx) (j + 1) ds' e' _ (acc + i) s'.toks _ rfl (st'.slp so ⟨rfl, b', fun b o hb e => ?_, fun b hb => ?_⟩ rfl) (by rw [← hq]; exact hok) (Heap.get?_update_self _ hS' rfl) fun i2 t e2 H1 s2 h1 h2 h3 => hR i2 t e2 H1 s2 (by rw [hq]; exact h1) h2 h3⟩)
        · exact (Heap.get?_update_other _ _ (fun h : S = b => hb (List.mem_singleton.mpr h.symm))).trans e
        · rw [List.mem_singleton.mp hb]
          exact ⟨_, Heap.get?_update_self _ hS' rfl, fun v z => by cases z⟩
      · rename_i hneg
        exact absurd hc hneg
    · exact wpAny_pure (hR acc tA e' H1 s' (sumG_end hok hnx) I1 pv1)
end
section
variable {X : Cx} {C : Cc} {W : WX} {elt tg iter : Expr} {ifs : List Expr} {scope : Scope} {own : List (Str × Nat)} {gpos : Pos} {mi : MI} {g : TgD} {mt : MT} {me : ME} {vs : List Nat} {k : Nat} {c P : Addr}
def mSumG (vs : List Nat) (mi : MI) (g : TgD) (mt : MT) (me : ME) : ME := fun env => (mi env).bind fun r e1 => if okV vs (lockE r.2 e1) = true then match sumG vs g mt me 0 r.1 (wipeE (lockE r.2 e1) vs) with
    | .ok b e2 => .ok (.d (.int b)) (bkE r.2 e1 vs e2)
    | _ => .stuck
  else .stuck
theorem sum_cases {σ : L2.St} {H : Hp} {Q : VK} {env : En} (h : tK C (gd X) W (ValRel (gd X)) env σ H (mSumG vs mi g mt me env) Q) :
    (∃ c e, mi env = .exc c e ∧ ∀ H', PostE (gd X) C env σ H e H' → W (.ref (C.cl c)) none σ H') ∨
    ∃ ds o e1 b e2, mi env = .ok (ds, o) e1 ∧ okV vs (lockE o e1) = true ∧ sumG vs g mt me 0 ds (wipeE (lockE o e1) vs) = .ok b e2 ∧ ∀ H', PostE (gd X) C env σ H (bkE o e1 vs e2) H' → Q (.int b) H' := by
  unfold mSumG at h
  cases zi : mi env with
  | stuck => rw [zi] at h; exact h.elim
  | exc c e => rw [zi] at h; exact .inl ⟨c, e, rfl, h⟩
  | ok r e1 =>
    obtain ⟨ds, o⟩ := r
    rw [zi] at h
    simp only [R.bind] at h
    by_cases hok : okV vs (lockE o e1) = true
    case neg => rw [if_neg hok] at h; exact h.elim
    rw [if_pos hok] at h
    cases zl : sumG vs g mt me 0 ds (wipeE (lockE o e1) vs) with
    | stuck => rw [zl] at h; exact h.elim
    | exc c e => rw [zl] at h; exact h.elim
    | ok b e2 =>
      rw [zl] at h
      exact .inr ⟨ds, o, e1, b, e2, rfl, hok, zl, fun H' p => h _ H' p (.int b)⟩
variable {p pos : Pos}
/-- sum(elt for tg in iter if ..) -/
theorem b_sumG (hr : Room (k + 1) X.A) (hgl : Gl X "sum") (hmg : X.mg "sum" = none) (hbt : bootBuiltins "sum" = some (.builtin "sum")) (hc : X.calm = true) (hN : X.N.Nodup) (TC : TabC X C c P) (hi : PI X tg iter (tI C (gd X) W mi)) (ok : GenOk X.N X.env.scope scope own) (hvs : own.map (·.2) = vs)
    (hg : ∀ (A : Around) (s : Shared) (H : Hp) (c : Addr) (cl : List (Str × Addr)) (code : Value) (fp : List Addr) (pn : List (Addr × Obj)), Room k A → PG (X.gen A s H (genEnv scope cl c code builtinsNs X.env) fp pn) tg (tGv C (gd X) vs g))
    (ht : ∀ (A : Around) (s : Shared) (H : Hp) (c : Addr) (cl : List (Str × Addr)) (code : Value) (fp : List Addr) (pn : List (Addr × Obj)), Room k A → PTs (X.gen A s H (genEnv scope cl c code builtinsNs X.env) fp pn) ifs (tT C (gd X) noW mt))
    (he : ∀ (A : Around) (s : Shared) (H : Hp) (c : Addr) (cl : List (Str × Addr)) (code : Value) (fp : List Addr) (pn : List (Addr × Obj)), Room k A → PE (X.gen A s H (genEnv scope cl c code builtinsNs X.env) fp pn) elt (tE C (gd X) noW me))
    (hs : ∀ x, genFold iter X.env x = pure x := by intro _; rfl)
    (hst : starEach [.GeneratorExp elt [⟨tg, iter, ifs, 0⟩] scope gpos] X.env = (false, eval (.GeneratorExp elt [⟨tg, iter, ifs, 0⟩] scope gpos) X.env) :: starEach [] X.env := by rfl) :
    PE X (.Call (.Name "sum" p) [.GeneratorExp elt [⟨tg, iter, ifs, 0⟩] scope gpos] [] pos) (tE C (gd X) W (mSumG vs mi g mt me)) := by
  refine ⟨fun pins s σ H Q I ⟨env, q, h⟩ => ?_⟩
  refine wpAny_Call_Name_kw (ld_blt I hgl hmg hbt ?_)
  refine PyProof.Rows.callWith_builtin1 ?_ hst (by rfl)
  rw [hst]
  show wpAny _ _ (spliced ((false, eval (.GeneratorExp elt [⟨tg, iter, ifs, 0⟩] scope gpos) X.env) :: backTo pos (starEach [] X.env))) _ _ s
  rcases sum_cases h with ⟨cx, ex, zi, hW⟩ | ⟨ds, o, e1, b, e2, zi, hok, zl, hq⟩
  · exact Calls.spliced_cons (gen_exc hr hi ok hs I q zi hW)
  refine Calls.spliced_cons (gen_eval (k := k) X.A.in1.in1 hr.hd rfl hr (room_gen hr) hc hN TC hi ok hvs hg ht he hs I q zi hok fun a gn s5 s4 H4 cc cl code fp pn gp hgn I5 mk back => ?_)
  refine Calls.spliced_nil ?_
  refine call_function_tree F.kind_sum F.plain_sum F.entry_sum (F.args_sum1 _) ?_
  unfold Builtin.«sum»
  simp only [List.length_cons, List.length_nil]
  rw [if_neg (by decide)]
  refine wpAny_bind (wpAny_of_eq (show Builtin.Builtins.bindParams "sum" ["start"] 0 { } = pure [none] from rfl) ?_)
  refine wpAny_bind (wpAny_pyIter_gen hgn ?_)
  refine wpAny_bind (wpAny_mkInt ?_)
  refine wpAny_bind (wpAny_pure ?_)
  simp only [List.forIn_cons, List.forIn_nil]
  refine wpAny_bind (wpAny_bind (wpAny_bind (wpAny_isInstance (T := "int") (b := false) (typeIs_int _ _ _) PySem.sub_int_str ?_)))
  simp only [Bool.false_eq_true, if_false]
  refine wpAny_pure (wpAny_bind (wpAny_bind (wpAny_isInstance (T := "int") (b := false) (typeIs_int _ _ _) PySem.sub_int_bytes ?_)))
  simp only [Bool.false_eq_true, if_false]
  refine wpAny_pure (wpAny_bind (wpAny_bind (wpAny_isInstance (T := "int") (b := false) (typeIs_int _ _ _) PySem.sub_int_bytearray ?_)))
  simp only [Bool.false_eq_true, if_false]
  refine wpAny_pure (wpAny_pure ?_)
  refine wpAny_bind (wpAny_newObj_type ?_)
  have hget : ∀ o : Obj, o.isFreed = false → (s5.heap.push o).get? s5.heap.objs.size = some o := fun o h => Heap.get?_push_size _ h
  have kp : ∀ (o : Obj) b u, s5.heap.get? b = some u → (s5.heap.push o).get? b = some u := fun o b u e => Heap.get?_push_of_some _ e
  generalize hob : ({ cls := .type "list", data := .seq #[.int 0 s5.toks] } : Obj) = ob
  have hobS : (s5.heap.push ob).get? s5.heap.objs.size = some ob := hget ob (by rw [← hob]; rfl)
  obtain ⟨so, st⟩ := mk [s5.heap.objs.size] { s5 with heap := s5.heap.push ob, toks := s5.toks + 1 } (fun b hb => by rw [List.mem_singleton.mp hb]; exact Nat.le_refl _) ⟨rfl, I5.bare, fun b o _ e => kp ob b o e, fun b hb => by simp at hb⟩ rfl
    (fun b hb => by rw [List.mem_singleton.mp hb]; exact ⟨ob, hobS, fun v z => by rw [← hob] at z; cases z⟩)
  subst hob
  refine wpAny_pure ⟨plainId_quiet F.plain_sum_loop _, sum_loop (Xg := X.genB X.A.in1.in1 s4 H4 scope cl cc code fp pn) rfl hr.hd (by have := hr.dp; omega) gp so ds.length 0 ds _ _ 0 s5.toks 0 rfl st (by rw [zl]; trivial) hobS fun b' t e' H1 s' h1 I1 pv1 => ?_⟩
  rw [zl] at h1
  cases h1
  obtain ⟨I6, p6⟩ := back s' H1 e2 I1 pv1
  exact ⟨.int b, H1, I6, ⟨t, rfl⟩, hq H1 p6⟩
end
end PV

set_option Elab.async false
set_option linter.all false
set_option maxRecDepth 100000
set_option maxHeartbeats 4000000
namespace PV
open PySem PySem.Spec PyProof.Rows L2
section
variable {P : Program} {w : World} {K : PySem.W.Frag} {mg : Str → Option Value} {base : Heap}
abbrev FnD (K : PySem.W.Frag) (x : Str) (st : Stmt) (f : Addr) (fd : FuncData) : Prop := FunD K x x (defArgs st) (defBody st) (defScope st) [] [] f fd
/-- a def's code object -/
theorem code_at {x : Str} {st : Stmt} {p : Str × Option Str} {fd : FuncData} (F : FnD K x st (He.fAd K p) fd) : fd.code = .ref (He.codeOf K p) := by
  obtain ⟨oc, od, dV, kV, doc, pm, an, cdv, ct, osl, rfl, lk, hcd, _⟩ := F.ex
  obtain ⟨c, rfl⟩ := He.codeIn_ref hcd
  have := He.codeOf_eq (p := p) lk (c := c) rfl
  rw [this] <;> rfl
theorem fnok_ofD {cl : Nat → Addr} {T : List Addr} {x : Str} {st : Stmt} {f : Addr} {fd : FuncData} {N ps : List Str} {k : Nat} {m : MS} (F : FnD K x st f fd) (S : FnScope N ps (defScope st))
    (body : ∀ (A : Around) (outer : List Env) (s : Shared) (H : Hp) (E : XK), Room k (A.deeper (envOfC x (defScope st) s.heap.objs.size f fd.code)) →
      PSs (cxB P w K mg base N x st f fd.code A outer s H E) (defBody st) (tS ⟨cl, T, H⟩ (gd (cxB P w K mg base N x st f fd.code A outer s H E)) (fun c d _ H => E c d H) m)) :
    FnOk P w K mg base (L2.CX P w) (k + 1) f fd ps (spFn cl T ⟨K, w⟩ (mkFn N.length ps.length m)) := by
  obtain ⟨oc, od, dV, kV, doc, pm, an, cdv, ct, osl, rfl, lk, hcd, _⟩ := F.ex
  refine fn_of lk hcd S (fun vs H Q E h => ?_) fun A outer s H vs Q E hr h => ⟨_, body A outer s H E hr, ?_⟩
  · obtain ⟨args, r, _, h⟩ := h
    rw [r.len]
    unfold mkFn at h
    by_cases z : args.length = ps.length
    · exact z
    · rw [if_neg z] at h; exact h.elim
  · obtain ⟨args, r, ht, h⟩ := h
    unfold mkFn at h
    have hpl : ps.length ≤ N.length := by
      have hq := congrArg List.length S.pre
      rw [List.length_take] at hq
      omega
    by_cases z : args.length = ps.length
    · rw [if_pos z] at h
      refine ⟨env0 N.length args, rel0 r ht (by omega), ?_⟩
      cases k : m (env0 N.length args) with
      | stuck => rw [k] at h; exact h
      | exc c e => rw [k] at h; exact fun σ' H' p => h H' (fin0 (m := m) r p z.symm)
      | ok fl e =>
        rw [k] at h
        cases fl with
        | nx => exact fun σ' H' p => h .non H' (fin0 (m := m) r p z.symm) .non
        | bk => exact h.elim
        | ct => exact h.elim
        | rt v => exact fun u σ' H' p rr => h u H' (fin0 (m := m) r p z.symm) (by cases v <;> exact rr)
    · rw [if_neg z] at h; exact h.elim
theorem callee_ofD {cl : Nat → Addr} {T : List Addr} {x : Str} {st : Stmt} {f : Addr} {fd : FuncData} {N ps : List Str} {k : Nat} {m : MS} (F : FnD K x st f fd) (S : FnScope N ps (defScope st)) (hb : Binds K fd ps []) (hm : mg x = some (.ref f))
    (body : ∀ (A : Around) (outer : List Env) (s : Shared) (H : Hp) (E : XK), Room k (A.deeper (envOfC x (defScope st) s.heap.objs.size f fd.code)) →
      PSs (cxB P w K mg base N x st f fd.code A outer s H E) (defBody st) (tS ⟨cl, T, H⟩ (gd (cxB P w K mg base N x st f fd.code A outer s H E)) (fun c d _ H => E c d H) m)) :
    Callee P w K mg base cl T x (k + 1) (mkFn N.length ps.length m) := ⟨f, fd, ps, fnok_ofD F S body, hb, F.kp, hm⟩
/-- the law's own promise, at a script that may or may not be tracked -/
theorem law_sp {cl : Nat → Addr} {T : List Addr} {fm : FM} {H : Hp} {a : Addr} {ns : List Int} (ht : ∀ P ∈ T, H P = some (.tbl #[])) (hS : SqL K H a (ns.map V.int))
    (h1 : ∃ os, fm [.sh (.list (ns.map .int))] = .ok (.d (.bool true)) os) (h2 : ∃ os, fm [.lk (.list (ns.map .int))] = .ok (.d (.bool true)) os) : spFn cl T ⟨K, w⟩ fm [.ref a] H (fun v _ => v = .bl true) fun _ _ _ => False := by
  have rs : ∀ ns : List Int, Reps ⟨K, w⟩ H (ns.map V.int) (ns.map .int) := fun ns => by
    induction ns with
    | nil => exact .nil
    | cons x r ih => exact .cons (.int x) ih
  have tb : ∀ P ∈ T, TabG H P := fun P hP => ⟨#[], ht P hP, by first | trivial | exact .nil | decide⟩
  have fin : ∀ (args : List Arg) (os : List (Option D)), fm args = .ok (.d (.bool true)) os → ArgsRel ⟨K, w⟩ H [.ref a] args → spFn cl T ⟨K, w⟩ fm [.ref a] H (fun v _ => v = .bl true) fun _ _ _ => False := fun args os e ar =>
    ⟨args, ar, tb, by
      rw [e]
      intro v H' _ r
      cases (show Rep ⟨K, w⟩ H' v (.bool true) from r)
      rfl⟩
  have one : ∀ g : Arg, ArgRel ⟨K, w⟩ H (.ref a) g → ArgsRel ⟨K, w⟩ H [.ref a] [g] := fun g h => by
    refine ⟨rfl, fun i v g' e1 e2 => ?_, fun i j v g1 g2 e1 e2 _ _ _ _ => ?_⟩
    · cases i with
      | zero => cases e1; cases e2; exact h
      | succ i => simp at e1
    · cases i with
      | zero => cases j with
        | zero => rfl
        | succ j => simp at e2
      | succ i => simp at e1
  rcases hS with (h | ⟨o, h⟩) | h
  · obtain ⟨os, e⟩ := h2
    exact fin _ os e (one _ ⟨a, rfl, ns.map V.int, h, rs ns⟩)
  · obtain ⟨os, e⟩ := h1
    exact fin _ os e (one _ (.lst (.inl ⟨o, h⟩) (rs ns)))
  · obtain ⟨os, e⟩ := h1
    exact fin _ os e (one _ (.lst (.inr h) (rs ns)))
/-- a def that nobody may call -/
theorem callee_stuck {cl : Nat → Addr} {T : List Addr} {x : Str} {st : Stmt} {f : Addr} {fd : FuncData} {N ps : List Str} {n : Nat} (F : FnD K x st f fd) (S : FnScope N ps (defScope st)) (hb : Binds K fd ps []) (hm : mg x = some (.ref f)) : Callee P w K mg base cl T x (0 + (n + 1)) fun _ => .stuck := by
  refine ⟨f, fd, ps, ?_, hb, F.kp, hm⟩
  obtain ⟨oc, od, dV, kV, doc, pm, an, cdv, ct, osl, rfl, lk, hcd, _⟩ := F.ex
  rw [Nat.zero_add]
  refine fn_of lk hcd S (fun vs H Q E h => ?_) fun A outer s H vs Q E hr h => ?_
  · obtain ⟨_, _, _, h⟩ := h; exact h.elim
  · obtain ⟨_, _, _, h⟩ := h; exact h.elim
end
end PV

set_option Elab.async false
set_option linter.all false
set_option maxRecDepth 100000
set_option maxHeartbeats 4000000
namespace PV
open PySem PySem.Spec PyProof.Rows L2
section
variable {X : Cx}
/-- any list times an int -/
theorem op_repL : OpR X (binaryOp .Mult) (fun x y H Q => ∃ l k xs, x = V.ref l ∧ y = V.int k ∧ SqL X.K H l xs ∧ -(2 ^ 63) ≤ k ∧ k < 2 ^ 63 ∧ xs.length * k.toNat ≤ sizeLine ∧ ∀ p, H p = none → Q (.ref p) (upd H p (.lst (List.replicate k.toNat xs).flatten))) := by
  intro pins s σ H x y v u Q I rx ry h
  obtain ⟨l, k, xs, rfl, rfl, hH, h1, h2, hz, q⟩ := h
  cases rx
  obtain ⟨t, rfl⟩ := ry
  obtain ⟨its, r, p1, _⟩ := I.list hH
  obtain ⟨⟨cls, dd, data, sl⟩, n, ho, hc, _, hd⟩ := p1
  simp only at hc hd
  subst hc hd
  have hl : its.length = xs.length := r.length.symm
  have hlen : its.toArray.size * k.toNat ≤ sizeLine := by rw [List.size_toArray, hl]; exact hz
  have hcap : ¬ its.toArray.size * k.toNat > (2 ^ 63 - 1) / 8 := by
    have : (sizeLine : Nat) ≤ (2 ^ 63 - 1) / 8 := by decide
    omega
  have hfit : ¬ (!Builtin.List.listFitsIndex k) = true := by
    rw [fitsIndex_both h1 h2]
    exact Bool.false_ne_true
  have hlong : ¬ Builtin.List.listTooLong (its.toArray.size * k.toNat) = true := by
    rw [notLongL hlen]
    exact Bool.false_ne_true
  have hnew : List.foldl (fun x1 x2 => x1 ++ x2) #[] (List.replicate (if its.toArray.isEmpty = true then 0 else k.toNat) its.toArray) = (List.replicate k.toNat its).flatten.toArray := listMul_foldl_if ..
  refine wpAny_binaryOp_repeat_ref (T := "list") (U := "int") (by decide) ⟨_, ho, rfl⟩ (fun s' => typeIs_int s' k t) noFill_list_mul PySem.F.fills_int_mul PySem.F.slot_int_rmul repeat_list PySem.F.slot_int_index.lookup
    (call_meets PySem.F.slot_int_rmul (typeIs_int s k t) PySem.F.entry_int_rmul (PySem.F.args_int_rmul_2 _ _) (lm_int_rmul_list_any k t l its.toArray n dd sl)
      ⟨ho, rfl, ⟨_, ho, rfl⟩, call_meets PySem.F.slot_list_mul ⟨_, ho, rfl⟩ PySem.F.entry_list_mul (PySem.F.args_list_mul_2 _ _) (lm_list_mul_any l its.toArray n dd sl k t hfit hcap hlong) ⟨ho, ?_⟩⟩)
  rw [hnew]
  exact ⟨.ref _, _, I.lnew (t' := s.toks) (r.rep k.toNat) (by rw [PyProof.Rows.lm_len_rep_flat, Nat.mul_comm]; exact hz), rfl, q _ I.fresh⟩
/-- a tuple once -/
theorem tuple_mul1 (l : Addr) (items : Array Value) (n : Nat) (dd : Option Addr) (sl : Array (Option Value)) (x : Int) (u : Tok) (c0 : (decide (x < -(2 ^ 63)) || decide (x ≥ 2 ^ 63)) = false) (c1 : (items.isEmpty || x == 1) = true) :
    Meets (Builtin.«tuple.__mul__» ⟨[.ref l, .int x u], []⟩) (fun _ R s => s.heap.get? l = some { cls := .type "tuple", dict := dd, data := .seq items n, slots := sl } ∧ R (.ok (.ret (Value.ref l))) s) :=
  .of_wp fun prog w A R s h => by
    obtain ⟨hp, g, d, tk, os⟩ := s
    obtain ⟨hl, h⟩ := h
    have f1 := AutoSeq1.idx_int
    wp_walk using wpAny_loadPart' hl
    repeat (first
      | (refine wpAny_ite_false (decide_eq_false (by rw [c0]; exact Bool.false_ne_true)) ?_; wp_walk using wpAny_loadPart' hl)
      | (refine wpAny_ite_true (decide_eq_true c1) ?_; wp_walk using wpAny_loadPart' hl))
    exact ⟨_, rfl, h⟩
/-- a tuple, no times -/
theorem tuple_mul0 (l : Addr) (items : Array Value) (n : Nat) (dd : Option Addr) (sl : Array (Option Value)) (x : Int) (u : Tok) (c0 : (decide (x < -(2 ^ 63)) || decide (x ≥ 2 ^ 63)) = false) (c1 : (items.isEmpty || x == 1) = false) (c2 : (decide (x ≤ 0) || items.isEmpty) = true) :
    Meets (Builtin.«tuple.__mul__» ⟨[.ref l, .int x u], []⟩) (fun _ R s => s.heap.get? l = some { cls := .type "tuple", dict := dd, data := .seq items n, slots := sl } ∧
      R (.ok (.ret (Value.ref s.heap.objs.size))) { s with heap := s.heap.push { cls := Value.type "tuple", data := Data.seq #[] }, toks := s.toks }) :=
  .of_wp fun prog w A R s h => by
    obtain ⟨hp, g, d, tk, os⟩ := s
    obtain ⟨hl, h⟩ := h
    have f1 := AutoSeq1.idx_int
    wp_walk using wpAny_loadPart' hl
    repeat (first
      | (refine wpAny_ite_false (decide_eq_false (by rw [c0]; exact Bool.false_ne_true)) ?_; wp_walk using wpAny_loadPart' hl)
      | (refine wpAny_ite_false (decide_eq_false (by rw [c1]; exact Bool.false_ne_true)) ?_; wp_walk using wpAny_loadPart' hl)
      | (refine wpAny_ite_true (decide_eq_true c2) ?_; wp_walk using wpAny_loadPart' hl))
    exact ⟨_, rfl, h⟩
/-- a tuple times an int, the laid object known -/
def rRepU (K : PySem.W.Frag) : R2 := fun x y H Q => ∃ l k xs, x = .ref l ∧ y = .int k ∧ SqT K H l xs ∧ -(2 ^ 63) ≤ k ∧ k ≤ 1000 ∧ xs.length ≤ 1000 ∧ ((k = 1 ∨ xs = []) → Q (.ref l) H) ∧
  (k ≠ 1 → xs ≠ [] → ∀ p us, H p = none → Q (.ref p) (upd H p (.frz (tobj us) (.tup (List.replicate k.toNat xs).flatten))))
theorem op_repU : OpR X (binaryOp .Mult) (rRepU X.K) := by
  intro pins s σ H x y v u Q I rx ry h
  obtain ⟨l, k, xs, rfl, rfl, hT, h1, h2, hz, q0, q⟩ := h
  cases rx
  obtain ⟨t, rfl⟩ := ry
  obtain ⟨its, r, ⟨⟨cls, dd, data, sl⟩, ho, hc, n, hd⟩, hs⟩ := I.tuple hT
  simp only at hc hd
  subst hc hd
  have hle : its.length = xs.length := r.length.symm
  have hnil : xs = [] ↔ its = [] := by
    rw [← List.length_eq_zero_iff, ← List.length_eq_zero_iff, hle]
  have hsz0 : its.toArray.size = xs.length := by rw [List.size_toArray, hle]
  have c0 : (decide (k < -(2 ^ 63)) || decide (k ≥ 2 ^ 63)) = false := by
    rw [decide_eq_false (by omega), decide_eq_false (by omega)] <;> rfl
  have flen : (List.replicate k.toNat its).flatten.length ≤ sizeLine := by
    rw [PyProof.Rows.lm_len_rep_flat, hle, sizeLine_eq]
    have a1 : k.toNat * xs.length ≤ 1000 * 1000 := Nat.mul_le_mul (by omega) hz
    omega
  have road : ∀ {P : Value → Shared → Prop}, wpAny (model X.prog X.w) X.A (call (.builtin "tuple.__mul__") [.ref l, .int k t]) P X.xe s → wpAny (model X.prog X.w) X.A (binaryOp .Mult (.ref l) (.int k t)) P X.xe s := fun {P} w =>
    wpAny_binaryOp_repeat_ref (T := "tuple") (U := "int") (by decide) ⟨_, ho, rfl⟩ (fun s' => typeIs_int s' k t) noFill_tuple_mul PySem.F.fills_int_mul PySem.F.slot_int_rmul repeat_tuple PySem.F.slot_int_index.lookup
      (call_meets PySem.F.slot_int_rmul (typeIs_int s k t) PySem.F.entry_int_rmul (PySem.F.args_int_rmul_2 _ _) (int_rmul_tuple k t l its.toArray n dd sl) ⟨ho, rfl, ⟨_, ho, rfl⟩, w⟩)
  have ht : s.TypeIs (.ref l) "tuple" := ⟨_, ho, rfl⟩
  by_cases hk : k = 1 ∨ xs = []
  · have c1 : (its.toArray.isEmpty || k == 1) = true := by
      rcases hk with rfl | hk
      · simp
      · rw [hnil.mp hk]; rfl
    exact road (call_meets PySem.F.slot_tuple_mul ht PySem.F.entry_tuple_mul (PySem.F.args_tuple_mul_2 _ _) (tuple_mul1 l its.toArray n dd sl k t c0 c1) ⟨ho, .ref l, H, I, rfl, q0 hk⟩)
  · have hk1 : k ≠ 1 := fun z => hk (.inl z)
    have hne : xs ≠ [] := fun z => hk (.inr z)
    have hi : its.toArray.isEmpty = false := by
      cases its with
      | nil => exact absurd (hnil.mpr rfl) hne
      | cons a b => rfl
    have c1 : (its.toArray.isEmpty || k == 1) = false := by
      rw [hi, Bool.false_or]
      exact beq_eq_false_iff_ne.mpr hk1
    by_cases k0 : k ≤ 0
    · have c2 : (decide (k ≤ 0) || its.toArray.isEmpty) = true := by rw [decide_eq_true k0]; rfl
      have e0 : (List.replicate k.toNat xs).flatten = [] := by rw [show k.toNat = 0 by omega]; rfl
      refine road (call_meets PySem.F.slot_tuple_mul ht PySem.F.entry_tuple_mul (PySem.F.args_tuple_mul_2 _ _) (tuple_mul0 l its.toArray n dd sl k t c0 c1 c2) ⟨ho, ?_⟩)
      have I2 := laidU I (vs := []) (us := []) .nil (Nat.zero_le _)
      have q2 := q hk1 hne s.heap.objs.size [] (I.hok.fresh (Nat.le_refl _))
      rw [e0] at q2
      exact ⟨.ref s.heap.objs.size, _, I2, rfl, q2⟩
    · have hm : ((its.toArray.size : Nat) : Int) * k ≤ 1000000 := by
        rw [hsz0]
        have a1 : ((xs.length : Nat) : Int) * k ≤ 1000 * k := Int.mul_le_mul_of_nonneg_right (by omega) (by omega)
        omega
      have c2 : (decide (k ≤ 0) || its.toArray.isEmpty) = false := by
        rw [hi, Bool.or_false]
        exact decide_eq_false (by omega)
      have c4 : Builtin.Tuple.tupleTooMany (((its.toArray.size : Nat) : Int) * k) = false := by
        unfold Builtin.Tuple.tupleTooMany
        rw [sizeLine_eq]
        exact decide_eq_false (by omega)
      refine road (call_meets PySem.F.slot_tuple_mul ht PySem.F.entry_tuple_mul (PySem.F.args_tuple_mul_2 _ _) (tuple_mulW l its.toArray n dd sl k t c0 c1 c2 (by omega) c4 (by rw [size_rep, List.size_toArray]; exact flen)) ⟨ho, ?_⟩)
      rw [size_rep]
      have rr : Vals (List.replicate k.toNat xs).flatten (List.replicate k.toNat its).flatten := r.rep k.toNat
      have I2 := laidU I rr (by rw [rr.length]; exact flen)
      exact ⟨.ref s.heap.objs.size, _, I2, rfl, q hk1 hne _ _ (I.hok.fresh (Nat.le_refl _))⟩
theorem Reps.rep {G : Gd} {H : Hp} {vs : List V} {ds : List D} (h : Reps G H vs ds) : ∀ k : Nat, Reps G H (List.replicate k vs).flatten (List.replicate k ds).flatten
  | 0 => .nil
  | k + 1 => by
    rw [List.replicate_succ, List.replicate_succ, List.flatten_cons, List.flatten_cons]
    exact Reps.append h (Reps.rep h k)
def cMul (i j : Int) : Bool := decide ((Builtin.Int.intBits i : Int) + (Builtin.Int.intBits j : Int) ≤ 134217728)
theorem cMul_x {i j : Int} (h : cMul i j = true) : CMulX i j := by
  unfold cMul at h
  unfold CMulX
  exact of_decide_eq_true h
/-- int * int, list * int, tuple * int -/
def gMul : D → D → Option Val
  | .int i, .int j => if cMul i j = true then some (.d (.int (i * j))) else none
  | .list xs, .int k => if -(2 ^ 63) ≤ k ∧ k < 2 ^ 63 ∧ xs.length * k.toNat ≤ sizeLine then some (.nw (.list (List.replicate k.toNat xs).flatten)) else none
  | .tuple xs, .int k => if -(2 ^ 63) ≤ k ∧ k ≤ 1000 ∧ xs.length ≤ 1000 then some (.d (.tuple (List.replicate k.toNat xs).flatten)) else none
  | _, _ => none
theorem mul_ok : BO X (binaryOp .Mult) gMul := by
  refine ⟨_, op_mulX.or (op_repL.or op_repU), fun x y dx dy H Q r hx hy e q => ?_⟩
  cases dx <;> cases dy <;> try (cases e)
  case int.int i j =>
    have e : (if cMul i j = true then some (Val.d (.int (i * j))) else none) = some r := e
    by_cases z : cMul i j = true
    · rw [if_pos z] at e; cases e
      exact .inl ⟨i, j, hx.int, hy.int, cMul_x z, q _ H (Same.refl H) (.int _)⟩
    · rw [if_neg z] at e; cases e
  case list.int xs k =>
    have e : (if -(2 ^ 63) ≤ k ∧ k < 2 ^ 63 ∧ xs.length * k.toNat ≤ sizeLine then some (Val.nw (.list (List.replicate k.toNat xs).flatten)) else none) = some r := e
    by_cases z : -(2 ^ 63) ≤ k ∧ k < 2 ^ 63 ∧ xs.length * k.toNat ≤ sizeLine
    · rw [if_pos z] at e; cases e
      obtain ⟨a, vs, rfl, h1, r1⟩ := hx.lst
      exact .inr (.inl ⟨a, k, vs, rfl, hy.int, h1, z.1, z.2.1, by rw [r1.length]; exact z.2.2, fun p hp => q _ _ (same_upd hp) (new_list hp (r1.rep _))⟩)
    · rw [if_neg z] at e; cases e
  case tuple.int xs k =>
    have e : (if -(2 ^ 63) ≤ k ∧ k ≤ 1000 ∧ xs.length ≤ 1000 then some (Val.d (.tuple (List.replicate k.toNat xs).flatten)) else none) = some r := e
    by_cases z : -(2 ^ 63) ≤ k ∧ k ≤ 1000 ∧ xs.length ≤ 1000
    · rw [if_pos z] at e; cases e
      obtain ⟨a, vs, rfl, h1, r1⟩ := hx.tupU
      refine .inr (.inr ⟨a, k, vs, rfl, hy.int, h1.sq, z.1, z.2.1, by rw [r1.length]; exact z.2.2, fun w => q _ H (Same.refl H) ?_, fun _ _ p us hp => q _ _ (same_upd hp) (new_tup hp (r1.rep _))⟩)
      rcases w with rfl | w
      · rw [show (1 : Int).toNat = 1 from rfl, List.replicate_one, List.flatten_cons, List.flatten_nil, List.append_nil]
        exact .tup h1 r1
      · subst w
        cases r1
        rw [show (List.replicate k.toNat ([] : List D)).flatten = [] from by simp]
        exact .tup h1 .nil
    · rw [if_neg z] at e; cases e
theorem bits_le {i : Int} {a : Nat} (h : i.natAbs < 2 ^ a) : Builtin.Int.intBits i ≤ a := PyProof.Rows.intBits_le h
theorem gMul_bits {i j : Int} {a b : Nat} (ha : i.natAbs < 2 ^ a) (hb : j.natAbs < 2 ^ b) (h : a + b ≤ 134217728) : gMul (.int i) (.int j) = some (.d (.int (i * j))) := by
  show (if cMul i j = true then some (Val.d (.int (i * j))) else none) = _
  have := bits_le ha
  have := bits_le hb
  rw [if_pos (by unfold cMul; rw [decide_eq_true_eq]; omega)]
end
end PV

set_option Elab.async false
set_option linter.all false
set_option maxRecDepth 100000
set_option maxHeartbeats 4000000
namespace PV
open PySem PySem.Spec PyProof.Rows L2
section
variable {X : Cx} {C : Cc} {W : WX} {x : Str} {pos : Pos} {k : Nat}
theorem e_gint {i : Int} (hg : Gl X x) (h : ∃ t, X.mg x = some (.int i t)) (hd : (x == ("__debug__" : Str)) = false := by decide) : PE X (.Name x pos) (tE C (gd X) W (mC (.int i))) := by
  obtain ⟨t, h⟩ := h
  exact e_const (pe_glob hg h (v := .int i) ⟨t, rfl⟩ hd) fun _ => .int i
theorem e_gstr {z : Str} (hg : Gl X x) (h : ∃ t, X.mg x = some (.str z t)) (hd : (x == ("__debug__" : Str)) = false := by decide) : PE X (.Name x pos) (tE C (gd X) W (mC (.str z))) := by
  obtain ⟨t, h⟩ := h
  exact e_const (pe_glob hg h (v := .str z) ⟨t, rfl⟩ hd) fun _ => .str z
theorem un64 {A : Around} (hr : Room k A) : A.units + 64 < cLine := by have := hr.un; omega
theorem un65 {A : Around} (hr : Room k A) : A.units + 65 < cLine := by have := hr.un; omega
theorem getL_ok : GO X getL := by
  refine ⟨fun x i H Q => ∃ a vs k v, x = .ref a ∧ i = .int k ∧ SqL X.K H a vs ∧ L2.atI vs k = some v ∧ Q v H, ?_, ?_⟩
  · rintro pins s σ H o i ov iv Q I ro ri ⟨a, vs, k, v, rfl, rfl, h1, h2, q⟩
    obtain rfl : ov = Value.ref a := ro
    obtain ⟨t, rfl⟩ : ∃ t, iv = .int k t := ri
    obtain ⟨its, rv, ⟨o, n, ho, hc, hd, hdt⟩, hz⟩ := I.list h1
    have hl : s.heap.IsList a its.toArray := ⟨o, ho, hc, n, hdt⟩
    have len := rv.length
    unfold L2.atI at h2
    unfold L2.ixN at h2
    by_cases h0 : 0 ≤ k
    · rw [if_pos h0] at h2
      by_cases hlt : k < vs.length
      · rw [if_pos hlt] at h2
        obtain ⟨u, hu, ru⟩ := rv.get (show vs[k.toNat]? = some v from h2)
        refine wpAny_getItem_list hl h0 ?_ (by rw [List.getElem?_toArray]; exact hu) ⟨v, H, I, ru, q⟩
        have : sizeLine < 2 ^ 62 := by decide
        omega
      · rw [if_neg hlt] at h2; cases h2
    · rw [if_neg h0] at h2
      by_cases hge : -(vs.length : Int) ≤ k
      · rw [if_pos hge] at h2
        obtain ⟨u, hu, ru⟩ := rv.get (show vs[(k + vs.length).toNat]? = some v from h2)
        refine wpAny_getItem_list_neg hl (by omega) (by rw [List.size_toArray, ← len]; exact hge) ?_ (by rw [List.size_toArray, ← len, List.getElem?_toArray]; exact hu) ⟨v, H, I, ru, q⟩
        have : sizeLine < 2 ^ 62 := by decide
        omega
      · rw [if_neg hge] at h2; cases h2
  · intro x i d di r H Q hx hi e q
    cases d <;> cases di <;> try (cases e)
    case list.int ds k =>
      obtain ⟨a, vs, rfl, h1, r1⟩ := hx.lst
      obtain ⟨v, h2, h3⟩ := r1.atI (show L2.atI ds k = some r from e)
      exact ⟨a, vs, k, v, rfl, hi.int, h1, h2, q v h3⟩
theorem getDd_ok (hu : X.A.units + 64 < cLine) : GO X getDd := by
  refine ⟨fun x i H Q => ∃ kvs k dv, Dr (gd X) H x (.dict kvs) ∧ Rep (gd X) H i k ∧ keyOk kvs k = true ∧ dGet kvs k = some dv ∧ ∀ v, Rep (gd X) H v dv → Q v H, ?_, ?_⟩
  · rintro pins s σ H o i ov iv Q I ro ri ⟨kvs, k, dv, dx, ry, hk, hg, q⟩
    obtain ⟨a, es, rfl, hd, en, ok, _, _⟩ := dx.dic I
    obtain rfl : ov = Value.ref a := ro
    exact getItem_d I hd en ok ry ri hk (by omega) hg fun tk v uv r1 r2 => ⟨v, H, I.tok _, r1, q v r2⟩
  · intro x i d di r H Q hx hi e q
    cases d with
    | dict kvs =>
      have e : (if keyOk kvs di = true then dGet kvs di else none) = some r := e
      by_cases z : keyOk kvs di = true
      · rw [if_pos z] at e
        exact ⟨kvs, di, r, hx, hi.rep (keyOk.isSome z), z, e, fun v rv => q v rv⟩
      · rw [if_neg z] at e; cases e
    | _ => cases e
/-- an own exception class: its number c -/
structure ExF (K : PySem.W.Frag) (mg : Str → Option Value) (cl : Nat → Addr) (c : Nat) (x : Str) : Prop where
  g : mg x = some (.ref (cl c))
  q : PySem.W.excIn K (cl c) He.veBase "ValueError.__new__" = true
  kp : PySem.W.keepIn K (.ref (cl c)) = true
  be : PySem.W.subIn K (.ref (cl c)) (.type "BaseException") = some true
  ty : PySem.W.typeIn K (.ref (cl c)) = some (.type "type")
theorem exF_of {K : PySem.W.Frag} {h : Heap} {mg : Str → Option Value} {cl : Nat → Addr} {c : Nat} {x : Str} (X : K.In h) (G : h.Ns mainGlobals mg) (a : (He.Fa.glo x).ok K = true) (b : (He.Fa.exc x).ok K = true) (e : cl c = He.ga K x) : ExF K mg cl c x := by
  obtain ⟨b1, b2, b3, b4⟩ := He.exc_ok b
  rw [← e] at b1 b2 b3 b4
  exact ⟨by rw [e]; exact He.glo_ok X G a, b1, b2, b3, b4⟩
/-- raise X('m') -/
theorem s_raiseD {m : Str} {j : Nat} {p p2 pos' : Pos} (c : Nat) (hc : X.calm = true) (tk : Takes X W) (hg : Gl X x) (f : ExF X.K X.mg C.cl c x) (hdb : (x == ("__debug__" : Str)) = false := by decide) :
    PS X (.Raise (some (.Call (.Name x p) [.Constant (.str m) j p2] [] pos)) none pos') (tS C (gd X) W (mRaise c)) :=
  s_raise c hc tk (pmk_own PySem.F.excBase_ValueError f.q f.g f.kp (raises_own f.be f.ty) hg hdb)
/-- a look at a block's names -/
def blkC (N : List Str) (sc scope : Scope) (own : List (Str × Nat)) : Bool :=
  decide (scope.kind = .function) && (scope.names.all (fun y => decide (scope.names.lookup y.1 = some y.2)) && (own.all (fun p => decide (N[p.2]? = some p.1)) &&
    (scope.names.all (fun y => !decide (y.2 = .free) || (decide (sc.names.lookup y.1 = some .cell) || decide (sc.names.lookup y.1 = some .free))) &&
      scope.names.all (fun y => !(decide (y.2 = .local) || decide (y.2 = .cell)) || (decide (y.1 ∈ own.map (·.1)) || !decide (y.1 ∈ N))))))
theorem blk_by {N : List Str} {sc scope : Scope} {own : List (Str × Nat)} (h : blkC N sc scope own = true) : BlkOk N sc scope own := by
  unfold blkC at h
  simp only [Bool.and_eq_true, decide_eq_true_eq, List.all_eq_true, Bool.or_eq_true, Bool.not_eq_true', decide_eq_false_iff_not, Bool.or_eq_false_iff] at h
  obtain ⟨h1, h2, h3, h4, h5⟩ := h
  refine ⟨h1, h2, h3, fun y hy e => ?_, fun y hy e => ?_⟩
  · rcases h4 y hy with z | z
    · exact absurd e z
    · exact z
  · rcases h5 y hy with z | z
    · rcases e with e | e
      · exact absurd e z.1
      · exact absurd e z.2
    · exact z
def genC (N : List Str) (sc scope : Scope) (own : List (Str × Nat)) : Bool :=
  blkC N sc scope own && (!scope.isCoroutine && (scope.names.all (fun y => !decide (y.2 = .cell)) && decide (scope.names.lookup (Str.ofString ".0") = some NameKind.local)))
theorem gen_by {N : List Str} {sc scope : Scope} {own : List (Str × Nat)} (h : genC N sc scope own = true) : GenOk N sc scope own := by
  unfold genC at h
  simp only [Bool.and_eq_true] at h
  obtain ⟨h1, h2, h3, h4⟩ := h
  refine ⟨blk_by h1, by simpa using h2, fun y hy e => ?_, of_decide_eq_true h4⟩
  have := List.all_eq_true.mp h3 y hy
  simp [e] at this
end
end PV

set_option Elab.async false
set_option linter.all false
set_option maxRecDepth 100000
set_option maxHeartbeats 4000000
namespace PV
open PySem PySem.Spec PyProof.Rows L2
def intsD : List D → Option (List Int)
  | [] => some []
  | .int i :: r => (intsD r).map (i :: ·)
  | _ :: _ => none
theorem intsD_eq : ∀ {ds : List D} {ns : List Int}, intsD ds = some ns → ds = ns.map .int
  | [], ns, h => by cases h; rfl
  | d :: r, ns, h => by
    cases d with
    | int i =>
      unfold intsD at h
      cases z : intsD r with
      | none => rw [z] at h; cases h
      | some m => rw [z] at h; cases h; rw [intsD_eq z]; rfl
    | _ => cases h
theorem Reps.ints {G : Gd} {H : Hp} : ∀ {vs : List V} {ns : List Int}, Reps G H vs (ns.map .int) → vs = ns.map V.int
  | _, [], h => by cases h; rfl
  | _, n :: ns, h => by
    cases h with
    | cons a t => cases a; rw [Reps.ints t]; rfl
theorem Reps.ofInts {G : Gd} {H : Hp} : ∀ ns : List Int, Reps G H (ns.map V.int) (ns.map .int)
  | [] => .nil
  | n :: ns => .cons (.int n) (Reps.ofInts ns)
section
variable {X : Cx}
def gOnInts (f : List Int → Option Val) : D → Option Val
  | .list ds => (intsD ds).bind f
  | _ => none
theorem onInts {G : Gd} {H : Hp} {x : V} {dx : D} {f : List Int → Option Val} {r : Val} (hx : Dr G H x dx) (e : gOnInts f dx = some r) : ∃ a ns, x = .ref a ∧ SqL G.K H a (ns.map V.int) ∧ f ns = some r := by
  cases dx with
  | list ds =>
    have e : (intsD ds).bind f = some r := e
    cases z : intsD ds with
    | none => rw [z] at e; cases e
    | some ns =>
      rw [z] at e
      obtain ⟨a, vs, rfl, h1, r1⟩ := hx.lst
      rw [intsD_eq z] at r1
      rw [r1.ints] at h1
      exact ⟨a, ns, rfl, h1, e⟩
  | _ => cases e
def gSumL : D → Option Val := gOnInts fun ns => some (.d (.int ns.sum))
theorem sumL_ok (hc : X.calm = true) : CO X (.builtin "sum") (g1 gSumL) :=
  CO.of1 (rd := fun x H Q => ∃ (a : Addr) (ns : List Int), x = V.ref a ∧ SqL X.K H a (ns.map V.int) ∧ Q (.int ns.sum) H) (fun pins s σ H xs us Q I r ⟨x, e, a, ns, h, h2, q⟩ => cr_sum hc pins s σ H xs us Q I r ⟨a, ns, by rw [e, h], h2, q⟩) fun x dx H Q r hx e q => by
    obtain ⟨a, ns, rfl, h1, e⟩ := onInts hx e
    cases e
    exact ⟨a, ns, rfl, h1, q _ H (Same.refl H) (.int _)⟩
def maxI (ns : List Int) : Option Int := ns.max?
def gMaxL : D → Option Val := gOnInts fun ns => ns.max?.map fun i => .d (.int i)
theorem maxL_ok (hc : X.calm = true) : CO X (.builtin "max") (g1 gMaxL) :=
  CO.of1 (rd := fun x H Q => ∃ (a : Addr) (ns : List Int), x = V.ref a ∧ SqL X.K H a (ns.map V.int) ∧ 0 < ns.length ∧ ∀ m, m ∈ ns → (∀ y, y ∈ ns → y ≤ m) → Q (.int m) H) (fun pins s σ H xs us Q I r ⟨x, e, a, ns, h, h2, h3, q⟩ => cr_max hc pins s σ H xs us Q I r ⟨a, ns, by rw [e, h], h2, h3, q⟩) fun x dx H Q r hx e q => by
    obtain ⟨a, ns, rfl, h1, e⟩ := onInts hx e
    cases z : ns.max? with
    | none => rw [z] at e; cases e
    | some i =>
      rw [z] at e; cases e
      refine ⟨a, ns, rfl, h1, ?_, fun m hm hle => ?_⟩
      · cases ns with
        | nil => cases z
        | cons _ _ => exact Nat.succ_pos _
      · have hi := List.max?_eq_some_iff.mp z
        have : m = i := Int.le_antisymm (hi.2 m hm) (hle i hi.1)
        rw [this]
        exact q _ H (Same.refl H) (.int _)
def gMinL : D → Option Val := gOnInts fun ns => ns.min?.map fun i => .d (.int i)
theorem minL_ok (hc : X.calm = true) : CO X (.builtin "min") (g1 gMinL) :=
  CO.of1 (rd := fun x H Q => ∃ (a : Addr) (ns : List Int), x = V.ref a ∧ SqL X.K H a (ns.map V.int) ∧ 0 < ns.length ∧ ∀ m, m ∈ ns → (∀ y, y ∈ ns → m ≤ y) → Q (.int m) H) (fun pins s σ H xs us Q I r ⟨x, e, a, ns, h, h2, h3, q⟩ => cr_min hc pins s σ H xs us Q I r ⟨a, ns, by rw [e, h], h2, h3, q⟩) fun x dx H Q r hx e q => by
    obtain ⟨a, ns, rfl, h1, e⟩ := onInts hx e
    cases z : ns.min? with
    | none => rw [z] at e; cases e
    | some i =>
      rw [z] at e; cases e
      refine ⟨a, ns, rfl, h1, ?_, fun m hm hle => ?_⟩
      · cases ns with
        | nil => cases z
        | cons _ _ => exact Nat.succ_pos _
      · have hi := List.min?_eq_some_iff.mp z
        have : m = i := Int.le_antisymm (hle i hi.1) (hi.2 m hm)
        rw [this]
        exact q _ H (Same.refl H) (.int _)
def sortI (ns : List Int) : List Int := ns.mergeSort (fun a b => decide (a ≤ b))
theorem sortI_eq {ns ms : List Int} (h1 : ms.Perm ns) (h2 : ms.Pairwise (· ≤ ·)) : ms = sortI ns := by
  have p : (sortI ns).Perm ns := List.mergeSort_perm _ _
  have s : (sortI ns).Pairwise (fun a b => (decide (a ≤ b)) = true) := List.pairwise_mergeSort (fun a b c h1 h2 => by simp at *; omega) (fun a b => by simp; omega) ns
  refine List.Perm.eq_of_pairwise (le := fun a b : Int => a ≤ b) (fun a b _ _ h1 h2 => Int.le_antisymm h1 h2) h2 (s.imp fun {a b} h => of_decide_eq_true h) (h1.trans p.symm)
def gSortL : D → Option Val := gOnInts fun ns => some (.nw (.list ((sortI ns).map .int)))
theorem sortL_ok : CO X (.builtin "sorted") (g1 gSortL) :=
  CO.of1 (rd := fun x H Q => ∃ (a : Addr) (ns : List Int), x = V.ref a ∧ SqL X.K H a (ns.map V.int) ∧ ∀ (ns' : List Int) (p : Addr), ns'.Perm ns → ns'.Pairwise (· ≤ ·) → H p = none → Q (.ref p) (upd H p (.lst (ns'.map V.int)))) (fun pins s σ H xs us Q I r ⟨x, e, a, ns, h, h2, q⟩ => cr_sortedI pins s σ H xs us Q I r ⟨a, ns, by rw [e, h], h2, q⟩) fun x dx H Q r hx e q => by
    obtain ⟨a, ns, rfl, h1, e⟩ := onInts hx e
    cases e
    refine ⟨a, ns, rfl, h1, fun ms p hp hs hn => ?_⟩
    rw [sortI_eq hp hs]
    exact q _ _ (same_upd hn) (new_list hn (Reps.ofInts _))
/-- two values -/
def g2 (g : D → D → Option Val) (ds : List D) : Option Val := match ds with
  | [a, b] => g a b
  | _ => none
def gMax2 : D → D → Option Val
  | .int i, .int j => some (.d (.int (if j > i then j else i)))
  | _, _ => none
def gMin2 : D → D → Option Val
  | .int i, .int j => some (.d (.int (if j < i then j else i)))
  | _, _ => none
theorem two {G : Gd} {H : Hp} {xs : List V} {ds : List D} {g : D → D → Option Val} {r : Val} (hx : Drs G H xs ds) (e : g2 g ds = some r) : ∃ x y a b, xs = [x, y] ∧ Dr G H x a ∧ Dr G H y b ∧ g a b = some r := by
  cases hx with
  | nil => cases e
  | cons h t =>
    cases t with
    | nil => cases e
    | cons h' t' =>
      cases t' with
      | nil => exact ⟨_, _, _, _, rfl, h, h', e⟩
      | cons _ _ => cases e
theorem max2_ok (hc : X.calm = true) : CO X (.builtin "max") (g2 gMax2) := ⟨_, call_max2 hc, fun xs ds H Q r hx e q => by
  obtain ⟨x, y, a, b, rfl, h1, h2, e⟩ := two hx e
  cases a <;> cases b <;> cases e
  exact ⟨_, _, by rw [h1.int, h2.int], q _ H (Same.refl H) (.int _)⟩⟩
theorem min2_ok (hc : X.calm = true) : CO X (.builtin "min") (g2 gMin2) := ⟨_, call_min2 hc, fun xs ds H Q r hx e q => by
  obtain ⟨x, y, a, b, rfl, h1, h2, e⟩ := two hx e
  cases a <;> cases b <;> cases e
  exact ⟨_, _, by rw [h1.int, h2.int], q _ H (Same.refl H) (.int _)⟩⟩
theorem preSum_take {ns : List Int} : ∀ k : Nat, k ≤ ns.length → preSum (fun i => ns.getD i 0) k = (ns.take k).sum
  | 0, _ => by simp [preSum]
  | k + 1, h => by
    have lt : k < ns.length := h
    rw [show preSum (fun i => ns.getD i 0) (k + 1) = preSum (fun i => ns.getD i 0) k + ns.getD k 0 from rfl, preSum_take k (Nat.le_of_lt lt), L2.sum_take (List.getElem?_eq_getElem lt), List.getD_eq_getElem?_getD, List.getElem?_eq_getElem lt]
    rfl
theorem sum_tupRaw {P : Program} {w : World} {A : Around} {E : Value → Shared → Prop} {s : Shared} {l : Addr} {its : List Value} {ns : List Int} {Q : Value → Shared → Prop} (hh : A.handled = none) (hl : s.heap.IsTuple l its.toArray) (r : Vals (ns.map V.int) its)
    (h : ∀ h' tk t', (∀ b o, s.heap.get? b = some o → h'.get? b = some o) → Q (.int ns.sum t') { s with heap := h', toks := tk }) : wpAny (model P w) A (call (.builtin "sum") [.ref l]) Q E s := by
  have hlt : l < s.heap.objs.size := by obtain ⟨_, e, _⟩ := id hl; exact Heap.lt_size e
  have hlen : ns.length = its.length := by rw [← r.length, List.length_map]
  refine call_sum_walkG (wpAny_pyIter_tuple hl ⟨_, _, _, _, _, _, fun i => ns.getD i 0, rfl, Walks.tuple (A := A.in1) hh _ l (Nat.ne_of_lt hlt) its.toArray, ⟨⟨_, Heap.get?_push_size _ rfl, rfl, rfl⟩, hl.push _⟩, fun b hb => ?_, fun i v hv => ?_, fun h' tk t' hk => ?_⟩)
  · show b < (s.heap.push _).objs.size
    rw [Heap.size_push]
    rcases List.mem_cons.mp hb with e | hb
    · rw [e]; exact Nat.lt_succ_self _
    · rw [List.mem_singleton.mp hb]; exact Nat.lt_succ_of_lt hlt
  · have hv : its[i]? = some v := by rw [List.getElem?_toArray] at hv; exact hv
    have lt : i < ns.length := by rw [hlen]; exact (List.getElem?_eq_some_iff.mp hv).1
    obtain ⟨u, hu, ru⟩ := r.get (i := i) (x := .int ns[i]) (by rw [List.getElem?_map, List.getElem?_eq_getElem lt]; rfl)
    rw [hv] at hu; cases hu
    obtain ⟨t, e⟩ := ru
    refine ⟨t, ?_⟩
    rw [e]
    show Value.int ns[i] t = Value.int (ns.getD i 0) t
    rw [List.getD_eq_getElem?_getD, List.getElem?_eq_getElem lt]
    rfl
  · rw [preSum_take _ (by rw [List.size_toArray, hlen]; exact Nat.le_refl _), List.size_toArray, ← hlen, List.take_length]
    refine h h' tk t' fun b o e => hk b o ?_ (Heap.get?_push_of_some _ e)
    intro hb
    rw [List.mem_singleton.mp hb] at e
    exact absurd (Heap.lt_size e) (Nat.lt_irrefl _)
/-- sum of a list or a tuple of ints -/
def gSumQ : D → Option Val
  | .list ds => (intsD ds).map fun ns => .d (.int ns.sum)
  | .tuple ds => (intsD ds).map fun ns => .d (.int ns.sum)
  | _ => none
theorem sumQ_ok (hc : X.calm = true) : CO X (.builtin "sum") (g1 gSumQ) :=
  CO.of1 (rd := fun x H Q => ∃ (a : Addr) (ns : List Int), x = V.ref a ∧ (SqL X.K H a (ns.map V.int) ∨ SqT X.K H a (ns.map V.int)) ∧ Q (.int ns.sum) H) (fun pins s σ H xs us Q I r ⟨x, e, a, ns, h, h2, q⟩ => by
    rcases h2 with h2 | h2
    · exact cr_sum hc pins s σ H xs us Q I r ⟨a, ns, by rw [e, h], h2, q⟩
    · subst e h
      obtain ⟨its, rv, ht, _⟩ := I.tuple h2
      rw [Vals.ref1 r]
      exact sum_tupRaw (I.ok.hd hc) ht rv fun h' tk t' hk => ⟨.int _, H, I.kept hk, ⟨_, rfl⟩, q⟩) fun x dx H Q r hx e q => by
    cases dx with
    | list ds =>
      obtain ⟨a, ns, rfl, h1, e⟩ := onInts (f := fun ns => some (.d (.int ns.sum))) hx (show (intsD ds).bind (fun ns => some (Val.d (.int ns.sum))) = some r by
        have e : (intsD ds).map (fun ns => Val.d (.int ns.sum)) = some r := e
        cases z : intsD ds with
        | none => rw [z] at e; cases e
        | some ns => rw [z] at e; exact e)
      cases e
      exact ⟨a, ns, rfl, .inl h1, q _ H (Same.refl H) (.int _)⟩
    | tuple ds =>
      have e : (intsD ds).map (fun ns => Val.d (.int ns.sum)) = some r := e
      cases z : intsD ds with
      | none => rw [z] at e; cases e
      | some ns =>
        rw [z] at e; cases e
        obtain ⟨a, vs, rfl, h1, r1⟩ := hx.tup
        rw [intsD_eq z] at r1
        rw [r1.ints] at h1
        exact ⟨a, ns, rfl, .inr h1, q _ H (Same.refl H) (.int _)⟩
    | _ => cases e
end
end PV

set_option Elab.async false
set_option linter.all false
set_option maxRecDepth 100000
set_option maxHeartbeats 4000000
namespace PV
open PySem PySem.Spec PyProof.Rows L2
inductive PReps (G : Gd) (H : Hp) : List (V × V) → List (D × D) → Prop where
  | nil : PReps G H [] []
  | cons {k v : V} {dk dv : D} {ps : List (V × V)} {ds : List (D × D)} (hk : Rep G H k dk) (hv : Rep G H v dv) (t : PReps G H ps ds) : PReps G H ((k, v) :: ps) ((dk, dv) :: ds)
theorem PReps.mono {G : Gd} {H H' : Hp} (kp : Kp H H') : ∀ {ps : List (V × V)} {ds : List (D × D)}, PReps G H ps ds → PReps G H' ps ds
  | _, _, .nil => .nil
  | _, _, .cons a b t => .cons (a.mono kp) (b.mono kp) (PReps.mono kp t)
abbrev MPs := En → R (List (D × D))
def tPs (C : Cc) (G : Gd) (m : MPs) (σ : L2.St) (H : Hp) (Q : List (V × V) → Hp → Prop) : Prop := ∃ env, Rel G C env σ H ∧ match m env with
  | .ok ds e => ∀ ps H', PostE G C env σ H e H' → PReps G H' ps ds → Q ps H'
  | _ => False
abbrev RelP (p : V × V) (q : Value × Value) : Prop := RelV p.1 q.1 ∧ RelV p.2 q.2
/-- the pairs of a display -/
structure PPs (X : Cx) (ks : List (Option Expr)) (vs : List Expr) (C : Cc) (m : MPs) : Prop where
  some : ks.all (·.isSome) = true
  len : ks.length = vs.length
  run : ∀ (pos : Pos) (pins : List (Addr × Obj)) (s : Shared) (σ : L2.St) (H : Hp) (Q : List (V × V) → Hp → Prop), Inv X pins σ H s → tPs C (gd X) m σ H Q →
    wpAny (model X.prog X.w) X.A (evalPairs (pairTrees ks vs X.env pos)) (fun us s' => ∃ ps H', Inv X pins σ H' s' ∧ Paired RelP ps us ∧ Q ps H') X.xe s
def pNil : MPs := fun e => .ok [] e
def pCons (mk mv : ME) (mr : MPs) : MPs := fun env => (mk env).bind fun rk e1 => match frz1 rk e1 with
  | none => .stuck
  | some (dk, e2) => (mv e2).bind fun rv e3 => match frz1 rv e3 with
    | none => .stuck
    | some (dv, e4) => (mr e4).bind fun ds e5 => .ok ((dk, dv) :: ds) e5
section
variable {X : Cx} {C : Cc} {W : WX} {k v : Expr} {ks : List (Option Expr)} {vs : List Expr} {mk mv : ME} {mr : MPs}
theorem p_nil : PPs X [] [] C pNil := ⟨rfl, rfl, fun pos pins s σ H Q I ⟨env, q, h⟩ => pairTrees_nil_walk ⟨[], H, I, .nil, h [] H (.refl q) .nil⟩⟩
theorem p_cons (hk : PE X k (tE C (gd X) noW mk)) (hv : PE X v (tE C (gd X) noW mv)) (hr : PPs X ks vs C mr) : PPs X (some k :: ks) (v :: vs) C (pCons mk mv mr) := by
  refine ⟨by simp [hr.some], by simp [hr.len], fun pos pins s σ H Q I ⟨env, q, h⟩ => ?_⟩
  unfold pCons at h
  cases zk : mk env with
  | stuck => rw [zk] at h; exact h.elim
  | exc c e => rw [zk] at h; exact h.elim
  | ok rk e1 =>
    rw [zk] at h
    simp only [R.bind] at h
    cases fk : frz1 rk e1 with
    | none => simp only [fk] at h
    | some de =>
      obtain ⟨dk, e2⟩ := de
      simp only [fk] at h
      cases zv : mv e2 with
      | stuck => simp only [zv] at h
      | exc c e => simp only [zv] at h
      | ok rv e3 =>
        simp only [zv] at h
        cases fv : frz1 rv e3 with
        | none => simp only [fv] at h
        | some de' =>
          obtain ⟨dv, e4⟩ := de'
          simp only [fv] at h
          cases zr : mr e4 with
          | stuck => simp only [zr] at h
          | exc c e => simp only [zr] at h
          | ok ds e5 =>
            simp only [zr] at h
            refine pairTrees_cons_walk (thn ((e_frz hk).run pins s σ H (fun x H1 => PostE (gd X) C env σ H e2 H1 ∧ Rep (gd X) H1 x dk) I ⟨env, q, by rw [zk]; dsimp only; rw [fk]; exact fun x H1 p r => ⟨p, r⟩⟩) fun u1 s1 ⟨x1, H1, I1, r1, p1, rep1⟩ => ?_)
            refine thn ((e_frz hv).run pins s1 σ H1 (fun x H2 => PostE (gd X) C e2 σ H1 e4 H2 ∧ Rep (gd X) H2 x dv) I1 ⟨e2, p1.rel, by rw [zv]; dsimp only; rw [fv]; exact fun x H1 p r => ⟨p, r⟩⟩) fun u2 s2 ⟨x2, H2, I2, r2, p2, rep2⟩ => ?_
            refine thn (hr.run pos pins s2 σ H2 (fun ps H3 => PostE (gd X) C e4 σ H2 e5 H3 ∧ PReps (gd X) H3 ps ds) I2 ⟨e4, p2.rel, by rw [zr]; exact fun ps H3 p r => ⟨p, r⟩⟩) fun us s3 ⟨ps, H3, I3, r3, p3, reps⟩ => ?_
            exact ⟨(x1, x2) :: ps, H3, I3, .cons ⟨r1, r2⟩ r3, h _ H3 ((p1.trans p2).trans p3) (.cons ((rep1.mono (p2.toPost.kp p1.rel)).mono (p3.toPost.kp p2.rel)) (rep2.mono (p3.toPost.kp p2.rel)) reps)⟩
def dStore : List (D × D) → List (D × D) → Option (List (D × D))
  | kvs, [] => some kvs
  | kvs, (k, v) :: r => if keyOk kvs k = true ∧ kvs.length < sizeLine then dStore (dSet kvs k v) r else none
def mDict (ms : MPs) : ME := fun env => match ms env with
  | .ok ds e => match dStore [] ds with
    | some kvs => .ok (.nw (.dict kvs)) e
    | none => .stuck
  | _ => .stuck
theorem dok_nil : DOk [] := ⟨fun p h => by simp at h, ⟨false, fun p h => by simp at h⟩, List.nodup_nil⟩
/-- the pairs are stored into the new dict at a -/
theorem store_all {pins : List (Addr × Obj)} {σ : L2.St} {env e : En} {H0 : Hp} {a : Addr} {E : Value → Shared → Prop} {R' : Shared → Prop} (hu : X.A.units + 64 < cLine) (hn : H0 a = none) (hs : (a == sysModules) = false) :
    ∀ (ds : List (D × D)) (ps : List (V × V)) (us : List (Value × Value)) (kvs out : List (D × D)) (es : List DictEntry) (H : Hp) (s : Shared), Inv X pins σ H s → PostV (gd X) C [] env σ H0 e σ H → Paired RelP ps us → PReps (gd X) H ps ds →
      H a = some (.ext (DictIs a es)) → Ents (gd X) H es kvs → DOk kvs → kvs.length ≤ sizeLine → (¬ ∃ k, Held e σ k a) → dStore kvs ds = some out →
      (∀ H' s', Inv X pins σ H' s' → PostV (gd X) C [] env σ H0 e σ H' → Own (gd X) H' a (.dict out) → R' s') → wpAny (model X.prog X.w) X.A (storeAll a us) (fun _ s' => R' s') E s
  | [], ps, us, kvs, out, es, H, s, I, p, rp, pr, ha, en, ok, hz, nh, hd, hR => by
    cases pr
    cases rp
    cases hd
    unfold storeAll
    rw [List.forIn_nil]
    exact wpAny_pure (hR H s I p ⟨es, ha, en, ok, hz, hs⟩)
  | (dk, dv) :: ds, ps, us, kvs, out, es, H, s, I, p, rp, pr, ha, en, ok, hz, nh, hd, hR => by
    cases pr with
    | cons hk hv t =>
      cases rp with
      | cons r rt =>
        rename_i k v ps' uk us'
        obtain ⟨u1, u2⟩ := uk
        have hd : (if keyOk kvs dk = true ∧ kvs.length < sizeLine then dStore (dSet kvs dk dv) ds else none) = some out := hd
        by_cases z : keyOk kvs dk = true ∧ kvs.length < sizeLine
        case neg => rw [if_neg z] at hd; cases hd
        rw [if_pos z] at hd
        have hdi : DictIs a es s.heap := (show ObjOk X.prog X.w H s.heap a (.ext (DictIs a es)) from I.hok a _ ha).1
        have ow : Own (gd X) H a (.dict kvs) := ⟨es, ha, en, ok, hz, hs⟩
        unfold storeAll
        rw [List.forIn_cons]
        refine wpAny_bind (wpAny_bind (dictSet_ok I hdi en ok hk r.1 r.2 hv z.1 z.2 (by omega) fun h' tk es' a1 a2 a3 => wpAny_pure ?_))
        have := @dSet_len kvs dk dv
        exact store_all hu hn hs ds ps' us' (dSet kvs dk dv) out es' (upd H a (.ext (DictIs a es'))) _ (d_wr I ha a1 a3) (p.wrNew hn nh ow) rt (t.mono ow.kpw) upd_same (Ents.monoU ow a2) (dSet_ok ok z.1) (by omega) nh hd hR
theorem b_dict0 {pos : Pos} : PE X (.Dict [] [] pos) (tE C (gd X) W (mDict pNil)) := ⟨fun pins s σ H Q I ⟨env, q, h⟩ => by
  have hf : H s.heap.objs.size = none := I.hok.fresh (Nat.le_refl _)
  have hd : DictIs s.heap.objs.size [] (s.heap.push { cls := .type "dict", data := .dict #[] }) := ⟨_, 0, Heap.get?_push_size _ rfl, ⟨rfl, rfl, rfl⟩, rfl⟩
  have hs : (s.heap.objs.size == sysModules) = false := beq_eq_false_iff_ne.mpr (Ne.symm (Nat.ne_of_lt I.big))
  exact wpAny_Dict_empty ⟨.ref s.heap.objs.size, _, I.laid (a := s.heap.objs.size) (o := .ext (DictIs s.heap.objs.size [])) (t' := s.toks) (fun _ _ q => Heap.get?_push_of_some _ q) (Nat.le_refl _) ⟨hd, hd.ext⟩, rfl,
    h (.ref s.heap.objs.size) _ (PostE.same q (same_upd hf)) ⟨s.heap.objs.size, rfl, hf, [], upd_same, .nil, dok_nil, Nat.zero_le _, hs⟩⟩⟩
theorem b_dict {pos : Pos} (hu : X.A.units + 64 < cLine) (hp : PPs X ks vs C mr) (h0 : ks ≠ []) (hlen : ks.length ≤ 15) : PE X (.Dict ks vs pos) (tE C (gd X) W (mDict mr)) := ⟨fun pins s σ H Q I ⟨env, q, h⟩ => by
  have hf : H s.heap.objs.size = none := I.hok.fresh (Nat.le_refl _)
  have hd : DictIs s.heap.objs.size [] (s.heap.push { cls := .type "dict", data := .dict #[] }) := ⟨_, 0, Heap.get?_push_size _ rfl, ⟨rfl, rfl, rfl⟩, rfl⟩
  have hs : (s.heap.objs.size == sysModules) = false := beq_eq_false_iff_ne.mpr (Ne.symm (Nat.ne_of_lt I.big))
  have I1 := I.laid (h' := s.heap.push { cls := .type "dict", data := .dict #[] }) (a := s.heap.objs.size) (o := .ext (DictIs s.heap.objs.size [])) (t' := s.toks) (fun _ _ q => Heap.get?_push_of_some _ q) (Nat.le_refl _) ⟨hd, hd.ext⟩
  have p0 : PostE (gd X) C env σ H env (upd H s.heap.objs.size (.ext (DictIs s.heap.objs.size []))) := PostE.same q (same_upd hf)
  refine wpAny_Dict_any hp.some hp.len h0 hlen ?_
  unfold mDict at h
  cases z : mr env with
  | stuck => rw [z] at h; exact h.elim
  | exc c e => rw [z] at h; exact h.elim
  | ok ds e =>
    rw [z] at h
    dsimp only at h
    cases zd : dStore [] ds with
    | none => rw [zd] at h; exact h.elim
    | some out =>
      rw [zd] at h
      refine thn (hp.run pos pins _ σ _ (fun ps H2 => PostE (gd X) C env σ (upd H s.heap.objs.size (.ext (DictIs s.heap.objs.size []))) e H2 ∧ PReps (gd X) H2 ps ds) I1 ⟨env, p0.rel, by rw [z]; exact fun ps H2 p r => ⟨p, r⟩⟩) fun us s2 ⟨ps, H2, I2, rp, p1, pr⟩ => ?_
      have nh : ¬ ∃ k, Held env σ k s.heap.objs.size := fun hh => q.heldSome hh hf
      have ea : H2 s.heap.objs.size = some (.ext (DictIs s.heap.objs.size [])) := p1.keep _ _ upd_same (fun _ z => nomatch z) fun m => nh m.held
      have p2 : PostV (gd X) C [] env σ H e σ H2 := (p0.trans p1).toV
      refine store_all hu hf hs ds ps us [] out [] H2 s2 I2 p2 rp pr ea .nil dok_nil (Nat.zero_le _) (fun ⟨k, hk⟩ => nh ⟨k, p2.sub k _ hk⟩) zd fun H' s' I' p' ow => ?_
      exact ⟨.ref s.heap.objs.size, H', I', rfl, h (.ref s.heap.objs.size) H' { p'.toPost with sub := p'.sub } ⟨s.heap.objs.size, rfl, hf, ow⟩⟩⟩
end
end PV

set_option Elab.async false
set_option linter.all false
set_option maxRecDepth 100000
set_option maxHeartbeats 4000000
namespace PV
open PySem PySem.Spec PyProof.Rows L2
def pick {α : Type} (xs : List α) (idx : List Nat) : List α := idx.filterMap fun i => xs[i]?
def idxT (n : Nat) (lo hi : Option Int) (st : Int) : List Nat :=
  (List.range (Builtin.Slice.slicePlaces (Builtin.Slice.sliceAdjust lo hi st n).1 (Builtin.Slice.sliceAdjust lo hi st n).2 st)).map fun (k : Nat) => ((Builtin.Slice.sliceAdjust lo hi st n).1 + (k : Int) * st).toNat
def idxL (n : Nat) (lo hi : Option Int) (st : Int) : List Nat := sliceRange (sliceBounds lo hi (some st) n).1 (sliceBounds lo hi (some st) n).2.1 (sliceBounds lo hi (some st) n).2.2
theorem vals_pick {xs : List V} {us : List Value} (r : Vals xs us) : ∀ idx : List Nat, Vals (pick xs idx) (pick us idx)
  | [] => .nil
  | i :: idx => by
    unfold pick
    rw [List.filterMap_cons, List.filterMap_cons]
    cases z : xs[i]? with
    | none =>
      rw [r.none_of z]
      exact vals_pick r idx
    | some x =>
      obtain ⟨u, hu, ru⟩ := r.get z
      rw [hu]
      exact .cons ru (vals_pick r idx)
theorem reps_pick {G : Gd} {H : Hp} {vs : List V} {ds : List D} (r : Reps G H vs ds) : ∀ idx : List Nat, Reps G H (pick vs idx) (pick ds idx)
  | [] => .nil
  | i :: idx => by
    unfold pick
    rw [List.filterMap_cons, List.filterMap_cons]
    cases z : ds[i]? with
    | none =>
      have : vs[i]? = none := by
        rw [List.getElem?_eq_none_iff] at z ⊢
        rw [r.length]; exact z
      rw [this]
      exact reps_pick r idx
    | some x =>
      obtain ⟨v, hv, rv⟩ := r.getD z
      rw [hv]
      exact .cons rv (reps_pick r idx)
section
variable {prog : Program} {w : World} {A : Around} {E : Value → Shared → Prop} {s : Shared}
theorem applied3 {sl : Addr} {vl vu vt : Value} {lo hi : Option Int} {st : Int} {n : Nat} {Q : Int × Int × Nat → Shared → Prop} (hs : s.heap.IsSliceOf sl vl vu vt) (pl : IsPart vl lo) (pu : IsPart vu hi) (pt : IsPart vt (some st)) (h0 : st ≠ 0)
    (h : Q ((Builtin.Slice.sliceAdjust lo hi st n).1, st, Builtin.Slice.slicePlaces (Builtin.Slice.sliceAdjust lo hi st n).1 (Builtin.Slice.sliceAdjust lo hi st n).2 st) s) : wpAny (model prog w) A (Builtin.Slice.sliceApplied (.ref sl) (pure (n : Int))) Q E s := by
  obtain ⟨os, hos, hcs, hds⟩ := id hs
  unfold Builtin.Slice.sliceApplied Builtin.Slice.sliceFields
  refine wpAny_bind (wpAny_bind (wpAny_field hos hds (x := vl) rfl (wpAny_bind (wpAny_field hos hds (x := vu) rfl (wpAny_bind (wpAny_field hos hds (x := vt) rfl (wpAny_pure ?_)))))))
  refine wpAny_bind (HT.slicePart_ pt ?_)
  show wpAny _ _ (if (st == 0) = true then _ else _) _ _ s
  rw [if_neg (by simpa using h0)]
  refine wpAny_bind (HT.slicePart_ pl (wpAny_bind (HT.slicePart_ pu (wpAny_bind (wpAny_pure ?_)))))
  exact wpAny_pure h
theorem getTup3 {t sl : Addr} {items : Array Value} {vl vu vt : Value} {lo hi : Option Int} {st : Int} {Q : Value → Shared → Prop} (ht : IsTup s.heap t items) (hs : s.heap.IsSliceOf sl vl vu vt) (pl : IsPart vl lo) (pu : IsPart vu hi) (pt : IsPart vt (some st)) (h0 : st ≠ 0) (h1 : st ≠ 1)
    (hz : (pick items.toList (idxT items.size lo hi st)).length ≤ sizeLine)
    (h : Q (.ref s.heap.objs.size) { s with heap := s.heap.push { cls := .type "tuple", data := .seq (pick items.toList (idxT items.size lo hi st)).toArray } }) : wpAny (model prog w) A (getItem (.ref t) (.ref sl)) Q E s := by
  have htake : sizeOk (.seq (pick items.toList (idxT items.size lo hi st)).toArray) := by
    show (pick items.toList (idxT items.size lo hi st)).toArray.size ≤ sizeLine
    rw [List.size_toArray]; exact hz
  obtain ⟨os, hos, hcs, hds⟩ := id hs
  have hTs : s.TypeIs (.ref sl) "slice" := ⟨os, hos, hcs⟩
  unfold getItem
  try with_reducible refine wpAny_holding ?_
  first | refine wpAny_bind (wpAny_pure ?_) | skip
  refine wpAny_bind (wpAny_sequenceKey ht.typeIs (by decide) ?_)
  refine wpAny_bind (wpAny_callSpecial?_slot (name := Str.ofString "__getitem__") ht.typeIs PyProof.Rows.slot_tuple_getitem
    (wpAny_call_entry PyProof.Rows.slot_tuple_getitem ht.typeIs entry_tuple_getitem ?_ (args_tuple_getitem _ _)))
  show wpAny _ _ (Builtin.Tuple.tupleItemsOf (.ref t) >>= _) _ _ s
  refine wpAny_bind (tupleItemsOf_ ht ?_)
  refine wpAny_bind (wpAny_typeOf hTs ?_)
  rw [if_pos (by decide)]
  refine wpAny_bind (applied3 hs pl pu pt h0 ?_)
  have hno : ∀ (a b : Bool), ¬ ((a && st == 1 && b) = true) := fun a b q => by
    rw [Bool.and_eq_true, Bool.and_eq_true] at q
    exact h1 (eq_of_beq q.1.2)
  show wpAny _ _ (if (_ && st == 1 && _) = true then _ else _) _ _ s
  rw [if_neg (hno _ _)]
  have e : ((List.range (Builtin.Slice.slicePlaces (Builtin.Slice.sliceAdjust lo hi st items.size).1 (Builtin.Slice.sliceAdjust lo hi st items.size).2 st)).filterMap fun (k : Nat) => items[((Builtin.Slice.sliceAdjust lo hi st items.size).1 + (k : Int) * st).toNat]?).toArray = (pick items.toList (idxT items.size lo hi st)).toArray := by
    unfold pick idxT
    rw [List.filterMap_map]
    congr 2
    funext k
    show _ = items.toList[_]?
    rw [Array.getElem?_toList]
  rw [e]
  first
    | exact wpAny_bind (m := Builtin.Tuple.tupleExact _) (wpAny_newObj_type (wpAny_pure ⟨_, rfl, wpAny_pure h⟩) htake)
    | exact wpAny_bind (m := Builtin.Tuple.tupleExact _) (wpAny_newObj_type (wpAny_bind (wpAny_pure (wpAny_pure ⟨_, rfl, wpAny_pure h⟩))) htake)
    | exact wpAny_bind (wpAny_bind (m := Builtin.Tuple.tupleExact _) (wpAny_newObj_type (wpAny_pure (wpAny_pure ⟨_, rfl, wpAny_pure h⟩)) htake))
    | exact wpAny_bind (wpAny_bind (m := Builtin.Tuple.tupleExact _) (wpAny_newObj_type (wpAny_pure ⟨_, rfl, wpAny_pure h⟩) htake))
end
section
variable {X : Cx}
def SlR3 (X : Cx) (r : V → Option Int → Option Int → Option Int → Hp → VK → Prop) : Prop :=
  ∀ (pins : List (Addr × Obj)) (s : Shared) (σ : L2.St) (H : Hp) (x : V) (v vl vu vt : Value) (lo hi st : Option Int) (sl : Addr) (Q : VK), Inv X pins σ H s → RelV x v → s.heap.IsSliceOf sl vl vu vt → IsPart vl lo → IsPart vu hi → IsPart vt st → r x lo hi st H Q →
    ∃ T id, typeLookup (.type T) "__getitem__" = pure (some (.builtin id)) ∧ s.TypeIs v T ∧ wpAny (model X.prog X.w) X.A (getItem v (.ref sl)) (EP X pins σ Q) X.xe s
def tSl3 (r : V → Option Int → Option Int → Option Int → Hp → VK → Prop) (te : TE) (tl th tt : TO) : TE := fun σ H Q => te σ H fun x H1 => tl σ H1 fun l H2 => th σ H2 fun u H3 => tt σ H3 fun t H4 => r x l u t H4 Q
theorem pe_slice3 {r : V → Option Int → Option Int → Option Int → Hp → VK → Prop} {e st : Expr} {lo hi : Option Expr} {te : TE} {tl th tt : TO} {p2 pos : Pos} (hr : SlR3 X r) (he : PE X e te) (hl : PO X lo tl) (hu : PO X hi th) (ht : PO X (some st) tt) : PE X (.Subscript e (.Slice lo hi (some st) p2) pos) (tSl3 r te tl th tt) := by
  refine ⟨fun pins s σ H Q I h => ?_⟩
  refine Subscript_ (thn (he.run pins s σ H _ I h) fun v s1 ⟨x, H1, I1, r1, q1⟩ => ?_)
  refine wpAny_Slice (thn (hl.run pins s1 σ H1 _ I1 q1) fun vl s2 ⟨l, H2, I2, pl, q2⟩ => thn (hu.run pins s2 σ H2 _ I2 q2) fun vu s3 ⟨u, H3, I3, pu, q3⟩ => thn (ht.run pins s3 σ H3 _ I3 q3) fun vt s4 ⟨t, H4, I4, pt, q4⟩ => ?_)
  have I5 : Inv X pins σ H4 { s4 with heap := s4.heap.push { cls := .type "slice", data := .fields #[vl, vu, vt] } } := I4.kept (t' := s4.toks) fun b ob q => Heap.get?_push_of_some _ q
  obtain ⟨T, id, hT, ht, hg⟩ := hr pins { s4 with heap := s4.heap.push { cls := .type "slice", data := .fields #[vl, vu, vt] } } σ H4 x v vl vu vt l u t s4.heap.objs.size Q I5 r1 (Heap.IsSliceOf.new ..) pl pu pt q4
  show wpAny (model X.prog X.w) X.A (subscriptTail e (.Slice lo hi (some st) p2) v (.ref s4.heap.objs.size)) (EP X pins σ Q) X.xe { s4 with heap := s4.heap.push { cls := .type "slice", data := .fields #[vl, vu, vt] } }
  exact tail_any (ops := [v, .ref s4.heap.objs.size]) ht hT hg (by with_unfolding_all rfl)
def gSl3 (d : D) (lo hi st : Option Int) : Option Val := match d, st with
  | .tuple ds, some t => if t ≠ 0 ∧ t ≠ 1 ∧ (pick ds (idxT ds.length lo hi t)).length ≤ sizeLine then some (.d (.tuple (pick ds (idxT ds.length lo hi t)))) else none
  | .list ds, some t => if t ≠ 0 ∧ (pick ds (idxL ds.length lo hi t)).length ≤ sizeLine then some (.nw (.list (pick ds (idxL ds.length lo hi t)))) else none
  | _, _ => none
def rSl3 (X : Cx) : V → Option Int → Option Int → Option Int → Hp → VK → Prop := fun x lo hi st H Q => ∃ d r, Dr (gd X) H x d ∧ gSl3 d lo hi st = some r ∧ ∀ v H', Same H H' → RV (gd X) H H' v r → Q v H'
theorem sl3 : SlR3 X (rSl3 X) := by
  rintro pins s σ H x v vl vu vt lo hi st sl Q I rx hs pl pu pt ⟨d, r, dr, e, q⟩
  cases st with
  | none => cases d <;> cases e
  | some t =>
    cases d with
    | tuple ds =>
      have e : (if t ≠ 0 ∧ t ≠ 1 ∧ (pick ds (idxT ds.length lo hi t)).length ≤ sizeLine then some (Val.d (.tuple (pick ds (idxT ds.length lo hi t)))) else none) = some r := e
      by_cases z : t ≠ 0 ∧ t ≠ 1 ∧ (pick ds (idxT ds.length lo hi t)).length ≤ sizeLine
      case neg => rw [if_neg z] at e; cases e
      rw [if_pos z] at e
      cases e
      obtain ⟨a, vs, rfl, h1, r1⟩ := dr.tup
      obtain rfl : v = Value.ref a := rx
      obtain ⟨its, rv, ht, hz⟩ := I.tuple h1
      have hl : its.toArray.size = ds.length := by rw [List.size_toArray, ← rv.length, r1.length]
      have rp := reps_pick r1 (idxT ds.length lo hi t)
      have vp := vals_pick rv (idxT ds.length lo hi t)
      refine ⟨"tuple", _, PyProof.Rows.slot_tuple_getitem.lookup, ht.typeIs, getTup3 ht hs pl pu pt z.1 z.2.1 ?_ ?_⟩
      · rw [hl, ← vp.length, rp.length]; exact z.2.2
      · rw [hl]
        refine ⟨.ref s.heap.objs.size, _, laidU I vp (by rw [rp.length]; exact z.2.2), rfl, ?_⟩
        have hn := I.hok.fresh (Nat.le_refl s.heap.objs.size)
        exact q _ _ (same_upd hn) (new_tup hn rp)
    | list ds =>
      have e : (if t ≠ 0 ∧ (pick ds (idxL ds.length lo hi t)).length ≤ sizeLine then some (Val.nw (.list (pick ds (idxL ds.length lo hi t)))) else none) = some r := e
      by_cases z : t ≠ 0 ∧ (pick ds (idxL ds.length lo hi t)).length ≤ sizeLine
      case neg => rw [if_neg z] at e; cases e
      rw [if_pos z] at e
      cases e
      obtain ⟨a, vs, rfl, h1, r1⟩ := dr.lst
      obtain rfl : v = Value.ref a := rx
      obtain ⟨its, rv, ht, hz⟩ := I.list h1
      have hl : its.toArray.size = ds.length := by rw [List.size_toArray, ← rv.length, r1.length]
      have rp := reps_pick r1 (idxL ds.length lo hi t)
      have vp := vals_pick rv (idxL ds.length lo hi t)
      have ep : slicePick its.toArray lo hi (some t) = (pick its (idxL ds.length lo hi t)).toArray := by
        unfold slicePick pick idxL
        rw [hl]
        congr 2
        funext i
        rw [List.getElem?_toArray]
      refine ⟨"list", _, slot_list_getitem.lookup, ht.isList.typeIs, wpAny_getItem_list_slice ht.isList hs pl pu pt (by simpa using z.1) ?_ (by rw [hl, ← r1.length]; exact hz)⟩
      rw [ep]
      refine ⟨.ref s.heap.objs.size, _, I.laid (t' := s.toks) (o := .lst (pick vs (idxL ds.length lo hi t))) (fun b ob q => Heap.get?_push_of_some _ q) (Nat.le_refl _) ⟨by rw [rp.length]; exact z.2, _, 0, vp, Heap.get?_push_size _ rfl⟩, rfl, ?_⟩
      have hn := I.hok.fresh (Nat.le_refl s.heap.objs.size)
      exact q _ _ (same_upd hn) (new_list hn rp)
    | _ => cases e
end
def mSl3 (m : ME) (lo hi st : MO) : ME := fun env => (m env).bind fun r e => (lo e).bind fun l e2 => (hi e2).bind fun u e3 => (st e3).bind fun t e4 => match deref e4 r with
  | some d => fin e4 (gSl3 d l u t)
  | none => .stuck
section
variable {X : Cx} {C : Cc} {W : WX} {a st : Expr} {m : ME} {lo hi : Option Expr} {ml mh mt : MO} {pos p2 : Pos}
theorem b_sl3 (ha : PE X a (tE C (gd X) W m)) (hl : PO X lo (tO C (gd X) W ml)) (hh : PO X hi (tO C (gd X) W mh)) (ht : PO X (some st) (tO C (gd X) W mt)) : PE X (.Subscript a (.Slice lo hi (some st) p2) pos) (tE C (gd X) W (mSl3 m ml mh mt)) :=
  (pe_slice3 sl3 ha hl hh ht).imp fun σ H Q ⟨env, q, h⟩ => ⟨env, q, tK_mono (tK_E (.refl q) h) fun x H1 ⟨r, e1, _, p1, vr, h1⟩ => ⟨e1, p1.rel, tK_mono (tK_O p1 h1) fun o H2 ⟨o', e2, i2, p2, eo, h2⟩ => by
    cases eo
    refine ⟨e2, p2.rel, tK_mono (tK_O p2 h2) fun u H3 ⟨u', e3, i3, p3, ur, h3⟩ => ?_⟩
    cases ur
    refine ⟨e3, p3.rel, tK_mono (tK_O p3 h3) fun t H4 ⟨t', e4, i4, p4, tr, h4⟩ => ?_⟩
    cases tr
    have vr4 : ValRel (gd X) H e4 σ H4 x r := ((vr.post p1.rel (p1.noHeld q) i2.toPost).post p2.rel (p2.noHeld q) i3.toPost).post p3.rel (p3.noHeld q) i4.toPost
    cases z : deref e4 r with
    | none => rw [z] at h4; exact h4.elim
    | some d =>
      rw [z] at h4
      have dr := deref_ok p4.rel vr4 z
      obtain ⟨r0, e0, k⟩ := fin_ok p4 h4
      exact ⟨d, r0, dr, e0, k⟩⟩⟩
end
end PV

set_option Elab.async false
set_option linter.all false
set_option maxRecDepth 100000
set_option maxHeartbeats 4000000
namespace PV
open PySem PySem.Spec PyProof.Rows L2
def cntD (ds : List D) (d : D) : Option D := if SeqAt.shaped (.list ds) = true ∧ SeqAt.shaped d = true then some (.int ((ds.countP fun y => PyData.eqv y d : Nat) : Int)) else none
def gCntT : D → List D → Option D
  | .tuple ds, [d] => cntD ds d
  | _, _ => none
def gCntL : D → List D → Option D
  | .list ds, [d] => cntD ds d
  | _, _ => none
section
variable {X : Cx}
theorem cnt_map {h : Heap} {ds : List D} {its : List Value} {d : D} (e : its.map (SeqAt.readOf h) = ds) : (its.countP fun u => PyData.eqv (SeqAt.readOf h u) d) = ds.countP fun y => PyData.eqv y d := by
  rw [← e, List.countP_map]
  rfl
def rCntT (X : Cx) : V → List V → Hp → VK → Prop := fun x xs H Q => ∃ ds d y, xs = [y] ∧ Dr (gd X) H x (.tuple ds) ∧ Rep (gd X) H y d ∧ SeqAt.shaped (.list ds) = true ∧ SeqAt.shaped d = true ∧ Q (.int ((ds.countP fun y => PyData.eqv y d : Nat) : Int)) H
theorem mt_cntT (hu : X.A.units + 65 < cLine) : MtR X "tuple.count" (rCntT X) := by
  rintro pins s σ H x xs v us Q I rx rxs ⟨ds, d, y, rfl, dx, ry, sl, sd, q⟩
  obtain ⟨a, vs, rfl, h1, r1⟩ := dx.tup
  cases rx
  obtain ⟨uy, rfl, ru⟩ := vals1 rxs
  have hxs : PyData.canLayAll0 ds = true := SeqAt.canLay_of_shaped sl
  have hroom : X.A.units + 1 + min (PyData.depthAll ds) d.depth < cLine := room_in_shaped sd hu
  obtain ⟨its, rv, ⟨⟨cls, dd, data, sls⟩, ho, hc, n, hdt⟩, hlen⟩ := I.tuple h1
  simp only at hc hdt
  subst hc hdt
  obtain ⟨bs, q1⟩ := Dp.reads I d y uy (Rep.dp ry (SeqAt.canLay_of_shaped sd)) ru
  obtain ⟨as, q2⟩ := Dp.readsAll I ds _ its (Reps.dp r1 hxs) rv
  have hmap : its.map (SeqAt.readOf s.heap) = ds := SeqAt.readsAll_map ds its as hxs q2
  refine call_meets PySem.F.slot_tuple_count ⟨_, ho, rfl⟩ PySem.F.entry_tuple_count (PySem.F.args_tuple_count_2 _ _)
    (SeqAt.tuple_countAt a its.toArray n dd sls uy fun u => PyData.eqv (SeqAt.readOf s.heap u) d) ⟨ho, SeqAt.items_eqAt (vs := its.toArray) (show ReadsAll s.heap its.toArray.toList ds as from q2) q1 hxs (SeqAt.canLay_of_shaped sd) hroom, ?_⟩
  refine ⟨.int ((ds.countP fun y => PyData.eqv y d : Nat) : Int), H, I.tok _, ⟨s.toks, ?_⟩, q⟩
  rw [← cnt_map hmap]
theorem cntT_ok (hu : X.A.units + 65 < cLine) : RO X "tuple.count" gCntT := ⟨_, mt_cntT hu, fun x d vs ds H Q r dx rs e q => by
  cases d with
  | tuple zs =>
    cases rs with
    | nil => cases e
    | cons h t =>
      cases t with
      | cons _ _ => cases e
      | nil =>
        rename_i y d
        have e : (if SeqAt.shaped (.list zs) = true ∧ SeqAt.shaped d = true then some (PyData.int ((zs.countP fun y => PyData.eqv y d : Nat) : Int)) else none) = some r := e
        by_cases z : SeqAt.shaped (.list zs) = true ∧ SeqAt.shaped d = true
        · rw [if_pos z] at e; cases e
          exact ⟨zs, d, y, rfl, dx, h, z.1, z.2, q _ (.int _)⟩
        · rw [if_neg z] at e; cases e
  | _ => cases e⟩
end
end PV

set_option Elab.async false
set_option linter.all false
set_option maxRecDepth 100000
set_option maxHeartbeats 4000000
namespace PV
open PySem PySem.Spec PyProof.Rows L2
section
variable {X : Cx} {C : Cc} {i : Nat} {n y : Str} {res : Nat → Option D}
/-- return [no, yes][int(isinstance(n, y))], all exceptions of y's class -/
theorem su_pick {D' : Addr} {no yes : Str} {j1 j2 : Nat} {p1 p2 p3 p4 p5 p6 p7 p8 p9 p10 p11 : Pos}
    (hN : X.N[i]? = some n) (hv : Vis X.env.scope n) (hnd : (n == ("__debug__" : Str)) = false) (hnc : (n == ("__classdict__" : Str)) = false)
    (gi : Gl X "int") (gs : Gl X "isinstance") (gy : Gl X y) (mi : X.mg "int" = none) (ms : X.mg "isinstance" = none) (my : X.mg y = some (.ref D')) (hyd : (y == ("__debug__" : Str)) = false)
    (hcl : ∀ c d, res c = some d → d = .str yes ∧ ExcC X.K (C.cl c) ∧ PySem.W.kitOne X.K (.ref (C.cl c)) (.ref D') = some true) :
    Suite X C i [.Return (some (.Subscript (.List [.Constant (.str no) j1 p1, .Constant (.str yes) j2 p2] p3) (.Call (.Name "int" p4) [.Call (.Name "isinstance" p5) [.Name n p6, .Name y p7] [] p8] [] p9) p10)) p11] res := by
  intro a c d oe pns hr hz hf
  obtain ⟨rfl, ec, hk⟩ := hcl c d hr
  have qn : PE (X.suite a ((a, oe) :: pns)) (.Name n p6) (tVar i) := pe_var hN hv hnd hnc
  have qy : PE (X.suite a ((a, oe) :: pns)) (.Name y p7) (tC (.ref D')) := pe_glob gy my rfl hyd
  have b1 : bootBuiltins "isinstance" = some (.builtin "isinstance") := by decide +kernel
  have b2 : bootBuiltins "int" = some (.type "int") := by decide +kernel
  have q1 : PE (X.suite a ((a, oe) :: pns)) (.Call (.Name "isinstance" p5) [.Name n p6, .Name y p7] [] p8) _ := pe_callB (call_isE ec hz hf) gs ms b1 (pa_cons qn (pa_cons qy pa_nil))
  have q2 : PE (X.suite a ((a, oe) :: pns)) (.Call (.Name "int" p4) [.Call (.Name "isinstance" p5) [.Name n p6, .Name y p7] [] p8] [] p9) _ := pe_callTy call_int1 gi mi b2 (pa_cons q1 pa_nil)
  have q3 : PE (X.suite a ((a, oe) :: pns)) (.List [.Constant (.str no) j1 p1, .Constant (.str yes) j2 p2] p3) _ := pe_lst (pa_cons pe_str (pa_cons pe_str pa_nil))
  have q4 := pss_one (ps_ret (pos := p11) (pe_ix (pos := p10) ix_list q3 q2 (by intro _ _; rfl)))
  refine q4.imp fun D σ H ⟨hs, hq⟩ => ?_
  refine ⟨by rw [sizeLine_eq]; exact Nat.le_of_ble_eq_true rfl, fun p hp => ?_⟩
  refine ⟨.ref a, hs, .ref D', .ref D', true, rfl, fun u r => r, hk, .inr ⟨true, rfl, ?_⟩⟩
  exact ⟨p, [.str no, .str yes], 1, .str yes, rfl, rfl, .inl (.inl (by simp [upd])), rfl, hq _ _ (same_upd hp) (.str _)⟩
end
end PV
namespace PV
open PySem PySem.Spec PyProof.Rows L2
/-- a look at an exception class: isinstance asks its instances rightly -/
def excCB (K : PySem.W.Frag) (D : Addr) : Bool :=
  He.eqO (PySem.W.findIn K (.ref D) "__getattribute__") (some (some (.builtin "BaseException.__getattribute__"))) && (He.eqO (PySem.W.findIn K (.ref D) "__getattr__") (some none) && (decide (PySem.W.subIn K (.ref D) (.type "BaseException") = some true) && (PySem.W.hasDictIn K D &&
    (He.eqO (PySem.W.findIn K (.ref D) "__class__") (some (some (.builtin "object.__class__"))) && (He.eqO (PySem.W.specialIn K (.builtin "object.__class__") "__get__") (some (some (.builtin "getset_descriptor.__get__"))) && (decide (PySem.W.takesIn K (.builtin "object.__class__") = some true) && decide (PySem.W.mroIn K D (.type "object") = some true)))))))
theorem excCB_ok {K : PySem.W.Frag} {D : Addr} (h : excCB K D = true) : ExcC K D := by
  unfold excCB at h
  simp only [Bool.and_eq_true, decide_eq_true_eq] at h
  obtain ⟨h1, h2, h3, h4, h5, h6, h7, h8⟩ := h
  exact ⟨He.eqO_ok h1, He.eqO_ok h2, h3, h4, He.eqO_ok h5, He.eqO_ok h6, h7, h8⟩
def kitB1 (K : PySem.W.Frag) (D D' : Addr) (b : Bool) : Bool := decide (PySem.W.kitOne K (.ref D) (.ref D') = some b)
theorem kitB1_ok {K : PySem.W.Frag} {D D' : Addr} {b : Bool} (h : kitB1 K D D' b = true) : PySem.W.kitOne K (.ref D) (.ref D') = some b := of_decide_eq_true h
/-- the script's bits as a bound -/
theorem bits_pow {i : Int} (h : Builtin.Int.intBits i ≤ 1048576) : i.natAbs < 2 ^ 1048576 := by
  by_cases z : i = 0
  · subst z; exact Nat.two_pow_pos _
  · unfold Builtin.Int.intBits at h
    have hz : i.natAbs ≠ 0 := by omega
    have : i.natAbs.log2 < 1048576 := by
      first
        | (simp [z] at h; omega)
        | (split at h <;> omega)
    exact (Nat.log2_lt hz).mp this
end PV
namespace PV
open PySem PySem.Spec PyProof.Rows L2
theorem noCX {P : Program} (w : World) (H : Hp) (s : Shared) (e : Value) (s' : Shared) (h : L2.CX P w [] H s (fun _ _ _ => False) e s') : False := by
  obtain ⟨_, _, _, h⟩ := h
  first | exact h | exact h.elim | exact h.1.elim | simp_all
end PV

set_option Elab.async false
set_option linter.all false
set_option maxRecDepth 100000
set_option maxHeartbeats 4000000
namespace PV
open PySem PySem.Spec PyProof.Rows L2

/-- ends well, and then -/
def Sat0 {α : Type} (x : R α) (P : α → En → Prop) : Prop := match x with
  | .ok a e => P a e
  | _ => False
/-- the same, closed: no reckoning goes on within it -/
structure Sat {α : Type} (x : R α) (P : α → En → Prop) : Prop where
  run : Sat0 x P
theorem sat_ok {α : Type} {a : α} {e : En} {P : α → En → Prop} : Sat (R.ok a e) P = P a e := propext ⟨fun h => h.run, fun h => ⟨h⟩⟩
theorem Sat.ok {α : Type} {a : α} {e : En} {P : α → En → Prop} (h : P a e) : Sat (R.ok a e) P := ⟨h⟩
theorem sat_st {α : Type} {P : α → En → Prop} : Sat (R.stuck : R α) P = False := propext ⟨fun h => h.run, fun h => ⟨h⟩⟩
theorem sat_ex {α : Type} {P : α → En → Prop} {c : Nat} {e : En} : Sat (R.exc c e : R α) P = False := propext ⟨fun h => h.run, fun h => ⟨h⟩⟩
theorem Sat.mono {α : Type} {x : R α} {P Q : α → En → Prop} (h : Sat x P) (q : ∀ a e, P a e → Q a e) : Sat x Q := by
  cases x with
  | ok a e => exact ⟨q a e h.run⟩
  | stuck => exact h.run.elim
  | exc c e => exact h.run.elim
theorem Sat.eq {α : Type} {x : R α} {P : α → En → Prop} (h : Sat x P) : ∃ a e, x = .ok a e ∧ P a e := by
  cases x with
  | ok a e => exact ⟨a, e, rfl, h.run⟩
  | stuck => exact h.run.elim
  | exc c e => exact h.run.elim
theorem Sat.of {α : Type} {x : R α} {P : α → En → Prop} {a : α} {e : En} (h : x = .ok a e) (p : P a e) : Sat x P := by rw [h]; exact ⟨p⟩
theorem sat_bind {α β : Type} {x : R α} {f : α → En → R β} {P : β → En → Prop} : Sat (x.bind f) P = Sat x (fun a e => Sat (f a e) P) := by
  cases x with
  | ok a e => exact propext ⟨fun h => ⟨⟨h.run⟩⟩, fun h => ⟨h.run.run⟩⟩
  | stuck => exact propext ⟨fun h => h.run.elim, fun h => h.run.elim⟩
  | exc c e => exact propext ⟨fun h => h.run.elim, fun h => h.run.elim⟩
theorem bind_ok {α β : Type} {a : α} {e : En} {f : α → En → R β} : (R.ok a e).bind f = f a e := (rfl)
theorem bind_exc {α β : Type} {c : Nat} {e : En} {f : α → En → R β} : (R.exc c e : R α).bind f = .exc c e := (rfl)
theorem bind_stuck {α β : Type} {f : α → En → R β} : (R.stuck : R α).bind f = .stuck := (rfl)
theorem bind_ite {α β : Type} {p : Prop} [Decidable p] {x y : R α} {f : α → En → R β} : (if p then x else y).bind f = if p then x.bind f else y.bind f := by
  by_cases h : p <;> simp [h]

/-- what is wanted behind a, where b is next -/
def Thn (b : MS) (P : Fl → En → Prop) : Fl → En → Prop
  | .nx, e => Sat (b e) P
  | fl, e => P fl e
theorem sat_seq {a b : MS} {e : En} {P : Fl → En → Prop} (h : Sat (a e) (Thn b P)) : Sat (mSeq a b e) P := by
  unfold mSeq
  rw [sat_bind]
  exact h.mono fun fl e1 q => by cases fl <;> first | exact q | exact ⟨q⟩
theorem sat_seq_eq {a b : MS} {e : En} {P : Fl → En → Prop} {e1 : En} (h : a e = .ok .nx e1) (q : Sat (b e1) P) : Sat (mSeq a b e) P := sat_seq (by rw [h]; exact ⟨q⟩)
theorem seq_eq {a b : MS} {e e1 : En} (h : a e = .ok .nx e1) : mSeq a b e = b e1 := by unfold mSeq; rw [h]; rfl
theorem seq_rt {a b : MS} {e e1 : En} {v : Val} (h : a e = .ok (.rt v) e1) : mSeq a b e = .ok (.rt v) e1 := by unfold mSeq; rw [h]; rfl
theorem seq_exc {a b : MS} {e e1 : En} {c : Nat} (h : a e = .exc c e1) : mSeq a b e = .exc c e1 := by unfold mSeq; rw [h]; rfl
theorem sat_if {t : MT} {a b : MS} {e e1 : En} {c : Bool} {P : Fl → En → Prop} (h : t e = .ok c e1) (h1 : c = true → Sat (a e1) P) (h2 : c = false → Sat (b e1) P) : Sat (mIfS t a b e) P := by
  unfold mIfS
  rw [h, bind_ok]
  cases c with
  | true => exact h1 rfl
  | false => exact h2 rfl

/-- behind the body of a loop: the next item, or the end -/
def LpP (I : En → Prop) (P : Fl → En → Prop) : Fl → En → Prop
  | .nx, e => I e
  | .ct, e => I e
  | .bk, e => P .nx e
  | .rt v, e => P (.rt v) e
/-- a target takes an item, and then -/
def GSat (o : Option En) (Q : En → Prop) : Prop := match o with
  | some e => Q e
  | none => False
theorem gsat_some {e : En} {Q : En → Prop} : GSat (some e) Q = Q e := (rfl)
def BodyK (body : MS) (I : En → Prop) (P : Fl → En → Prop) (e : En) : Prop := Sat (body e) (LpP I P)
theorem ap_BodyK {body : MS} {I : En → Prop} {P : Fl → En → Prop} {e : En} : BodyK body I P e = Sat (body e) (LpP I P) := (rfl)
theorem GSat.ex {o : Option En} {Q : En → Prop} (h : GSat o Q) : ∃ e, o = some e ∧ Q e := by
  cases o with
  | none => exact h.elim
  | some e => exact ⟨e, rfl, h⟩
/-- I: by the items still to come -/
theorem loop_rest {α : Type} {enc : α → D} {g : TgD} {body : MS} {P : Fl → En → Prop} (I : List α → En → Prop)
    (step : ∀ x xs e, I (x :: xs) e → GSat (g (enc x) e) (BodyK body (I xs) P)) (fin : ∀ e, I [] e → P .nx e) : ∀ (xs : List α) (e : En), I xs e → Sat (mLoop g body (xs.map enc) e) P
  | [], e, h => ⟨fin e h⟩
  | x :: xs, e, h => by
    obtain ⟨e1, h1, h2⟩ := (step x xs e h).ex
    rw [ap_BodyK] at h2
    rw [List.map_cons]
    unfold mLoop
    rw [h1]
    dsimp only
    rw [sat_bind]
    refine h2.mono fun fl e2 q => ?_
    cases fl with
    | nx => exact loop_rest I step fin xs e2 q
    | ct => exact loop_rest I step fin xs e2 q
    | bk => exact ⟨q⟩
    | rt v => exact ⟨q⟩
/-- I: by the items behind -/
theorem loop_pre {α : Type} {enc : α → D} {g : TgD} {body : MS} {P : Fl → En → Prop} {xs : List α} (I : List α → En → Prop)
    (step : ∀ pre x post e, xs = pre ++ x :: post → I pre e → GSat (g (enc x) e) (BodyK body (I (pre ++ [x])) P)) (fin : ∀ e, I xs e → P .nx e) {e : En} (h : I [] e) : Sat (mLoop g body (xs.map enc) e) P := by
  have := loop_rest (enc := enc) (g := g) (body := body) (P := P) (fun rest e => ∃ pre, xs = pre ++ rest ∧ I pre e) (fun x rest e ⟨pre, h1, h2⟩ => by
    obtain ⟨e1, g1, s1⟩ := (step pre x rest e h1 h2).ex
    rw [ap_BodyK] at s1
    rw [g1, gsat_some, ap_BodyK]
    refine s1.mono fun fl e2 q => ?_
    cases fl with
    | nx => exact ⟨pre ++ [x], by simp [h1], q⟩
    | ct => exact ⟨pre ++ [x], by simp [h1], q⟩
    | bk => exact q
    | rt v => exact q) (fun e ⟨pre, h1, h2⟩ => by rw [List.append_nil] at h1; subst h1; exact fin e h2) xs e ⟨[], rfl, h⟩
  exact this
/-- a walk over what no slot owns -/
theorem sat_for {mi : MI} {g : TgD} {body : MS} {e e1 : En} {ds : List D} {P : Fl → En → Prop} (h : mi e = .ok (ds, none) e1) (k : Sat (mLoop g body ds e1) P) : Sat (mFor mi g body e) P := by
  unfold mFor
  rw [h, bind_ok]
  exact k
theorem sat_unl {α : Type} {i : Nat} {b : Bool} {d : D} {x : R α} {P : α → En → Prop} (h : Sat x (fun a e => P a (e.set i (.ow b d)))) : Sat (unl i b d x) P := by
  cases x with
  | ok a e => exact ⟨h.run⟩
  | stuck => exact h.run.elim
  | exc c e => exact h.run.elim
/-- a walk over the list of slot i, locked while it goes on -/
theorem sat_forL {mi : MI} {g : TgD} {body : MS} {e e1 : En} {ds : List D} {i : Nat} {b : Bool} {d : D} {P : Fl → En → Prop} (h : mi e = .ok (ds, some i) e1) (hi : e1[i]? = some (.ow b d)) (k : Sat (mLoop g body ds (e1.set i (.lk b d))) (fun fl e => P fl (e.set i (.ow b d)))) : Sat (mFor mi g body e) P := by
  unfold mFor
  rw [h, bind_ok]
  unfold locked
  dsimp only
  rw [hi]
  exact sat_unl k
/-- n: turns left, at most -/
theorem while_inv {t : MT} {body : MS} {P : Fl → En → Prop} (I : Nat → En → Prop)
    (step : ∀ n e, I n e → ∃ c e1, t e = .ok c e1 ∧ (c = false → P .nx e1) ∧ (c = true → ∃ m, n = m + 1 ∧ Sat (body e1) (LpP (I m) P))) : ∀ (n f : Nat) (e : En), I n e → n < f → Sat (mWhileN t body f e) P
  | n, 0, e, h, hf => by omega
  | n, f + 1, e, h, hf => by
    obtain ⟨c, e1, h1, h2, h3⟩ := step n e h
    unfold mWhileN
    rw [h1, bind_ok]
    cases c with
    | false => exact ⟨h2 rfl⟩
    | true =>
      obtain ⟨m, rfl, h4⟩ := h3 rfl
      simp only [if_true]
      rw [sat_bind]
      refine h4.mono fun fl e2 q => ?_
      cases fl with
      | nx => exact while_inv I step m f e2 q (by omega)
      | ct => exact while_inv I step m f e2 q (by omega)
      | bk => exact ⟨q⟩
      | rt v => exact ⟨q⟩
theorem sat_while {t : MT} {body : MS} {P : Fl → En → Prop} {fu : En → Nat} (I : Nat → En → Prop)
    (step : ∀ n e, I n e → ∃ c e1, t e = .ok c e1 ∧ (c = false → P .nx e1) ∧ (c = true → ∃ m, n = m + 1 ∧ Sat (body e1) (LpP (I m) P))) (n : Nat) {e : En} (h : I n e) (hf : n < fu e) : Sat (mWhile fu t body e) P := while_inv I step n (fu e) e h hf

theorem endFn_rt {k : Nat} {v : Val} {x : R Fl} {os : List (Option D)} (h : Sat x (fun fl e => fl = .rt v ∧ outs k e = os)) : endFn k x = .ok v os := by
  obtain ⟨fl, e, rfl, rfl, rfl⟩ := h.eq
  rfl
theorem fn_eq {n k : Nat} {m : MS} {args : List Arg} {v : Val} {os : List (Option D)} (hl : args.length = k) (h : Sat (m (env0 n args)) (fun fl e => fl = .rt v ∧ outs k e = os)) : mkFn n k m args = .ok v os := by
  unfold mkFn
  rw [if_pos hl]
  exact endFn_rt h
theorem fn_sat {n k : Nat} {m : MS} {args : List Arg} {P : Val → List (Option D) → Prop} (hl : args.length = k) (h : Sat (m (env0 n args)) (fun fl e => ∃ v, fl = .rt v ∧ P v (outs k e))) : ∃ v os, mkFn n k m args = .ok v os ∧ P v os := by
  unfold mkFn
  rw [if_pos hl]
  obtain ⟨fl, e, q, v, rfl, p⟩ := h.eq
  exact ⟨v, _, by rw [q]; rfl, p⟩
end PV

set_option Elab.async false
set_option linter.all false
set_option maxRecDepth 100000
set_option maxHeartbeats 4000000
namespace PV
open PySem PySem.Spec PyProof.Rows L2

def kV (i : Nat) : Option Slot → En → R Val
  | some (.sh d), e => .ok (.d d) e
  | some (.ow _ _), e => .ok (.own i) e
  | some (.lk _ _), e => .ok (.own i) e
  | some (.xc c), e => .ok (.xc c) e
  | _, _ => .stuck
theorem ap_mVar (i : Nat) (e : En) : mVar i e = kV i e[i]? e := by
  unfold mVar
  cases e[i]? with
  | none => rfl
  | some s => cases s <;> rfl
theorem kV_sh (i : Nat) (d : D) (e : En) : kV i (some (.sh d)) e = .ok (.d d) e := (rfl)
theorem kV_ow (i : Nat) (b : Bool) (d : D) (e : En) : kV i (some (.ow b d)) e = .ok (.own i) e := (rfl)
theorem kV_lk (i : Nat) (b : Bool) (d : D) (e : En) : kV i (some (.lk b d)) e = .ok (.own i) e := (rfl)
theorem kV_xc (i : Nat) (c : Nat) (e : En) : kV i (some (.xc c)) e = .ok (.xc c) e := (rfl)
theorem ap_mC (d : D) (e : En) : mC d e = .ok (.d d) e := (rfl)
def dSl : Option Slot → Option D
  | some (.sh d) => some d
  | some (.ow _ d) => some d
  | some (.lk _ d) => some d
  | _ => none
theorem deref_d (e : En) (x : D) : deref e (.d x) = some x := (rfl)
theorem deref_nw (e : En) (x : D) : deref e (.nw x) = some x := (rfl)
theorem deref_own (e : En) (i : Nat) : deref e (.own i) = dSl e[i]? := (rfl)
theorem dSl_sh (d : D) : dSl (some (.sh d)) = some d := (rfl)
theorem dSl_ow (b : Bool) (d : D) : dSl (some (.ow b d)) = some d := (rfl)
theorem dSl_lk (b : Bool) (d : D) : dSl (some (.lk b d)) = some d := (rfl)
theorem fin_some (e : En) (r : Val) : fin e (some r) = .ok r e := (rfl)
def o1 (g : D → Option Val) : Option D → En → R Val
  | some x, e => fin e (g x)
  | none, _ => .stuck
theorem ap_out1 (g : D → Option Val) (a : Val) (e : En) : out1 g a e = o1 g (deref e a) e := by unfold out1 o1; cases deref e a <;> rfl
theorem o1_some (g : D → Option Val) (x : D) (e : En) : o1 g (some x) e = fin e (g x) := (rfl)
def o2 (g : D → D → Option Val) : Option D → Option D → En → R Val
  | some x, some y, e => fin e (g x y)
  | _, _, _ => .stuck
theorem ap_out2 (g : D → D → Option Val) (a b : Val) (e : En) : out2 g a b e = o2 g (deref e a) (deref e b) e := by unfold out2 o2; cases deref e a <;> cases deref e b <;> rfl
theorem o2_some (g : D → D → Option Val) (x y : D) (e : En) : o2 g (some x) (some y) e = fin e (g x y) := (rfl)
def ds1 : Option D → Option (List D) → Option (List D)
  | some x, some xs => some (x :: xs)
  | _, _ => none
theorem derefs_nil (e : En) : derefs e [] = some [] := (rfl)
theorem derefs_cons (e : En) (v : Val) (vs : List Val) : derefs e (v :: vs) = ds1 (deref e v) (derefs e vs) := by
  show (match deref e v with | some x => (match derefs e vs with | some xs => some (x :: xs) | none => none) | none => none) = _
  cases deref e v <;> cases derefs e vs <;> rfl
theorem ds1_some (x : D) (xs : List D) : ds1 (some x) (some xs) = some (x :: xs) := (rfl)
def onK (g : List D → Option Val) : Option (List D) → En → R Val
  | some xs, e => fin e (g xs)
  | none, _ => .stuck
theorem ap_outn (g : List D → Option Val) (as : List Val) (e : En) : outn g as e = onK g (derefs e as) e := by unfold outn onK; cases derefs e as <;> rfl
theorem onK_some (g : List D → Option Val) (xs : List D) (e : En) : onK g (some xs) e = fin e (g xs) := (rfl)
theorem ap_mUn (g : D → Option Val) (m : ME) (e : En) : mUn g m e = (m e).bind (out1 g) := (rfl)
def kB1 (g : D → D → Option Val) (mb : ME) (a : Val) (e : En) : R Val := (mb e).bind (out2 g a)
theorem ap_kB1 (g : D → D → Option Val) (mb : ME) (a : Val) (e : En) : kB1 g mb a e = (mb e).bind (out2 g a) := (rfl)
theorem ap_mBin (g : D → D → Option Val) (ma mb : ME) (e : En) : mBin g ma mb e = (ma e).bind (kB1 g mb) := (rfl)
theorem ap_mCallB (g : List D → Option Val) (ms : En → R (List Val)) (e : En) : mCallB g ms e = (ms e).bind (outn g) := (rfl)
theorem asB_d (b : Bool) : asB (.d (.bool b)) = some b := (rfl)
def kTB : Val → En → R Bool
  | .d (.bool b), e => .ok b e
  | _, _ => .stuck
theorem kTB_b (b : Bool) (e : En) : kTB (.d (.bool b)) e = .ok b e := (rfl)
theorem ap_mTB (m : ME) (e : En) : mTB m e = (m e).bind kTB := by
  show (m e).bind _ = _
  congr 1; funext r e1
  cases r <;> try rfl
  rename_i d; cases d <;> rfl
def kTr3 : Option Bool → En → R Bool
  | some b, e => .ok b e
  | none, _ => .stuck
def kTr2 : Option D → En → R Bool
  | some d, e => kTr3 (truD d) e
  | none, _ => .stuck
def kTru (r : Val) (e : En) : R Bool := kTr2 (deref e r) e
theorem ap_kTru (r : Val) (e : En) : kTru r e = kTr2 (deref e r) e := (rfl)
theorem kTr2_some (d : D) (e : En) : kTr2 (some d) e = kTr3 (truD d) e := (rfl)
theorem kTr3_some (b : Bool) (e : En) : kTr3 (some b) e = .ok b e := (rfl)
theorem ap_mTru (m : ME) (e : En) : mTru m e = (m e).bind kTru := by
  show (m e).bind _ = _
  congr 1; funext r e1
  unfold kTru
  cases deref e1 r with
  | none => rfl
  | some d => show (match truD d with | some b => R.ok b e1 | none => R.stuck) = kTr3 (truD d) e1; cases truD d <;> rfl
theorem tru_non : truD .none = some false := (rfl)
theorem tru_bool (b : Bool) : truD (.bool b) = some b := (rfl)
theorem tru_int (b : Int) : truD (.int b) = some (b != 0) := (rfl)
theorem tru_list (b : List D) : truD (.list b) = some (!b.isEmpty) := (rfl)
theorem tru_tuple (b : List D) : truD (.tuple b) = some (!b.isEmpty) := (rfl)
def kAnd (b : MT) (c : Bool) (e : En) : R Bool := if c = true then b e else .ok false e
def kOr (b : MT) (c : Bool) (e : En) : R Bool := if c = true then .ok true e else b e
def kNot (c : Bool) (e : En) : R Bool := .ok (!c) e
theorem ap_kAnd (b : MT) (c : Bool) (e : En) : kAnd b c e = if c = true then b e else .ok false e := (rfl)
theorem ap_kOr (b : MT) (c : Bool) (e : En) : kOr b c e = if c = true then .ok true e else b e := (rfl)
theorem ap_kNot (c : Bool) (e : En) : kNot c e = .ok (!c) e := (rfl)
theorem ap_mAnd (a b : MT) (e : En) : mAnd a b e = (a e).bind (kAnd b) := (rfl)
theorem ap_mOr (a b : MT) (e : En) : mOr a b e = (a e).bind (kOr b) := (rfl)
theorem ap_mNot (a : MT) (e : En) : mNot a e = (a e).bind kNot := (rfl)
def kAndV (b : ME) : Val → En → R Val
  | .d (.bool c), e => if c = true then b e else .ok (.d (.bool false)) e
  | _, _ => .stuck
def kOrV (b : ME) : Val → En → R Val
  | .d (.bool c), e => if c = true then .ok (.d (.bool true)) e else b e
  | _, _ => .stuck
def kNotV : Val → En → R Val
  | .d (.bool c), e => .ok (.d (.bool (!c))) e
  | _, _ => .stuck
theorem ap_kAndV (b : ME) (c : Bool) (e : En) : kAndV b (.d (.bool c)) e = if c = true then b e else .ok (.d (.bool false)) e := (rfl)
theorem ap_kOrV (b : ME) (c : Bool) (e : En) : kOrV b (.d (.bool c)) e = if c = true then .ok (.d (.bool true)) e else b e := (rfl)
theorem ap_kNotV (c : Bool) (e : En) : kNotV (.d (.bool c)) e = .ok (.d (.bool (!c))) e := (rfl)
theorem asB_cases (r : Val) : (∃ b, r = .d (.bool b)) ∨ (asB r = none ∧ ∀ b, r ≠ .d (.bool b)) := by
  cases r with
  | d x => cases x <;> first | exact .inl ⟨_, rfl⟩ | exact .inr ⟨rfl, fun _ h => by cases h⟩
  | _ => exact .inr ⟨rfl, fun _ h => by cases h⟩
theorem ap_mAndV (a b : ME) (e : En) : mAndV a b e = (a e).bind (kAndV b) := by
  show (a e).bind _ = _
  congr 1; funext r e1
  cases r <;> try rfl
  rename_i d; cases d <;> rfl
theorem ap_mOrV (a b : ME) (e : En) : mOrV a b e = (a e).bind (kOrV b) := by
  show (a e).bind _ = _
  congr 1; funext r e1
  cases r <;> try rfl
  rename_i d; cases d <;> rfl
theorem ap_mNotV (a : ME) (e : En) : mNotV a e = (a e).bind kNotV := by
  show (a e).bind _ = _
  congr 1; funext r e1
  cases r <;> try rfl
  rename_i d; cases d <;> rfl
def kIf (a b : ME) (c : Bool) (e : En) : R Val := if c = true then a e else b e
theorem ap_kIf (a b : ME) (c : Bool) (e : En) : kIf a b c e = if c = true then a e else b e := (rfl)
theorem ap_mIf (t : MT) (a b : ME) (e : En) : mIf t a b e = (t e).bind (kIf a b) := (rfl)
def kCh3 (g' : D → D → Option Val) (mc : ME) (b : Val) : Val → En → R Val
  | .d (.bool c), e => if c = true then (mc e).bind (out2 g' b) else .ok (.d (.bool false)) e
  | _, _ => .stuck
def kCh2 (g g' : D → D → Option Val) (mc : ME) (a b : Val) (e : En) : R Val := (out2 g a b e).bind (kCh3 g' mc b)
def kCh1 (g g' : D → D → Option Val) (mb mc : ME) (a : Val) (e : En) : R Val := (mb e).bind (kCh2 g g' mc a)
theorem ap_kCh3 (g' : D → D → Option Val) (mc : ME) (b : Val) (c : Bool) (e : En) : kCh3 g' mc b (.d (.bool c)) e = if c = true then (mc e).bind (out2 g' b) else .ok (.d (.bool false)) e := (rfl)
theorem ap_kCh2 (g g' : D → D → Option Val) (mc : ME) (a b : Val) (e : En) : kCh2 g g' mc a b e = (out2 g a b e).bind (kCh3 g' mc b) := (rfl)
theorem ap_kCh1 (g g' : D → D → Option Val) (mb mc : ME) (a : Val) (e : En) : kCh1 g g' mb mc a e = (mb e).bind (kCh2 g g' mc a) := (rfl)
theorem ap_mChain (g g' : D → D → Option Val) (ma mb mc : ME) (e : En) : mChain g g' ma mb mc e = (ma e).bind (kCh1 g g' mb mc) := by
  unfold mChain
  congr 1; funext a e1; unfold kCh1; congr 1; funext b e2; unfold kCh2; congr 1; funext r e3
  cases r <;> try rfl
  rename_i d; cases d <;> try rfl
  rename_i c; cases c <;> rfl
def kAC2 (v : Val) (vs : List Val) (e : En) : R (List Val) := .ok (v :: vs) e
def kAC (r : En → R (List Val)) (v : Val) (e : En) : R (List Val) := (r e).bind (kAC2 v)
theorem ap_kAC2 (v : Val) (vs : List Val) (e : En) : kAC2 v vs e = .ok (v :: vs) e := (rfl)
theorem ap_kAC (r : En → R (List Val)) (v : Val) (e : En) : kAC r v e = (r e).bind (kAC2 v) := (rfl)
theorem ap_aNil (e : En) : aNil e = .ok [] e := (rfl)
theorem ap_aCons (m : ME) (r : En → R (List Val)) (e : En) : aCons m r e = (m e).bind (kAC r) := (rfl)
def fo (j : Nat) : Option Slot → En → Option (D × En)
  | some (.sh d), e => some (d, e)
  | some (.ow false d), e => some (d, e.set j (.sh d))
  | _, _ => none
theorem fo_sh (j : Nat) (d : D) (e : En) : fo j (some (.sh d)) e = some (d, e) := (rfl)
theorem fo_ow (j : Nat) (d : D) (e : En) : fo j (some (.ow false d)) e = some (d, e.set j (.sh d)) := (rfl)
theorem frz_d (x : D) (e : En) : frz1 (.d x) e = some (x, e) := (rfl)
theorem frz_nw (x : D) (e : En) : frz1 (.nw x) e = some (x, e) := (rfl)
theorem frz_own (j : Nat) (e : En) : frz1 (.own j) e = fo j e[j]? e := by
  show (match e[j]? with | some (.sh d) => some (d, e) | some (.ow false d) => some (d, e.set j (.sh d)) | _ => none) = _
  cases e[j]? with
  | none => rfl
  | some s =>
    cases s <;> try rfl
    rename_i b d
    cases b <;> rfl
def fz2 (d : D) : Option (List D × En) → Option (List D × En)
  | some (ds, e) => some (d :: ds, e)
  | none => none
def fz1 (rs : List Val) : Option (D × En) → Option (List D × En)
  | some (d, e) => fz2 d (frzs rs e)
  | none => none
theorem fz2_some (d : D) (ds : List D) (e : En) : fz2 d (some (ds, e)) = some (d :: ds, e) := (rfl)
theorem fz1_some (rs : List Val) (d : D) (e : En) : fz1 rs (some (d, e)) = fz2 d (frzs rs e) := (rfl)
theorem frzs_nil (e : En) : frzs [] e = some ([], e) := (rfl)
theorem frzs_cons (r : Val) (rs : List Val) (e : En) : frzs (r :: rs) e = fz1 rs (frz1 r e) := (rfl)
def kTp2 : Option (List D × En) → R Val
  | some (ds, e2) => if ds.length ≤ sizeLine then .ok (.d (.tuple ds)) e2 else .stuck
  | none => .stuck
def kTp (rs : List Val) (e : En) : R Val := kTp2 (frzs rs e)
theorem ap_kTp (rs : List Val) (e : En) : kTp rs e = kTp2 (frzs rs e) := (rfl)
theorem kTp2_some {ds : List D} {e : En} (h : ds.length ≤ 16777216) : kTp2 (some (ds, e)) = .ok (.d (.tuple ds)) e := if_pos h
theorem ap_mTup (ms : En → R (List Val)) (e : En) : mTup ms e = (ms e).bind kTp := (rfl)
def kLs2 : Option (List D × En) → R Val
  | some (ds, e2) => if ds.length ≤ sizeLine then .ok (.nw (.list ds)) e2 else .stuck
  | none => .stuck
def kLs (rs : List Val) (e : En) : R Val := kLs2 (frzs rs e)
theorem ap_kLs (rs : List Val) (e : En) : kLs rs e = kLs2 (frzs rs e) := (rfl)
theorem kLs2_some {ds : List D} {e : En} (h : ds.length ≤ 16777216) : kLs2 (some (ds, e)) = .ok (.nw (.list ds)) e := if_pos h
theorem ap_mLst (ms : En → R (List Val)) (e : En) : mLst ms e = (ms e).bind kLs := (rfl)
def kSo2 : Option D → En → R (Option Int)
  | some (.int i), e => .ok (some i) e
  | _, _ => .stuck
def kSo (r : Val) (e : En) : R (Option Int) := kSo2 (deref e r) e
theorem ap_kSo (r : Val) (e : En) : kSo r e = kSo2 (deref e r) e := (rfl)
theorem kSo2_int (i : Int) (e : En) : kSo2 (some (.int i)) e = .ok (some i) e := (rfl)
theorem ap_oNo (e : En) : oNo e = .ok none e := (rfl)
theorem ap_oSo (m : ME) (e : En) : oSo m e = (m e).bind kSo := by
  show (m e).bind _ = _
  congr 1; funext r e1
  unfold kSo kSo2
  cases deref e1 r with
  | none => rfl
  | some d => cases d <;> rfl
def kSl4 : Option D → Option Int → Option Int → En → R Val
  | some d, l, u, e => fin e (gSl d l u)
  | none, _, _, _ => .stuck
def kSl3 (r : Val) (l u : Option Int) (e : En) : R Val := kSl4 (deref e r) l u e
def kSl2 (hi : MO) (r : Val) (l : Option Int) (e : En) : R Val := (hi e).bind (kSl3 r l)
def kSl (lo hi : MO) (r : Val) (e : En) : R Val := (lo e).bind (kSl2 hi r)
theorem kSl4_some (d : D) (l u : Option Int) (e : En) : kSl4 (some d) l u e = fin e (gSl d l u) := (rfl)
theorem ap_kSl3 (r : Val) (l u : Option Int) (e : En) : kSl3 r l u e = kSl4 (deref e r) l u e := (rfl)
theorem ap_kSl2 (hi : MO) (r : Val) (l : Option Int) (e : En) : kSl2 hi r l e = (hi e).bind (kSl3 r l) := (rfl)
theorem ap_kSl (lo hi : MO) (r : Val) (e : En) : kSl lo hi r e = (lo e).bind (kSl2 hi r) := (rfl)
theorem ap_mSl (m : ME) (lo hi : MO) (e : En) : mSl m lo hi e = (m e).bind (kSl lo hi) := by
  show (m e).bind _ = _
  congr 1; funext r e1; unfold kSl; congr 1; funext l e2; unfold kSl2; congr 1; funext u e3
  unfold kSl3 kSl4
  cases deref e3 r <;> rfl
def kSm4 : Option D → Option Int → Option Int → Option Int → En → R Val
  | some d, l, u, t, e => fin e (gSl3 d l u t)
  | none, _, _, _, _ => .stuck
def kSm3 (r : Val) (l u t : Option Int) (e : En) : R Val := kSm4 (deref e r) l u t e
def kSm2 (st : MO) (r : Val) (l u : Option Int) (e : En) : R Val := (st e).bind (kSm3 r l u)
def kSm1 (hi st : MO) (r : Val) (l : Option Int) (e : En) : R Val := (hi e).bind (kSm2 st r l)
def kSm (lo hi st : MO) (r : Val) (e : En) : R Val := (lo e).bind (kSm1 hi st r)
theorem kSm4_some (d : D) (l u t : Option Int) (e : En) : kSm4 (some d) l u t e = fin e (gSl3 d l u t) := (rfl)
theorem ap_kSm3 (r : Val) (l u t : Option Int) (e : En) : kSm3 r l u t e = kSm4 (deref e r) l u t e := (rfl)
theorem ap_kSm2 (st : MO) (r : Val) (l u : Option Int) (e : En) : kSm2 st r l u e = (st e).bind (kSm3 r l u) := (rfl)
theorem ap_kSm1 (hi st : MO) (r : Val) (l : Option Int) (e : En) : kSm1 hi st r l e = (hi e).bind (kSm2 st r l) := (rfl)
theorem ap_kSm (lo hi st : MO) (r : Val) (e : En) : kSm lo hi st r e = (lo e).bind (kSm1 hi st r) := (rfl)
theorem ap_mSl3 (m : ME) (lo hi st : MO) (e : En) : mSl3 m lo hi st e = (m e).bind (kSm lo hi st) := by
  show (m e).bind _ = _
  congr 1; funext r e1; unfold kSm; congr 1; funext l e2; unfold kSm1; congr 1; funext u e3; unfold kSm2; congr 1; funext t e4
  unfold kSm3 kSm4
  cases deref e4 r <;> rfl
def ma2 (j : Nat) (r : List (Arg × Option Nat)) : Option Slot → Option (List (Arg × Option Nat))
  | some (.sh x) => some ((.sh x, none) :: r)
  | some (.ow _ x) => some ((.ow x, some j) :: r)
  | some (.lk _ x) => some ((.lk x, some j) :: r)
  | _ => none
def ma1 (e : En) : Val → Option (List (Arg × Option Nat)) → Option (List (Arg × Option Nat))
  | .d x, some r => some ((.sh x, none) :: r)
  | .nw x, some r => some ((.sh x, none) :: r)
  | .own j, some r => ma2 j r e[j]?
  | _, _ => none
theorem mkA_nil (e : En) : mkArgs [] e = some [] := (rfl)
theorem mkA_cons (v : Val) (vs : List Val) (e : En) : mkArgs (v :: vs) e = ma1 e v (mkArgs vs e) := by
  rw [mkArgs]
  cases mkArgs vs e with
  | none => cases v <;> rfl
  | some r =>
    cases v <;> rfl
theorem ma1_d (e : En) (x : D) (r : List (Arg × Option Nat)) : ma1 e (.d x) (some r) = some ((.sh x, none) :: r) := (rfl)
theorem ma1_nw (e : En) (x : D) (r : List (Arg × Option Nat)) : ma1 e (.nw x) (some r) = some ((.sh x, none) :: r) := (rfl)
theorem ma1_own (e : En) (j : Nat) (r : List (Arg × Option Nat)) : ma1 e (.own j) (some r) = ma2 j r e[j]? := (rfl)
theorem ma2_sh (j : Nat) (r : List (Arg × Option Nat)) (x : D) : ma2 j r (some (.sh x)) = some ((.sh x, none) :: r) := (rfl)
theorem ma2_ow (j : Nat) (r : List (Arg × Option Nat)) (b : Bool) (x : D) : ma2 j r (some (.ow b x)) = some ((.ow x, some j) :: r) := (rfl)
theorem ma2_lk (j : Nat) (r : List (Arg × Option Nat)) (b : Bool) (x : D) : ma2 j r (some (.lk b x)) = some ((.lk x, some j) :: r) := (rfl)
theorem nd_nil : ndOwn [] = true := (rfl)
theorem nd_none (a : Arg) (r : List (Arg × Option Nat)) : ndOwn ((a, none) :: r) = ndOwn r := (rfl)
theorem nd_some (a : Arg) (j : Nat) (r : List (Arg × Option Nat)) : ndOwn ((a, some j) :: r) = (!(r.any fun p => p.2 == some j) && ndOwn r) := (rfl)
def wb1 (j : Nat) (d : D) : Option Slot → En → En
  | some (.ow b _), e => e.set j (.ow b d)
  | _, e => e
theorem wb1_ow (j : Nat) (d y : D) (b : Bool) (e : En) : wb1 j d (some (.ow b y)) e = e.set j (.ow b d) := (rfl)
theorem wb_nil (os : List (Option D)) (e : En) : wb [] os e = e := (rfl)
theorem wb_sh (x : D) (o : Option Nat) (r : List (Arg × Option Nat)) (q : Option D) (os : List (Option D)) (e : En) : wb ((.sh x, o) :: r) (q :: os) e = wb r os e := (rfl)
theorem wb_lk (x : D) (o : Option Nat) (r : List (Arg × Option Nat)) (q : Option D) (os : List (Option D)) (e : En) : wb ((.lk x, o) :: r) (q :: os) e = wb r os e := (rfl)
theorem wb_no (x : D) (o : Option Nat) (r : List (Arg × Option Nat)) (os : List (Option D)) (e : En) : wb ((.ow x, o) :: r) (none :: os) e = wb r os e := by cases o <;> rfl
theorem wb_ow (x d : D) (j : Nat) (r : List (Arg × Option Nat)) (os : List (Option D)) (e : En) : wb ((.ow x, some j) :: r) (some d :: os) e = wb r os (wb1 j d e[j]? e) := by
  show wb r os (match e[j]? with | some (.ow b _) => e.set j (.ow b d) | _ => e) = _
  cases e[j]? with
  | none => rfl
  | some s => cases s <;> rfl
def dc2 (ps : List (Arg × Option Nat)) (e : En) : FR → R Val
  | .stuck => .stuck
  | .ok r os => .ok r (wb ps os e)
  | .exc c os => .exc c (wb ps os e)
def dc (fm : FM) (e : En) : Option (List (Arg × Option Nat)) → R Val
  | some ps => if ndOwn ps = true then dc2 ps e (fm (ps.map (·.1))) else .stuck
  | none => .stuck
theorem dc2_ok (ps : List (Arg × Option Nat)) (e : En) (r : Val) (os : List (Option D)) : dc2 ps e (.ok r os) = .ok r (wb ps os e) := (rfl)
theorem dc2_exc (ps : List (Arg × Option Nat)) (e : En) (r : Nat) (os : List (Option D)) : dc2 ps e (.exc r os) = .exc r (wb ps os e) := (rfl)
theorem dc_some (fm : FM) (e : En) (ps : List (Arg × Option Nat)) : dc fm e (some ps) = if ndOwn ps = true then dc2 ps e (fm (ps.map (·.1))) else .stuck := (rfl)
theorem ap_doCall (fm : FM) (vals : List Val) (e : En) : doCall fm vals e = dc fm e (mkArgs vals e) := by
  unfold doCall dc
  cases mkArgs vals e with
  | none => rfl
  | some ps =>
    show (if ndOwn ps = true then (match fm (ps.map (·.1)) with | .stuck => R.stuck | .ok r os => .ok r (wb ps os e) | .exc c os => .exc c (wb ps os e)) else .stuck) = _
    by_cases h : ndOwn ps = true
    · rw [if_pos h]
      show _ = if ndOwn ps = true then dc2 ps e (fm (ps.map (·.1))) else .stuck
      rw [if_pos h]
      cases fm (ps.map (·.1)) <;> rfl
    · rw [if_neg h]
      show _ = if ndOwn ps = true then dc2 ps e (fm (ps.map (·.1))) else .stuck
      rw [if_neg h]
theorem ap_mCall (fm : FM) (ms : En → R (List Val)) (e : En) : mCall fm ms e = (ms e).bind (doCall fm) := (rfl)
def okSl : Slot → Bool
  | .un => true
  | .sh _ => true
  | .ow false _ => true
  | .xc _ => true
  | _ => false
def okSo : Option Slot → Bool
  | some s => okSl s
  | none => false
/-- a name's slot may be anything that a name may hold -/
def jk : Option D → Slot
  | none => .un
  | some d => .sh d
theorem ap_okTgt (e : En) (i : Nat) : okTgt e i = okSo e[i]? := by
  unfold okTgt
  cases e[i]? with
  | none => rfl
  | some s =>
    cases s <;> try rfl
    rename_i b d
    cases b <;> rfl
theorem okSo_some (s : Slot) : okSo (some s) = okSl s := (rfl)
theorem okSl_jk (o : Option D) : okSl (jk o) = true := by cases o <;> rfl
theorem okSl_un : okSl .un = true := (rfl)
theorem okSl_sh (d : D) : okSl (.sh d) = true := (rfl)
theorem okSl_ow (d : D) : okSl (.ow false d) = true := (rfl)
theorem okSl_xc (d : Nat) : okSl (.xc d) = true := (rfl)
def st2 (i : Nat) : Option (D × En) → R Fl
  | some (d, e2) => if okTgt e2 i = true then .ok .nx (e2.set i (.sh d)) else .stuck
  | none => .stuck
theorem st2_some (i : Nat) (d : D) (e : En) : st2 i (some (d, e)) = if okTgt e i = true then .ok .nx (e.set i (.sh d)) else .stuck := (rfl)
theorem store_nw (i : Nat) (x : D) (e : En) : store i (.nw x) e = if okTgt e i = true then .ok .nx (e.set i (.ow false x)) else .stuck := (rfl)
theorem store_d (i : Nat) (x : D) (e : En) : store i (.d x) e = st2 i (frz1 (.d x) e) := (rfl)
theorem store_own (i j : Nat) (e : En) : store i (.own j) e = st2 i (frz1 (.own j) e) := (rfl)
theorem ap_mSet (i : Nat) (m : ME) (e : En) : mSet i m e = (m e).bind (store i) := (rfl)
def kE (_ : Val) (e : En) : R Fl := .ok .nx e
theorem ap_kE (v : Val) (e : En) : kE v e = .ok .nx e := (rfl)
theorem ap_mExp (m : ME) (e : En) : mExp m e = (m e).bind kE := (rfl)
def lvS : Option Slot → Option Val
  | some (.sh x) => some (.d x)
  | some (.ow false x) => some (.nw x)
  | _ => none
theorem lv_d (e : En) (x : D) : leaves e (.d x) = some (.d x) := (rfl)
theorem lv_nw (e : En) (x : D) : leaves e (.nw x) = some (.nw x) := (rfl)
theorem lv_own (e : En) (j : Nat) : leaves e (.own j) = lvS e[j]? := (rfl)
theorem lvS_sh (x : D) : lvS (some (.sh x)) = some (.d x) := (rfl)
theorem lvS_ow (x : D) : lvS (some (.ow false x)) = some (.nw x) := (rfl)
def kR2 (e : En) : Option Val → R Fl
  | some v => .ok (.rt v) e
  | none => .stuck
def kR (r : Val) (e : En) : R Fl := kR2 e (leaves e r)
theorem ap_kR (r : Val) (e : En) : kR r e = kR2 e (leaves e r) := (rfl)
theorem kR2_some (e : En) (v : Val) : kR2 e (some v) = .ok (.rt v) e := (rfl)
theorem ap_mRet (m : ME) (e : En) : mRet m e = (m e).bind kR := (rfl)
theorem ap_mRetN (e : En) : mRetN e = .ok (.rt (.d .none)) e := (rfl)
theorem ap_sNx (e : En) : sNx e = .ok .nx e := (rfl)
theorem ap_sBk (e : En) : sBk e = .ok .bk e := (rfl)
theorem ap_sCt (e : En) : sCt e = .ok .ct e := (rfl)
theorem ap_mRaise (c : Nat) (e : En) : mRaise c e = .exc c e := (rfl)
theorem ap_mYes (e : En) : mYes e = .ok true e := (rfl)
/-- i = i op value -/
def kAu3 (i : Nat) (e : En) : Option Val → R Fl
  | some (.d x) => if okTgt e i = true then .ok .nx (e.set i (.sh x)) else .stuck
  | _ => .stuck
def kAu2 (i : Nat) (g : D → D → Option Val) (d0 : D) (e : En) : Option D → R Fl
  | some d => kAu3 i e (g d0 d)
  | none => .stuck
def kAu1 (i : Nat) (g : D → D → Option Val) (d0 : D) (r : Val) (e : En) : R Fl := kAu2 i g d0 e (deref e r)
def kAu (i : Nat) (g : D → D → Option Val) (m : ME) (e : En) : Option Slot → R Fl
  | some (.sh d0) => (m e).bind (kAu1 i g d0)
  | _ => .stuck
theorem ap_mAug (i : Nat) (g : D → D → Option Val) (m : ME) (e : En) : mAug i g m e = kAu i g m e e[i]? := (rfl)
theorem kAu_sh (i : Nat) (g : D → D → Option Val) (m : ME) (e : En) (d0 : D) : kAu i g m e (some (.sh d0)) = (m e).bind (kAu1 i g d0) := (rfl)
theorem ap_kAu1 (i : Nat) (g : D → D → Option Val) (d0 : D) (r : Val) (e : En) : kAu1 i g d0 r e = kAu2 i g d0 e (deref e r) := (rfl)
theorem kAu2_some (i : Nat) (g : D → D → Option Val) (d0 : D) (e : En) (d : D) : kAu2 i g d0 e (some d) = kAu3 i e (g d0 d) := (rfl)
theorem kAu3_some (i : Nat) (e : En) (x : D) : kAu3 i e (some (.d x)) = if okTgt e i = true then .ok .nx (e.set i (.sh x)) else .stuck := (rfl)
/-- j[i] = value -/
def kSi5 (j : Nat) (b : Bool) (e : En) : Option D → R Fl
  | some d' => .ok .nx (e.set j (.ow b d'))
  | none => .stuck
def kSi4 (j : Nat) (g : D → D → D → Option D) (di dv : D) (e : En) : Option Slot → R Fl
  | some (.ow b d) => kSi5 j b e (g d di dv)
  | _ => .stuck
def kSi3 (j : Nat) (g : D → D → D → Option D) (dv : D) (e : En) : Option D → R Fl
  | some di => kSi4 j g di dv e e[j]?
  | none => .stuck
def kSi2b (j : Nat) (g : D → D → D → Option D) (dv : D) (ri : Val) (e : En) : R Fl := kSi3 j g dv e (deref e ri)
def kSi2 (j : Nat) (g : D → D → D → Option D) (mi : ME) (dv : D) (e : En) : Option Slot → R Fl
  | some (.ow _ _) => (mi e).bind (kSi2b j g dv)
  | _ => .stuck
def kSi1 (j : Nat) (g : D → D → D → Option D) (mi : ME) : Option (D × En) → R Fl
  | some (dv, e1) => kSi2 j g mi dv e1 e1[j]?
  | none => .stuck
def kSi (j : Nat) (g : D → D → D → Option D) (mi : ME) (r : Val) (e : En) : R Fl := kSi1 j g mi (frz1 r e)
theorem ap_mSetIx (j : Nat) (g : D → D → D → Option D) (mi m : ME) (e : En) : mSetIx j g mi m e = (m e).bind (kSi j g mi) := (rfl)
theorem ap_kSi (j : Nat) (g : D → D → D → Option D) (mi : ME) (r : Val) (e : En) : kSi j g mi r e = kSi1 j g mi (frz1 r e) := (rfl)
theorem kSi1_some (j : Nat) (g : D → D → D → Option D) (mi : ME) (d : D) (e : En) : kSi1 j g mi (some (d, e)) = kSi2 j g mi d e e[j]? := (rfl)
theorem kSi2_ow (j : Nat) (g : D → D → D → Option D) (mi : ME) (d : D) (e : En) (b : Bool) (y : D) : kSi2 j g mi d e (some (.ow b y)) = (mi e).bind (kSi2b j g d) := (rfl)
theorem ap_kSi2b (j : Nat) (g : D → D → D → Option D) (dv : D) (ri : Val) (e : En) : kSi2b j g dv ri e = kSi3 j g dv e (deref e ri) := (rfl)
theorem kSi3_some (j : Nat) (g : D → D → D → Option D) (dv di : D) (e : En) : kSi3 j g dv e (some di) = kSi4 j g di dv e e[j]? := (rfl)
theorem kSi4_ow (j : Nat) (g : D → D → D → Option D) (di dv : D) (e : En) (b : Bool) (d : D) : kSi4 j g di dv e (some (.ow b d)) = kSi5 j b e (g d di dv) := (rfl)
theorem kSi5_some (j : Nat) (b : Bool) (e : En) (d : D) : kSi5 j b e (some d) = .ok .nx (e.set j (.ow b d)) := (rfl)
/-- j[i] op= value -/
def kAi5 (j : Nat) (gs : D → D → D → Option D) (new : D) (e : En) : Option D → R Fl
  | some di2 => kSi4 j gs di2 new e e[j]?
  | none => .stuck
def kAi4 (j : Nat) (gs : D → D → D → Option D) (ri : Val) (e : En) : Option Val → R Fl
  | some (.d new) => kAi5 j gs new e (deref e ri)
  | _ => .stuck
def kAi3b (j : Nat) (g : D → D → Option Val) (gs : D → D → D → Option D) (ri : Val) (old : D) (e : En) : Option D → R Fl
  | some dv => kAi4 j gs ri e (g old dv)
  | none => .stuck
def kAi3 (j : Nat) (g : D → D → Option Val) (gs : D → D → D → Option D) (ri : Val) (old : D) (r : Val) (e : En) : R Fl := kAi3b j g gs ri old e (deref e r)
def kAi2c (j : Nat) (g : D → D → Option Val) (gs : D → D → D → Option D) (m : ME) (ri : Val) (e : En) : Option D → R Fl
  | some old => (m e).bind (kAi3 j g gs ri old)
  | none => .stuck
def kAi2b (j : Nat) (gg : D → D → Option D) (g : D → D → Option Val) (gs : D → D → D → Option D) (m : ME) (ri : Val) (di : D) (e : En) : Option D → R Fl
  | some c => kAi2c j g gs m ri e (gg c di)
  | none => .stuck
def kAi2 (j : Nat) (gg : D → D → Option D) (g : D → D → Option Val) (gs : D → D → D → Option D) (m : ME) (ri : Val) (e : En) : Option D → R Fl
  | some di => kAi2b j gg g gs m ri di e ((e[j]?).bind Slot.ownd)
  | none => .stuck
def kAi1 (j : Nat) (gg : D → D → Option D) (g : D → D → Option Val) (gs : D → D → D → Option D) (m : ME) (ri : Val) (e : En) : R Fl := kAi2 j gg g gs m ri e (deref e ri)
def kAi (j : Nat) (gg : D → D → Option D) (g : D → D → Option Val) (gs : D → D → D → Option D) (mi m : ME) (e : En) : Option Slot → R Fl
  | some (.ow _ _) => (mi e).bind (kAi1 j gg g gs m)
  | _ => .stuck
theorem ap_mAugIx (j : Nat) (gg : D → D → Option D) (g : D → D → Option Val) (gs : D → D → D → Option D) (mi m : ME) (e : En) : mAugIx j gg g gs mi m e = kAi j gg g gs mi m e e[j]? := (rfl)
theorem kAi_ow (j : Nat) (gg : D → D → Option D) (g : D → D → Option Val) (gs : D → D → D → Option D) (mi m : ME) (e : En) (b : Bool) (y : D) : kAi j gg g gs mi m e (some (.ow b y)) = (mi e).bind (kAi1 j gg g gs m) := (rfl)
theorem ap_kAi1 (j : Nat) (gg : D → D → Option D) (g : D → D → Option Val) (gs : D → D → D → Option D) (m : ME) (ri : Val) (e : En) : kAi1 j gg g gs m ri e = kAi2 j gg g gs m ri e (deref e ri) := (rfl)
theorem kAi2_some (j : Nat) (gg : D → D → Option D) (g : D → D → Option Val) (gs : D → D → D → Option D) (m : ME) (ri : Val) (e : En) (di : D) : kAi2 j gg g gs m ri e (some di) = kAi2b j gg g gs m ri di e ((e[j]?).bind Slot.ownd) := (rfl)
theorem kAi2b_some (j : Nat) (gg : D → D → Option D) (g : D → D → Option Val) (gs : D → D → D → Option D) (m : ME) (ri : Val) (di : D) (e : En) (c : D) : kAi2b j gg g gs m ri di e (some c) = kAi2c j g gs m ri e (gg c di) := (rfl)
theorem kAi2c_some (j : Nat) (g : D → D → Option Val) (gs : D → D → D → Option D) (m : ME) (ri : Val) (e : En) (old : D) : kAi2c j g gs m ri e (some old) = (m e).bind (kAi3 j g gs ri old) := (rfl)
theorem ap_kAi3 (j : Nat) (g : D → D → Option Val) (gs : D → D → D → Option D) (ri : Val) (old : D) (r : Val) (e : En) : kAi3 j g gs ri old r e = kAi3b j g gs ri old e (deref e r) := (rfl)
theorem kAi3b_some (j : Nat) (g : D → D → Option Val) (gs : D → D → D → Option D) (ri : Val) (old : D) (e : En) (dv : D) : kAi3b j g gs ri old e (some dv) = kAi4 j gs ri e (g old dv) := (rfl)
theorem kAi4_some (j : Nat) (gs : D → D → D → Option D) (ri : Val) (e : En) (new : D) : kAi4 j gs ri e (some (.d new)) = kAi5 j gs new e (deref e ri) := (rfl)
theorem kAi5_some (j : Nat) (gs : D → D → D → Option D) (new : D) (e : En) (di2 : D) : kAi5 j gs new e (some di2) = kSi4 j gs di2 new e e[j]? := (rfl)
/-- methods that change -/
def kMu4 (i : Nat) (b : Bool) (e : En) : Option (D × D) → R Val
  | some (x, d') => .ok (.d x) (e.set i (.ow b d'))
  | none => .stuck
def kMu3 (i : Nat) (g : MG) (ds : List D) (e : En) : Option Slot → R Val
  | some (.ow b d) => kMu4 i b e (g d ds)
  | _ => .stuck
def kMu2 (i : Nat) (g : MG) : Option (List D × En) → R Val
  | some (ds, e2) => kMu3 i g ds e2 e2[i]?
  | none => .stuck
def kMu1 (i : Nat) (g : MG) (rs : List Val) (e : En) : R Val := kMu2 i g (frzs rs e)
def kMu (i : Nat) (T : String) (g : MG) (ms : En → R (List Val)) (e : En) : Option Slot → R Val
  | some (.ow _ d0) => if tnm d0 = T then (ms e).bind (kMu1 i g) else .stuck
  | _ => .stuck
theorem ap_mMut (i : Nat) (T : String) (g : MG) (ms : En → R (List Val)) (e : En) : mMut i T g ms e = kMu i T g ms e e[i]? := (rfl)
theorem kMu_ow (i : Nat) (T : String) (g : MG) (ms : En → R (List Val)) (e : En) (b : Bool) (d : D) : kMu i T g ms e (some (.ow b d)) = if tnm d = T then (ms e).bind (kMu1 i g) else .stuck := (rfl)
theorem ap_kMu1 (i : Nat) (g : MG) (rs : List Val) (e : En) : kMu1 i g rs e = kMu2 i g (frzs rs e) := (rfl)
theorem kMu2_some (i : Nat) (g : MG) (ds : List D) (e : En) : kMu2 i g (some (ds, e)) = kMu3 i g ds e e[i]? := (rfl)
theorem kMu3_ow (i : Nat) (g : MG) (ds : List D) (e : En) (b : Bool) (d : D) : kMu3 i g ds e (some (.ow b d)) = kMu4 i b e (g d ds) := (rfl)
theorem kMu4_some (i : Nat) (b : Bool) (e : En) (x d : D) : kMu4 i b e (some (x, d)) = .ok (.d x) (e.set i (.ow b d)) := (rfl)
theorem tnm_l (xs : List D) : tnm (.list xs) = "list" := (rfl)
theorem tnm_d (xs : List (D × D)) : tnm (.dict xs) = "dict" := (rfl)
/-- methods that read -/
def kRe4 (e : En) : Option D → R Val
  | some x => .ok (.d x) e
  | none => .stuck
def kRe3 (g : D → List D → Option D) (ds : List D) (e : En) : Option D → R Val
  | some d => kRe4 e (g d ds)
  | none => .stuck
def kRe2 (g : D → List D → Option D) (r : Val) : Option (List D × En) → R Val
  | some (ds, e2) => kRe3 g ds e2 (deref e2 r)
  | none => .stuck
def kRe1 (g : D → List D → Option D) (r : Val) (rs : List Val) (e : En) : R Val := kRe2 g r (frzs rs e)
def kRe (T : String) (g : D → List D → Option D) (ms : En → R (List Val)) (r : Val) (e : En) : R Val := if tyIs T r e = true then (ms e).bind (kRe1 g r) else .stuck
theorem ap_mRead (T : String) (g : D → List D → Option D) (m : ME) (ms : En → R (List Val)) (e : En) : mRead T g m ms e = (m e).bind (kRe T g ms) := (rfl)
theorem ap_kRe (T : String) (g : D → List D → Option D) (ms : En → R (List Val)) (r : Val) (e : En) : kRe T g ms r e = if tyIs T r e = true then (ms e).bind (kRe1 g r) else .stuck := (rfl)
theorem ap_kRe1 (g : D → List D → Option D) (r : Val) (rs : List Val) (e : En) : kRe1 g r rs e = kRe2 g r (frzs rs e) := (rfl)
theorem kRe2_some (g : D → List D → Option D) (r : Val) (ds : List D) (e : En) : kRe2 g r (some (ds, e)) = kRe3 g ds e (deref e r) := (rfl)
theorem kRe3_some (g : D → List D → Option D) (ds : List D) (e : En) (d : D) : kRe3 g ds e (some d) = kRe4 e (g d ds) := (rfl)
theorem kRe4_some (e : En) (x : D) : kRe4 e (some x) = .ok (.d x) e := (rfl)
def tyO (T : String) : Option D → Bool
  | some d => T != "" && tnm2 d == T
  | none => false
theorem ap_tyIs (T : String) (r : Val) (e : En) : tyIs T r e = tyO T (deref e r) := (rfl)
theorem tyO_l (xs : List D) : tyO "list" (some (.list xs)) = true := (rfl)
theorem tyO_t (xs : List D) : tyO "tuple" (some (.tuple xs)) = true := (rfl)
theorem tyO_d (xs : List (D × D)) : tyO "dict" (some (.dict xs)) = true := (rfl)
theorem tyO_s (xs : Str) : tyO "str" (some (.str xs)) = true := (rfl)
theorem ap_gNm (i : Nat) (d : D) (e : En) : gNm i d e = if okTgt e i = true then some (e.set i (.sh d)) else none := (rfl)
theorem gTp_t (n : Nat) (gs : List D → En → Option En) (ds : List D) (e : En) : gTp n gs (.tuple ds) e = if ds.length = n then gs ds e else none := (rfl)
theorem gTp_l (n : Nat) (gs : List D → En → Option En) (ds : List D) (e : En) : gTp n gs (.list ds) e = if ds.length = n then gs ds e else none := (rfl)
theorem gNl_nil (e : En) : gNl [] e = some e := (rfl)
def gCn1 (gs : List D → En → Option En) (ds : List D) : Option En → Option En
  | some e => gs ds e
  | none => none
theorem ap_gCn (g : TgD) (gs : List D → En → Option En) (d : D) (ds : List D) (e : En) : gCn g gs (d :: ds) e = gCn1 gs ds (g d e) := (rfl)
theorem gCn1_some (gs : List D → En → Option En) (ds : List D) (e : En) : gCn1 gs ds (some e) = gs ds e := (rfl)
def kAT3 : Option En → R Fl
  | some e2 => .ok .nx e2
  | none => .stuck
def kAT2 (g : TgD) (e : En) : Option D → R Fl
  | some d => kAT3 (g d e)
  | none => .stuck
def kAT (g : TgD) (r : Val) (e : En) : R Fl := kAT2 g e (deref e r)
theorem ap_mAsgT (g : TgD) (m : ME) (e : En) : mAsgT g m e = (m e).bind (kAT g) := (rfl)
theorem ap_kAT (g : TgD) (r : Val) (e : En) : kAT g r e = kAT2 g e (deref e r) := (rfl)
theorem kAT2_some (g : TgD) (e : En) (d : D) : kAT2 g e (some d) = kAT3 (g d e) := (rfl)
theorem kAT3_some (e : En) : kAT3 (some e) = .ok .nx e := (rfl)
def prF : Option (D × En) → Option (Val × En)
  | some (d, e) => some (.d d, e)
  | none => none
theorem prep_d (x : D) (e : En) : prep (.d x) e = some (.d x, e) := (rfl)
theorem prep_nw (x : D) (e : En) : prep (.nw x) e = some (.nw x, e) := (rfl)
theorem prep_own (j : Nat) (e : En) : prep (.own j) e = prF (frz1 (.own j) e) := (rfl)
theorem prF_some (d : D) (e : En) : prF (some (d, e)) = some (.d d, e) := (rfl)
theorem st1_d (i : Nat) (x : D) (e : En) : st1 i (.d x) e = if okTgt e i = true then some (e.set i (.sh x)) else none := (rfl)
theorem st1_nw (i : Nat) (x : D) (e : En) : st1 i (.nw x) e = if okTgt e i = true then some (e.set i (.ow false x)) else none := (rfl)
def kP4 (j : Nat) (b : Val) : Option En → R Fl
  | some e3 => kAT3 (st1 j b e3)
  | none => .stuck
def kP3 (i j : Nat) (a : Val) : Option (Val × En) → R Fl
  | some (b, e2) => kP4 j b (st1 i a e2)
  | none => .stuck
def kP2 (i j : Nat) (r2 : Val) : Option (Val × En) → R Fl
  | some (a, e1) => kP3 i j a (prep r2 e1)
  | none => .stuck
theorem ap_par2 (i j : Nat) (r1 r2 : Val) (e : En) : par2 i j r1 r2 e = kP2 i j r2 (prep r1 e) := by
  unfold par2
  cases prep r1 e with
  | none => rfl
  | some p =>
    obtain ⟨a, e1⟩ := p
    show (match prep r2 e1 with | none => R.stuck | some (b, e2) => _) = kP3 i j a (prep r2 e1)
    cases prep r2 e1 with
    | none => rfl
    | some q =>
      obtain ⟨b, e2⟩ := q
      show (match st1 i a e2 with | none => R.stuck | some e3 => _) = kP4 j b (st1 i a e2)
      cases st1 i a e2 with
      | none => rfl
      | some e3 =>
        show (match st1 j b e3 with | none => R.stuck | some e4 => R.ok Fl.nx e4) = kAT3 (st1 j b e3)
        cases st1 j b e3 <;> rfl
theorem kP2_some (i j : Nat) (r2 a : Val) (e1 : En) : kP2 i j r2 (some (a, e1)) = kP3 i j a (prep r2 e1) := (rfl)
theorem kP3_some (i j : Nat) (a b : Val) (e1 : En) : kP3 i j a (some (b, e1)) = kP4 j b (st1 i a e1) := (rfl)
theorem kP4_some (j : Nat) (b : Val) (e : En) : kP4 j b (some e) = kAT3 (st1 j b e) := (rfl)
def kPar2 (i j : Nat) (mb : ME) (r1 : Val) (e : En) : R Fl := (mb e).bind (par2 i j r1)
theorem ap_kPar2 (i j : Nat) (mb : ME) (r1 : Val) (e : En) : kPar2 i j mb r1 e = (mb e).bind (par2 i j r1) := (rfl)
theorem ap_mPar2 (i j : Nat) (ma mb : ME) (e : En) : mPar2 i j ma mb e = (ma e).bind (kPar2 i j mb) := (rfl)
def kQ4 (j l : Nat) (b c : Val) : Option En → R Fl
  | some e4 => kP4 l c (st1 j b e4)
  | none => .stuck
def kQ3 (i j l : Nat) (a b : Val) : Option (Val × En) → R Fl
  | some (c, e3) => kQ4 j l b c (st1 i a e3)
  | none => .stuck
def kQ2 (i j l : Nat) (r3 a : Val) : Option (Val × En) → R Fl
  | some (b, e2) => kQ3 i j l a b (prep r3 e2)
  | none => .stuck
def kQ1 (i j l : Nat) (r2 r3 : Val) : Option (Val × En) → R Fl
  | some (a, e1) => kQ2 i j l r3 a (prep r2 e1)
  | none => .stuck
theorem ap_par3 (i j l : Nat) (r1 r2 r3 : Val) (e : En) : par3 i j l r1 r2 r3 e = kQ1 i j l r2 r3 (prep r1 e) := by
  unfold par3
  cases prep r1 e with
  | none => rfl
  | some p =>
    obtain ⟨a, e1⟩ := p
    show (match prep r2 e1 with | none => R.stuck | some (b, e2) => _) = kQ2 i j l r3 a (prep r2 e1)
    cases prep r2 e1 with
    | none => rfl
    | some q =>
      obtain ⟨b, e2⟩ := q
      show (match prep r3 e2 with | none => R.stuck | some (c, e3) => _) = kQ3 i j l a b (prep r3 e2)
      cases prep r3 e2 with
      | none => rfl
      | some q =>
        obtain ⟨c, e3⟩ := q
        show (match st1 i a e3 with | none => R.stuck | some e4 => _) = kQ4 j l b c (st1 i a e3)
        cases st1 i a e3 with
        | none => rfl
        | some e4 =>
          show (match st1 j b e4 with | none => R.stuck | some e5 => _) = kP4 l c (st1 j b e4)
          cases st1 j b e4 with
          | none => rfl
          | some e5 =>
            show (match st1 l c e5 with | none => R.stuck | some e6 => R.ok Fl.nx e6) = kAT3 (st1 l c e5)
            cases st1 l c e5 <;> rfl
theorem kQ1_some (i j l : Nat) (r2 r3 a : Val) (e1 : En) : kQ1 i j l r2 r3 (some (a, e1)) = kQ2 i j l r3 a (prep r2 e1) := (rfl)
theorem kQ2_some (i j l : Nat) (r3 a b : Val) (e1 : En) : kQ2 i j l r3 a (some (b, e1)) = kQ3 i j l a b (prep r3 e1) := (rfl)
theorem kQ3_some (i j l : Nat) (a b c : Val) (e1 : En) : kQ3 i j l a b (some (c, e1)) = kQ4 j l b c (st1 i a e1) := (rfl)
theorem kQ4_some (j l : Nat) (b c : Val) (e1 : En) : kQ4 j l b c (some e1) = kP4 l c (st1 j b e1) := (rfl)
def kPar3b (i j l : Nat) (mc : ME) (r1 r2 : Val) (e : En) : R Fl := (mc e).bind (par3 i j l r1 r2)
def kPar3 (i j l : Nat) (mb mc : ME) (r1 : Val) (e : En) : R Fl := (mb e).bind (kPar3b i j l mc r1)
theorem ap_kPar3b (i j l : Nat) (mc : ME) (r1 r2 : Val) (e : En) : kPar3b i j l mc r1 r2 e = (mc e).bind (par3 i j l r1 r2) := (rfl)
theorem ap_kPar3 (i j l : Nat) (mb mc : ME) (r1 : Val) (e : En) : kPar3 i j l mb mc r1 e = (mb e).bind (kPar3b i j l mc r1) := (rfl)
theorem ap_mPar3 (i j l : Nat) (ma mb mc : ME) (e : En) : mPar3 i j l ma mb mc e = (ma e).bind (kPar3 i j l mb mc) := (rfl)
def kPC5 (dk dv : D) (ds : List (D × D)) (e : En) : R (List (D × D)) := .ok ((dk, dv) :: ds) e
def kPC4 (dk : D) (mr : MPs) : Option (D × En) → R (List (D × D))
  | some (dv, e4) => (mr e4).bind (kPC5 dk dv)
  | none => .stuck
def kPC3 (dk : D) (mr : MPs) (rv : Val) (e : En) : R (List (D × D)) := kPC4 dk mr (frz1 rv e)
def kPC2 (mv : ME) (mr : MPs) : Option (D × En) → R (List (D × D))
  | some (dk, e2) => (mv e2).bind (kPC3 dk mr)
  | none => .stuck
def kPC (mv : ME) (mr : MPs) (rk : Val) (e : En) : R (List (D × D)) := kPC2 mv mr (frz1 rk e)
theorem ap_kPC5 (dk dv : D) (ds : List (D × D)) (e : En) : kPC5 dk dv ds e = .ok ((dk, dv) :: ds) e := (rfl)
theorem kPC4_some (dk : D) (mr : MPs) (dv : D) (e : En) : kPC4 dk mr (some (dv, e)) = (mr e).bind (kPC5 dk dv) := (rfl)
theorem ap_kPC3 (dk : D) (mr : MPs) (rv : Val) (e : En) : kPC3 dk mr rv e = kPC4 dk mr (frz1 rv e) := (rfl)
theorem kPC2_some (mv : ME) (mr : MPs) (dk : D) (e : En) : kPC2 mv mr (some (dk, e)) = (mv e).bind (kPC3 dk mr) := (rfl)
theorem ap_kPC (mv : ME) (mr : MPs) (rk : Val) (e : En) : kPC mv mr rk e = kPC2 mv mr (frz1 rk e) := (rfl)
theorem ap_pNil (e : En) : pNil e = .ok [] e := (rfl)
theorem ap_pCons (mk mv : ME) (mr : MPs) (e : En) : pCons mk mv mr e = (mk e).bind (kPC mv mr) := by
  show (mk e).bind _ = _
  congr 1; funext rk e1
  unfold kPC
  cases frz1 rk e1 with
  | none => rfl
  | some p =>
    obtain ⟨dk, e2⟩ := p
    show (mv e2).bind _ = (mv e2).bind _
    congr 1; funext rv e3
    unfold kPC3
    cases frz1 rv e3 with
    | none => rfl
    | some q => rfl
def kD2 (e : En) : Option (List (D × D)) → R Val
  | some kvs => .ok (.nw (.dict kvs)) e
  | none => .stuck
def kD : R (List (D × D)) → R Val
  | .ok ds e => kD2 e (dStore [] ds)
  | _ => .stuck
theorem ap_mDict (ms : MPs) (e : En) : mDict ms e = kD (ms e) := (rfl)
theorem kD_ok (ds : List (D × D)) (e : En) : kD (.ok ds e) = kD2 e (dStore [] ds) := (rfl)
theorem kD2_some (kvs : List (D × D)) (e : En) : kD2 e (some kvs) = .ok (.nw (.dict kvs)) e := (rfl)
theorem dStore_nil (kvs : List (D × D)) : dStore kvs [] = some kvs := (rfl)
theorem dStore_cons (kvs : List (D × D)) (k v : D) (r : List (D × D)) : dStore kvs ((k, v) :: r) = if keyOk kvs k = true ∧ kvs.length < sizeLine then dStore (dSet kvs k v) r else none := (rfl)
def wkS (j : Nat) : Option Slot → Option (List D × Option Nat)
  | some (.ow _ (.list ds)) => some (ds, some j)
  | some (.lk _ (.list ds)) => some (ds, none)
  | some (.sh (.list ds)) => some (ds, none)
  | some (.sh (.tuple ds)) => some (ds, none)
  | some (.sh (.str z)) => some (signs z, none)
  | _ => none
theorem wk_l (ds : List D) (e : En) : walk (.d (.list ds)) e = some (ds, none) := (rfl)
theorem wk_t (ds : List D) (e : En) : walk (.d (.tuple ds)) e = some (ds, none) := (rfl)
theorem wk_s (z : Str) (e : En) : walk (.d (.str z)) e = some (signs z, none) := (rfl)
theorem wk_n (ds : List D) (e : En) : walk (.nw (.list ds)) e = some (ds, none) := (rfl)
theorem wk_own (j : Nat) (e : En) : walk (.own j) e = wkS j e[j]? := (rfl)
theorem wkS_ol (j : Nat) (b : Bool) (ds : List D) : wkS j (some (.ow b (.list ds))) = some (ds, some j) := (rfl)
theorem wkS_ll (j : Nat) (b : Bool) (ds : List D) : wkS j (some (.lk b (.list ds))) = some (ds, none) := (rfl)
theorem wkS_sl (j : Nat) (ds : List D) : wkS j (some (.sh (.list ds))) = some (ds, none) := (rfl)
theorem wkS_st (j : Nat) (ds : List D) : wkS j (some (.sh (.tuple ds))) = some (ds, none) := (rfl)
theorem wkS_ss (j : Nat) (z : Str) : wkS j (some (.sh (.str z))) = some (signs z, none) := (rfl)
def kW2 (e : En) : Option (List D × Option Nat) → R (List D × Option Nat)
  | some p => .ok p e
  | none => .stuck
def kW (r : Val) (e : En) : R (List D × Option Nat) := kW2 e (walk r e)
theorem ap_kW (r : Val) (e : En) : kW r e = kW2 e (walk r e) := (rfl)
theorem kW2_some (e : En) (p : List D × Option Nat) : kW2 e (some p) = .ok p e := (rfl)
theorem ap_iSeq (m : ME) (e : En) : iSeq m e = (m e).bind kW := (rfl)
def kRg3 (e : En) : Option (List D) → R (List D × Option Nat)
  | some xs => .ok (xs, none) e
  | none => .stuck
def kRg2 (e : En) : Option (List D) → R (List D × Option Nat)
  | some ds => kRg3 e (rngOf ds)
  | none => .stuck
def kRg (rs : List Val) (e : En) : R (List D × Option Nat) := kRg2 e (derefs e rs)
theorem ap_kRg (rs : List Val) (e : En) : kRg rs e = kRg2 e (derefs e rs) := (rfl)
theorem kRg2_some (e : En) (ds : List D) : kRg2 e (some ds) = kRg3 e (rngOf ds) := (rfl)
theorem kRg3_some (e : En) (ds : List D) : kRg3 e (some ds) = .ok (ds, none) e := (rfl)
theorem ap_iRange (ms : En → R (List Val)) (e : En) : iRange ms e = (ms e).bind kRg := (rfl)
/-- the ints from lo on -/
def rngI (lo : Int) (n : Nat) : List Int := (List.range n).map fun (i : Nat) => lo + (i : Int)
theorem rngD1 (lo : Int) (n : Nat) : rngD lo 1 n = (rngI lo n).map .int := by simp [rngD, rngI]
theorem rng1 {j : Int} (h : -4611686018427387904 ≤ j) (h2 : j < 4611686018427387904) : rngOf [.int j] = some ((rngI 0 j.toNat).map .int) := by
  have : small62 j = true := by unfold small62; simp only [Bool.and_eq_true, decide_eq_true_eq]; omega
  rw [← rngD1]
  simp only [rngOf, this, if_true]
theorem rng2 {i j : Int} (h : -4611686018427387904 ≤ i) (h2 : i < 4611686018427387904) (h3 : -4611686018427387904 ≤ j) (h4 : j < 4611686018427387904) : rngOf [.int i, .int j] = some ((rngI i (j - i).toNat).map .int) := by
  have t : small62 i = true := by unfold small62; simp only [Bool.and_eq_true, decide_eq_true_eq]; omega
  have u : small62 j = true := by unfold small62; simp only [Bool.and_eq_true, decide_eq_true_eq]; omega
  rw [← rngD1]
  simp only [rngOf, t, u, and_self, if_true]
def kEn3 (e : En) (ds : List D) (o : Option Nat) : Option Slot → R (List D × Option Nat)
  | some (.sh (.str _)) => .stuck
  | _ => .ok (enumD ds, o) e
def kEn2 (e : En) (r : Val) : Option (List D × Option Nat) → R (List D × Option Nat)
  | some (ds, o) => match r with
    | .d (.str _) => .stuck
    | .own j => kEn3 e ds o e[j]?
    | _ => .ok (enumD ds, o) e
  | none => .stuck
def kEn (r : Val) (e : En) : R (List D × Option Nat) := kEn2 e r (walk r e)
theorem ap_kEn (r : Val) (e : En) : kEn r e = kEn2 e r (walk r e) := (rfl)
theorem kEn2_t (e : En) (xs ds : List D) (o : Option Nat) : kEn2 e (.d (.tuple xs)) (some (ds, o)) = .ok (enumD ds, o) e := (rfl)
theorem kEn2_l (e : En) (xs ds : List D) (o : Option Nat) : kEn2 e (.d (.list xs)) (some (ds, o)) = .ok (enumD ds, o) e := (rfl)
theorem kEn2_nw (e : En) (x : D) (ds : List D) (o : Option Nat) : kEn2 e (.nw x) (some (ds, o)) = .ok (enumD ds, o) e := (rfl)
theorem kEn2_own (e : En) (j : Nat) (ds : List D) (o : Option Nat) : kEn2 e (.own j) (some (ds, o)) = kEn3 e ds o e[j]? := (rfl)
theorem kEn3_ow (e : En) (ds : List D) (o : Option Nat) (b : Bool) (d : D) : kEn3 e ds o (some (.ow b d)) = .ok (enumD ds, o) e := (rfl)
theorem kEn3_lk (e : En) (ds : List D) (o : Option Nat) (b : Bool) (d : D) : kEn3 e ds o (some (.lk b d)) = .ok (enumD ds, o) e := (rfl)
theorem kEn3_sl (e : En) (ds : List D) (o : Option Nat) (d : List D) : kEn3 e ds o (some (.sh (.list d))) = .ok (enumD ds, o) e := (rfl)
theorem kEn3_st (e : En) (ds : List D) (o : Option Nat) (d : List D) : kEn3 e ds o (some (.sh (.tuple d))) = .ok (enumD ds, o) e := (rfl)
theorem ap_iEnumD (m : ME) (e : En) : iEnumD m e = (m e).bind kEn := (rfl)
def kIt2 : Option (D × En) → R (List D × Option Nat)
  | some (.dict kvs, e2) => .ok (itemsD kvs, none) e2
  | _ => .stuck
def kIt (r : Val) (e : En) : R (List D × Option Nat) := kIt2 (frz1 r e)
theorem ap_kIt (r : Val) (e : En) : kIt r e = kIt2 (frz1 r e) := (rfl)
theorem kIt2_d (kvs : List (D × D)) (e : En) : kIt2 (some (.dict kvs, e)) = .ok (itemsD kvs, none) e := (rfl)
theorem ap_iItemsD (m : ME) (e : En) : iItemsD m e = (m e).bind kIt := (rfl)
def kF2 (g : TgD) (body : MS) (ds : List D) (i : Nat) (e : En) : Option Slot → R Fl
  | some (.ow b d) => unl i b d (mLoop g body ds (e.set i (.lk b d)))
  | _ => mLoop g body ds e
def kF (g : TgD) (body : MS) : List D × Option Nat → En → R Fl
  | (ds, none), e => mLoop g body ds e
  | (ds, some i), e => kF2 g body ds i e e[i]?
theorem kF_none (g : TgD) (body : MS) (ds : List D) (e : En) : kF g body (ds, none) e = mLoop g body ds e := (rfl)
theorem kF_some (g : TgD) (body : MS) (ds : List D) (i : Nat) (e : En) : kF g body (ds, some i) e = kF2 g body ds i e e[i]? := (rfl)
theorem kF2_ow (g : TgD) (body : MS) (ds : List D) (i : Nat) (e : En) (b : Bool) (d : D) : kF2 g body ds i e (some (.ow b d)) = unl i b d (mLoop g body ds (e.set i (.lk b d))) := (rfl)
theorem ap_mFor (mi : MI) (g : TgD) (body : MS) (e : En) : mFor mi g body e = (mi e).bind (kF g body) := by
  show (mi e).bind _ = _
  congr 1; funext r e1
  obtain ⟨ds, o⟩ := r
  cases o with
  | none => rfl
  | some i =>
    unfold locked kF
    dsimp only
    cases e1[i]? with
    | none => rfl
    | some s => cases s <;> rfl
def UnlK (i : Nat) (b : Bool) (d : D) (P : Fl → En → Prop) (fl : Fl) (e : En) : Prop := P fl (e.set i (.ow b d))
theorem ap_UnlK (i : Nat) (b : Bool) (d : D) (P : Fl → En → Prop) (fl : Fl) (e : En) : UnlK i b d P fl e = P fl (e.set i (.ow b d)) := (rfl)
theorem sat_unlK (i : Nat) (b : Bool) (d : D) (x : R Fl) (P : Fl → En → Prop) : Sat (unl i b d x) P = Sat x (UnlK i b d P) := by cases x <;> exact propext ⟨fun h => ⟨h.run⟩, fun h => ⟨h.run⟩⟩
theorem wipe_nil (e : En) : wipeE e [] = e := (rfl)
theorem wipe_cons (e : En) (v : Nat) (vs : List Nat) : wipeE e (v :: vs) = (wipeE e vs).set v .un := (rfl)
def bk1 (v : Nat) (e : En) : Option Slot → En
  | some s => e.set v s
  | none => e
theorem back_nil (e0 e : En) : backE e0 e [] = e := (rfl)
theorem back_cons (e0 e : En) (v : Nat) (vs : List Nat) : backE e0 e (v :: vs) = bk1 v (backE e0 e vs) e0[v]? := (rfl)
theorem bk1_some (v : Nat) (e : En) (s : Slot) : bk1 v e (some s) = e.set v s := (rfl)
def okSo2 : Option Slot → Bool
  | some s => okS s
  | none => false
theorem okV_nil (e : En) : okV [] e = true := (rfl)
theorem okV_cons (v : Nat) (vs : List Nat) (e : En) : okV (v :: vs) e = (okSo2 e[v]? && okV vs e) := (rfl)
theorem okSo2_some (s : Slot) : okSo2 (some s) = okS s := (rfl)
theorem okS_un : okS .un = true := (rfl)
theorem okS_sh (d : D) : okS (.sh d) = true := (rfl)
theorem okS_jk (o : Option D) : okS (jk o) = true := by cases o <;> rfl
def lk1 (i : Nat) (e : En) : Option Slot → En
  | some (.ow b d) => e.set i (.lk b d)
  | _ => e
theorem lock_none (e : En) : lockE none e = e := (rfl)
theorem lock_some (i : Nat) (e : En) : lockE (some i) e = lk1 i e e[i]? := (rfl)
theorem lk1_ow (i : Nat) (e : En) (b : Bool) (d : D) : lk1 i e (some (.ow b d)) = e.set i (.lk b d) := (rfl)
def ul1 (i : Nat) (e : En) : Option Slot → En
  | some (.ow b d) => e.set i (.ow b d)
  | _ => e
theorem unlE_none (e1 e : En) : unlE none e1 e = e := (rfl)
theorem unlE_some (i : Nat) (e1 e : En) : unlE (some i) e1 e = ul1 i e e1[i]? := (rfl)
theorem ul1_ow (i : Nat) (e : En) (b : Bool) (d : D) : ul1 i e (some (.ow b d)) = e.set i (.ow b d) := (rfl)
theorem ap_bkE (o : Option Nat) (e1 : En) (vs : List Nat) (e2 : En) : bkE o e1 vs e2 = unlE o e1 (backE (lockE o e1) e2 vs) := (rfl)
def lcF (vs : List Nat) (o : Option Nat) (e1 : En) : R (List D) → R Val
  | .ok acc e2 => .ok (.nw (.list acc)) (bkE o e1 vs e2)
  | _ => .stuck
def kLc (vs : List Nat) (g : TgD) (mt : MT) (me : ME) : List D × Option Nat → En → R Val
  | (ds, o), e => if okV vs (lockE o e) = true then lcF vs o e (lcLoop vs g mt me ds [] (wipeE (lockE o e) vs)) else .stuck
theorem ap_kLc (vs : List Nat) (g : TgD) (mt : MT) (me : ME) (ds : List D) (o : Option Nat) (e : En) : kLc vs g mt me (ds, o) e = if okV vs (lockE o e) = true then lcF vs o e (lcLoop vs g mt me ds [] (wipeE (lockE o e) vs)) else .stuck := (rfl)
theorem lcF_ok (vs : List Nat) (o : Option Nat) (e1 : En) (acc : List D) (e2 : En) : lcF vs o e1 (.ok acc e2) = .ok (.nw (.list acc)) (bkE o e1 vs e2) := (rfl)
theorem ap_mLc (vs : List Nat) (mi : MI) (g : TgD) (mt : MT) (me : ME) (e : En) : mLc vs mi g mt me e = (mi e).bind (kLc vs g mt me) := (rfl)
def agF (vs : List Nat) (o : Option Nat) (e1 : En) : R Bool → R Val
  | .ok b e2 => .ok (.d (.bool b)) (bkE o e1 vs e2)
  | _ => .stuck
def kAg (t : Bool) (vs : List Nat) (g : TgD) (mt : MT) (me : ME) : List D × Option Nat → En → R Val
  | (ds, o), e => if okV vs (lockE o e) = true then agF vs o e (allG vs g mt me t ds (wipeE (lockE o e) vs)) else .stuck
theorem ap_kAg (t : Bool) (vs : List Nat) (g : TgD) (mt : MT) (me : ME) (ds : List D) (o : Option Nat) (e : En) : kAg t vs g mt me (ds, o) e = if okV vs (lockE o e) = true then agF vs o e (allG vs g mt me t ds (wipeE (lockE o e) vs)) else .stuck := (rfl)
theorem agF_ok (vs : List Nat) (o : Option Nat) (e1 : En) (b : Bool) (e2 : En) : agF vs o e1 (.ok b e2) = .ok (.d (.bool b)) (bkE o e1 vs e2) := (rfl)
theorem ap_mAllG (t : Bool) (vs : List Nat) (mi : MI) (g : TgD) (mt : MT) (me : ME) (e : En) : mAllG t vs mi g mt me e = (mi e).bind (kAg t vs g mt me) := (rfl)
def sgF (vs : List Nat) (o : Option Nat) (e1 : En) : R Int → R Val
  | .ok b e2 => .ok (.d (.int b)) (bkE o e1 vs e2)
  | _ => .stuck
def kSg (vs : List Nat) (g : TgD) (mt : MT) (me : ME) : List D × Option Nat → En → R Val
  | (ds, o), e => if okV vs (lockE o e) = true then sgF vs o e (sumG vs g mt me 0 ds (wipeE (lockE o e) vs)) else .stuck
theorem ap_kSg (vs : List Nat) (g : TgD) (mt : MT) (me : ME) (ds : List D) (o : Option Nat) (e : En) : kSg vs g mt me (ds, o) e = if okV vs (lockE o e) = true then sgF vs o e (sumG vs g mt me 0 ds (wipeE (lockE o e) vs)) else .stuck := (rfl)
theorem sgF_ok (vs : List Nat) (o : Option Nat) (e1 : En) (b : Int) (e2 : En) : sgF vs o e1 (.ok b e2) = .ok (.d (.int b)) (bkE o e1 vs e2) := (rfl)
theorem ap_mSumG (vs : List Nat) (mi : MI) (g : TgD) (mt : MT) (me : ME) (e : En) : mSumG vs mi g mt me e = (mi e).bind (kSg vs g mt me) := (rfl)
def tF2 (i : Nat) (c : Nat) (e : En) : Option D → R Fl
  | some d => if i < e.length then .ok (.rt (.d d)) e else .stuck
  | none => .exc c e
def tF (i : Nat) (res : Nat → Option D) : R Fl → R Fl
  | .exc c e => tF2 i c e (res c)
  | .ok a e => .ok a e
  | .stuck => .stuck
theorem ap_mTry (i : Nat) (res : Nat → Option D) (mb : MS) (e : En) : mTry i res mb e = tF i res (mb e) := by
  unfold mTry tF
  cases mb e with
  | exc c e1 => show (match res c with | some d => _ | none => _) = tF2 i c e1 (res c); cases res c <;> rfl
  | _ => rfl
theorem tF_ok (i : Nat) (res : Nat → Option D) (a : Fl) (e : En) : tF i res (.ok a e) = .ok a e := (rfl)
theorem tF_exc (i : Nat) (res : Nat → Option D) (c : Nat) (e : En) : tF i res (.exc c e) = tF2 i c e (res c) := (rfl)
theorem tF2_some (i : Nat) (c : Nat) (e : En) (d : D) : tF2 i c e (some d) = if i < e.length then .ok (.rt (.d d)) e else .stuck := (rfl)
theorem tF2_none (i : Nat) (c : Nat) (e : En) : tF2 i c e none = .exc c e := (rfl)
def kSq (b : MS) : Fl → En → R Fl
  | .nx, e => b e
  | fl, e => .ok fl e
theorem ap_mSeq (a b : MS) (e : En) : mSeq a b e = (a e).bind (kSq b) := by
  show (a e).bind _ = _
  congr 1; funext fl e1
  cases fl <;> rfl
theorem kSq_nx (b : MS) (e : En) : kSq b .nx e = b e := (rfl)
theorem kSq_rt (b : MS) (e : En) (v : Val) : kSq b (.rt v) e = .ok (.rt v) e := (rfl)
theorem kSq_bk (b : MS) (e : En) : kSq b .bk e = .ok .bk e := (rfl)
theorem kSq_ct (b : MS) (e : En) : kSq b .ct e = .ok .ct e := (rfl)
def kIS (a b : MS) (c : Bool) (e : En) : R Fl := if c = true then a e else b e
theorem ap_kIS (a b : MS) (c : Bool) (e : En) : kIS a b c e = if c = true then a e else b e := (rfl)
theorem ap_mIfS (t : MT) (a b : MS) (e : En) : mIfS t a b e = (t e).bind (kIS a b) := (rfl)
theorem end_rt (k : Nat) (v : Val) (e : En) : endFn k (.ok (.rt v) e) = .ok v (outs k e) := (rfl)
theorem end_nx (k : Nat) (e : En) : endFn k (.ok .nx e) = .ok (.d .none) (outs k e) := (rfl)
theorem end_exc (k : Nat) (c : Nat) (e : En) : endFn k (.exc c e) = .exc c (outs k e) := (rfl)
end PV

set_option Elab.async false
set_option linter.all false
set_option maxRecDepth 100000
set_option maxHeartbeats 4000000
namespace PV
open PySem PySem.Spec PyProof.Rows L2

def it4 (vs : List Nat) : Option (D × En) → R (Option D)
  | some (y, e4) => .ok (some y) (wipeE e4 vs)
  | none => .stuck
def it3 (vs : List Nat) (r : Val) (e : En) : R (Option D) := it4 vs (frz1 r e)
def it2 (vs : List Nat) (me : ME) (b : Bool) (e : En) : R (Option D) := if b = true then (me e).bind (it3 vs) else .ok none (wipeE e vs)
def it1 (vs : List Nat) (mt : MT) (me : ME) : Option En → R (Option D)
  | some e => (mt e).bind (it2 vs me)
  | none => .stuck
/-- one item of a block: its value, if it is taken -/
def item (vs : List Nat) (g : TgD) (mt : MT) (me : ME) (d : D) (e : En) : R (Option D) := it1 vs mt me (g d e)
theorem ap_item (vs : List Nat) (g : TgD) (mt : MT) (me : ME) (d : D) (e : En) : item vs g mt me d e = it1 vs mt me (g d e) := (rfl)
theorem it1_some (vs : List Nat) (mt : MT) (me : ME) (e : En) : it1 vs mt me (some e) = (mt e).bind (it2 vs me) := (rfl)
theorem ap_it2 (vs : List Nat) (me : ME) (b : Bool) (e : En) : it2 vs me b e = if b = true then (me e).bind (it3 vs) else .ok none (wipeE e vs) := (rfl)
theorem ap_it3 (vs : List Nat) (r : Val) (e : En) : it3 vs r e = it4 vs (frz1 r e) := (rfl)
theorem it4_some (vs : List Nat) (y : D) (e : En) : it4 vs (some (y, e)) = .ok (some y) (wipeE e vs) := (rfl)

def lcN (vs : List Nat) (g : TgD) (mt : MT) (me : ME) (ds acc : List D) : Option D → En → R (List D)
  | some y, e => if acc.length < sizeLine then lcLoop vs g mt me ds (acc ++ [y]) e else .stuck
  | none, e => lcLoop vs g mt me ds acc e
theorem lc_cons (vs : List Nat) (g : TgD) (mt : MT) (me : ME) (d : D) (ds acc : List D) (e : En) : lcLoop vs g mt me (d :: ds) acc e = (item vs g mt me d e).bind (lcN vs g mt me ds acc) := by
  rw [lcLoop, item]; dsimp only
  cases g d e with
  | none => rfl
  | some e1 =>
    show (mt e1).bind _ = ((mt e1).bind (it2 vs me)).bind _
    cases mt e1 with
    | stuck => rfl
    | exc c e => rfl
    | ok b e2 =>
      rw [bind_ok, bind_ok]
      cases b with
      | false => rfl
      | true =>
        show (me e2).bind _ = ((me e2).bind (it3 vs)).bind _
        cases me e2 with
        | stuck => rfl
        | exc c e => rfl
        | ok r e3 =>
          rw [bind_ok, bind_ok]
          unfold it3
          cases frz1 r e3 with
          | none => rfl
          | some p => rfl
theorem lc_nil (vs : List Nat) (g : TgD) (mt : MT) (me : ME) (acc : List D) (e : En) : lcLoop vs g mt me [] acc e = .ok acc e := (rfl)
theorem ap_lcN_s (vs : List Nat) (g : TgD) (mt : MT) (me : ME) (ds acc : List D) (y : D) (e : En) (h : acc.length < 16777216) : lcN vs g mt me ds acc (some y) e = lcLoop vs g mt me ds (acc ++ [y]) e := if_pos h
theorem ap_lcN_n (vs : List Nat) (g : TgD) (mt : MT) (me : ME) (ds acc : List D) (e : En) : lcN vs g mt me ds acc none e = lcLoop vs g mt me ds acc e := (rfl)
def agN (vs : List Nat) (g : TgD) (mt : MT) (me : ME) (t : Bool) (ds : List D) : Option D → En → R Bool
  | some (.bool y), e => if y = t then allG vs g mt me t ds e else .ok (!t) e
  | some _, _ => .stuck
  | none, e => allG vs g mt me t ds e
theorem ag_cons (vs : List Nat) (g : TgD) (mt : MT) (me : ME) (t : Bool) (d : D) (ds : List D) (e : En) : allG vs g mt me t (d :: ds) e = (item vs g mt me d e).bind (agN vs g mt me t ds) := by
  rw [allG, item]; dsimp only
  cases g d e with
  | none => rfl
  | some e1 =>
    show (mt e1).bind _ = ((mt e1).bind (it2 vs me)).bind _
    cases mt e1 with
    | stuck => rfl
    | exc c e => rfl
    | ok b e2 =>
      rw [bind_ok, bind_ok]
      cases b with
      | false => rfl
      | true =>
        show (me e2).bind _ = ((me e2).bind (it3 vs)).bind _
        cases me e2 with
        | stuck => rfl
        | exc c e => rfl
        | ok r e3 =>
          rw [bind_ok, bind_ok]
          unfold it3
          cases frz1 r e3 with
          | none => rfl
          | some p => obtain ⟨d, e4⟩ := p; cases d <;> rfl
theorem ag_nil (vs : List Nat) (g : TgD) (mt : MT) (me : ME) (t : Bool) (e : En) : allG vs g mt me t [] e = .ok t e := (rfl)
theorem ap_agN_b (vs : List Nat) (g : TgD) (mt : MT) (me : ME) (t : Bool) (ds : List D) (y : Bool) (e : En) : agN vs g mt me t ds (some (.bool y)) e = if y = t then allG vs g mt me t ds e else .ok (!t) e := (rfl)
theorem ap_agN_n (vs : List Nat) (g : TgD) (mt : MT) (me : ME) (t : Bool) (ds : List D) (e : En) : agN vs g mt me t ds none e = allG vs g mt me t ds e := (rfl)
def sgN (vs : List Nat) (g : TgD) (mt : MT) (me : ME) (acc : Int) (ds : List D) : Option D → En → R Int
  | some (.int y), e => if (fitI y && fitI (acc + y)) = true then sumG vs g mt me (acc + y) ds e else .stuck
  | some _, _ => .stuck
  | none, e => sumG vs g mt me acc ds e
theorem sg_cons (vs : List Nat) (g : TgD) (mt : MT) (me : ME) (acc : Int) (d : D) (ds : List D) (e : En) : sumG vs g mt me acc (d :: ds) e = (item vs g mt me d e).bind (sgN vs g mt me acc ds) := by
  rw [sumG, item]; dsimp only
  cases g d e with
  | none => rfl
  | some e1 =>
    show (mt e1).bind _ = ((mt e1).bind (it2 vs me)).bind _
    cases mt e1 with
    | stuck => rfl
    | exc c e => rfl
    | ok b e2 =>
      rw [bind_ok, bind_ok]
      cases b with
      | false => rfl
      | true =>
        show (me e2).bind _ = ((me e2).bind (it3 vs)).bind _
        cases me e2 with
        | stuck => rfl
        | exc c e => rfl
        | ok r e3 =>
          rw [bind_ok, bind_ok]
          unfold it3
          cases frz1 r e3 with
          | none => rfl
          | some p => obtain ⟨d, e4⟩ := p; cases d <;> rfl
theorem sg_nil (vs : List Nat) (g : TgD) (mt : MT) (me : ME) (acc : Int) (e : En) : sumG vs g mt me acc [] e = .ok acc e := (rfl)
theorem fit_ok {i : Int} (h : -9223372036854775808 ≤ i) (h2 : i < 9223372036854775808) : fitI i = true := by
  unfold fitI
  rw [Bool.and_eq_true, decide_eq_true_eq, decide_eq_true_eq]
  omega
theorem ap_sgN_i (vs : List Nat) (g : TgD) (mt : MT) (me : ME) (acc : Int) (ds : List D) (y : Int) (e : En) (h1 : -9223372036854775808 ≤ y) (h2 : y < 9223372036854775808) (h3 : -9223372036854775808 ≤ acc + y) (h4 : acc + y < 9223372036854775808) :
    sgN vs g mt me acc ds (some (.int y)) e = sumG vs g mt me (acc + y) ds e := by
  show (if (fitI y && fitI (acc + y)) = true then _ else _) = _
  rw [fit_ok h1 h2, fit_ok h3 h4]
  rfl
theorem ap_sgN_n (vs : List Nat) (g : TgD) (mt : MT) (me : ME) (acc : Int) (ds : List D) (e : En) : sgN vs g mt me acc ds none e = sumG vs g mt me acc ds e := (rfl)

section
variable {α : Type} {enc : α → D} {vs : List Nat} {g : TgD} {mt : MT} {me : ME} {e : En}
theorem lc_map {F : α → Option D} : ∀ {xs : List α} (acc : List D), (∀ x ∈ xs, item vs g mt me (enc x) e = .ok (F x) e) → acc.length + xs.length ≤ 16777216 → lcLoop vs g mt me (xs.map enc) acc e = .ok (acc ++ xs.filterMap F) e
  | [], acc, _, _ => by rw [List.map_nil, lc_nil, List.filterMap_nil, List.append_nil]
  | x :: xs, acc, h, hl => by
    rw [List.length_cons] at hl
    rw [List.map_cons, lc_cons, h x (List.mem_cons_self ..), bind_ok]
    cases z : F x with
    | none => rw [ap_lcN_n, lc_map acc (fun y hy => h y (List.mem_cons_of_mem _ hy)) (by omega), List.filterMap_cons, z]
    | some y =>
      rw [ap_lcN_s _ _ _ _ _ _ _ _ (by omega), lc_map (acc ++ [y]) (fun y hy => h y (List.mem_cons_of_mem _ hy)) (by rw [List.length_append, List.length_cons, List.length_nil]; omega), List.filterMap_cons, z, List.append_assoc]
      rfl
theorem filterMap_some' {β : Type} (f : α → β) (xs : List α) : xs.filterMap (fun x => some (f x)) = xs.map f := by
  induction xs with
  | nil => rfl
  | cons x xs ih => simp [ih]
theorem filterMap_if {β : Type} (p : α → Bool) (f : α → β) (xs : List α) : xs.filterMap (fun x => if p x = true then some (f x) else none) = (xs.filter p).map f := by
  induction xs with
  | nil => rfl
  | cons x xs ih =>
    by_cases h : p x = true
    · simp [h, ih]
    · simp [h, ih]
/-- all items are taken -/
theorem lc_all {F : α → D} {xs : List α} (h : ∀ x ∈ xs, item vs g mt me (enc x) e = .ok (some (F x)) e) (hl : xs.length ≤ 16777216) : lcLoop vs g mt me (xs.map enc) [] e = .ok (xs.map F) e := by
  rw [lc_map (F := fun x => some (F x)) [] h (by simpa using hl), List.nil_append, filterMap_some']
/-- those with p are taken -/
theorem lc_if {F : α → D} {p : α → Bool} {xs : List α} (h : ∀ x ∈ xs, item vs g mt me (enc x) e = if p x = true then .ok (some (F x)) e else .ok none e) (hl : xs.length ≤ 16777216) : lcLoop vs g mt me (xs.map enc) [] e = .ok ((xs.filter p).map F) e := by
  rw [lc_map (F := fun x => if p x = true then some (F x) else none) [] (fun x hx => by rw [h x hx]; cases p x <;> rfl) (by simpa using hl), List.nil_append, filterMap_if]
theorem ag_all {F : α → Bool} : ∀ {xs : List α}, (∀ x ∈ xs, item vs g mt me (enc x) e = .ok (some (.bool (F x))) e) → allG vs g mt me true (xs.map enc) e = .ok (xs.all F) e
  | [], _ => rfl
  | x :: xs, h => by
    rw [List.map_cons, ag_cons, h x (List.mem_cons_self ..), bind_ok, ap_agN_b]
    cases z : F x with
    | false => simp [z]
    | true => rw [if_pos rfl, ag_all (fun y hy => h y (List.mem_cons_of_mem _ hy)), List.all_cons, z, Bool.true_and]
theorem ag_any {F : α → Bool} : ∀ {xs : List α}, (∀ x ∈ xs, item vs g mt me (enc x) e = .ok (some (.bool (F x))) e) → allG vs g mt me false (xs.map enc) e = .ok (xs.any F) e
  | [], _ => rfl
  | x :: xs, h => by
    rw [List.map_cons, ag_cons, h x (List.mem_cons_self ..), bind_ok, ap_agN_b]
    cases z : F x with
    | true => simp [z]
    | false => rw [if_pos rfl, ag_any (fun y hy => h y (List.mem_cons_of_mem _ hy)), List.any_cons, z, Bool.false_or]
theorem sg_all {F : α → Int} (M : Nat) : ∀ {xs : List α} (acc : Int), (∀ x ∈ xs, item vs g mt me (enc x) e = .ok (some (.int (F x))) e) → (∀ x ∈ xs, -(M : Int) ≤ F x ∧ F x ≤ (M : Int)) → acc.natAbs + xs.length * M < 9223372036854775808 → sumG vs g mt me acc (xs.map enc) e = .ok (acc + (xs.map F).sum) e
  | [], acc, _, _, _ => by simp [sg_nil]
  | x :: xs, acc, h, hb, hM => by
    have hx := hb x (List.mem_cons_self ..)
    rw [List.length_cons, Nat.succ_mul] at hM
    rw [List.map_cons, sg_cons, h x (List.mem_cons_self ..), bind_ok, ap_sgN_i _ _ _ _ _ _ _ _ (by omega) (by omega) (by omega) (by omega),
      sg_all M (acc + F x) (fun y hy => h y (List.mem_cons_of_mem _ hy)) (fun y hy => hb y (List.mem_cons_of_mem _ hy)) (by omega), List.map_cons, List.sum_cons, Int.add_assoc]
end
theorem rngI_len (lo : Int) (n : Nat) : (rngI lo n).length = n := by simp [rngI]
theorem rngI_succ (lo : Int) (n : Nat) : rngI lo (n + 1) = rngI lo n ++ [lo + (n : Int)] := by simp [rngI, List.range_succ]
theorem rngI_take (lo : Int) {n k : Nat} (h : k ≤ n) : (rngI lo n).take k = rngI lo k := by
  unfold rngI
  rw [← List.map_take, List.take_range, Nat.min_eq_left h]
theorem rngI_split {lo x : Int} {n : Nat} {pre post : List Int} (h : rngI lo n = pre ++ x :: post) : pre.length < n ∧ pre = rngI lo pre.length ∧ x = lo + (pre.length : Int) := by
  have hl : pre.length < n := by
    have := congrArg List.length h
    rw [rngI_len, List.length_append, List.length_cons] at this
    omega
  have h1 := congrArg (List.take (pre.length + 1)) h
  rw [rngI_take lo (by omega), rngI_succ, show pre ++ x :: post = (pre ++ [x]) ++ post by simp, List.take_left' (by simp)] at h1
  have h2 := List.append_inj' h1 rfl
  exact ⟨hl, h2.1.symm, (List.cons.inj h2.2).1.symm⟩
/-- a walk over a range -/
theorem loop_rng {lo : Int} {n : Nat} {g : TgD} {body : MS} {P : Fl → En → Prop} (I : Nat → En → Prop) (step : ∀ i e, i < n → I i e → GSat (g (.int (lo + (i : Int))) e) (BodyK body (I (i + 1)) P)) (fin : ∀ e, I n e → P .nx e) {e : En} (h : I 0 e) :
    Sat (mLoop g body ((rngI lo n).map .int) e) P := by
  refine loop_pre (enc := PyData.int) (fun pre e => I pre.length e) (fun pre x post e hx hI => ?_) (fun e hI => by rw [rngI_len] at hI; exact fin e hI) h
  obtain ⟨h1, _, rfl⟩ := rngI_split hx
  rw [List.length_append, List.length_cons, List.length_nil]
  exact step pre.length e h1 hI
def evs {α : Type} : List α → List α
  | [] => []
  | [x] => [x]
  | x :: _ :: r => x :: evs r
def ods {α : Type} : List α → List α
  | [] => []
  | [_] => []
  | _ :: y :: r => y :: ods r
theorem evs_map {α β : Type} (f : α → β) : ∀ xs : List α, evs (xs.map f) = (evs xs).map f
  | [] => rfl
  | [_] => rfl
  | x :: y :: r => by simp only [List.map_cons, evs, evs_map f r]
theorem ods_map {α β : Type} (f : α → β) : ∀ xs : List α, ods (xs.map f) = (ods xs).map f
  | [] => rfl
  | [_] => rfl
  | x :: y :: r => by simp only [List.map_cons, ods, ods_map f r]
theorem evs_len {α : Type} : ∀ xs : List α, (evs xs).length = (xs.length + 1) / 2
  | [] => by simp [evs, ods]
  | [_] => by simp [evs]
  | x :: y :: r => by simp only [List.length_cons, evs, evs_len r]; omega
theorem ods_len {α : Type} : ∀ xs : List α, (ods xs).length = xs.length / 2
  | [] => by simp [evs, ods]
  | [_] => by simp [ods]
  | x :: y :: r => by simp only [List.length_cons, ods, ods_len r]; omega
theorem evs_snoc {α : Type} (z : α) : ∀ xs : List α, evs (xs ++ [z]) = if xs.length % 2 = 0 then evs xs ++ [z] else evs xs
  | [] => rfl
  | [_] => rfl
  | x :: y :: r => by
    simp only [List.cons_append, evs, evs_snoc z r, List.length_cons]
    by_cases h : r.length % 2 = 0
    · rw [if_pos h, if_pos (by omega)]
    · rw [if_neg h, if_neg (by omega)]
theorem ods_snoc {α : Type} (z : α) : ∀ xs : List α, ods (xs ++ [z]) = if xs.length % 2 = 0 then ods xs else ods xs ++ [z]
  | [] => rfl
  | [_] => rfl
  | x :: y :: r => by
    simp only [List.cons_append, ods, ods_snoc z r, List.length_cons]
    by_cases h : r.length % 2 = 0
    · rw [if_pos h, if_pos (by omega)]
    · rw [if_neg h, if_neg (by omega)]
theorem evs_pick {α : Type} : ∀ xs : List α, (List.range ((xs.length + 1) / 2)).filterMap (fun k => xs[2 * k]?) = evs xs
  | [] => by simp [evs, ods]
  | [_] => by simp [evs]
  | x :: y :: r => by
    rw [List.length_cons, List.length_cons, show (r.length + 1 + 1 + 1) / 2 = (r.length + 1) / 2 + 1 by omega, List.range_succ_eq_map, List.filterMap_cons_some (f := fun k => (x :: y :: r)[2 * k]?) (b := x) rfl, List.filterMap_map]
    show _ = x :: evs r
    rw [← evs_pick r]
    rfl
theorem ods_pick {α : Type} : ∀ xs : List α, (List.range (xs.length / 2)).filterMap (fun k => xs[2 * k + 1]?) = ods xs
  | [] => by simp [evs, ods]
  | [_] => by simp [ods]
  | x :: y :: r => by
    rw [List.length_cons, List.length_cons, show (r.length + 1 + 1) / 2 = r.length / 2 + 1 by omega, List.range_succ_eq_map, List.filterMap_cons_some (f := fun k => (x :: y :: r)[2 * k + 1]?) (b := y) rfl, List.filterMap_map]
    show _ = y :: ods r
    rw [← ods_pick r]
    rfl
theorem pick_ev {α : Type} (xs : List α) : pick xs (idxT xs.length none none 2) = evs xs := by
  unfold pick idxT Builtin.Slice.sliceAdjust Builtin.Slice.slicePlaces
  rw [List.filterMap_map, ← evs_pick]
  simp only [Int.reduceLT, if_false]
  have e : (if (2 : Int) > 0 then if (0 : Int) < (xs.length : Int) then ((xs.length : Int) - 0 - 1) / 2 + 1 else 0 else if (0 : Int) > (xs.length : Int) then ((0 : Int) - (xs.length : Int) - 1) / (-2) + 1 else 0).toNat = (xs.length + 1) / 2 := by
    rw [if_pos (by omega)]
    by_cases h : (0 : Int) < (xs.length : Int)
    · rw [if_pos h]; omega
    · rw [if_neg h]; omega
  rw [e]
  congr 1
  funext k
  show xs[(0 + (k : Int) * 2).toNat]? = _
  rw [show (0 + (k : Int) * 2).toNat = 2 * k by omega]
theorem pick_od {α : Type} (xs : List α) : pick xs (idxT xs.length (some 1) none 2) = ods xs := by
  unfold pick idxT Builtin.Slice.sliceAdjust Builtin.Slice.slicePlaces
  rw [List.filterMap_map, ← ods_pick]
  simp only [Int.reduceLT, if_false]
  have e : (if (2 : Int) > 0 then if min (1 : Int) (xs.length : Int) < (xs.length : Int) then ((xs.length : Int) - min (1 : Int) (xs.length : Int) - 1) / 2 + 1 else 0 else if min (1 : Int) (xs.length : Int) > (xs.length : Int) then (min (1 : Int) (xs.length : Int) - (xs.length : Int) - 1) / (-2) + 1 else 0).toNat = xs.length / 2 := by
    rw [if_pos (by omega)]
    by_cases h : min (1 : Int) (xs.length : Int) < (xs.length : Int)
    · rw [if_pos h]; omega
    · rw [if_neg h]; omega
  rw [e]
  by_cases h : xs.length = 0
  · rw [h]; rfl
  · congr 1
    funext k
    show xs[(min (1 : Int) (xs.length : Int) + (k : Int) * 2).toNat]? = _
    rw [show (min (1 : Int) (xs.length : Int) + (k : Int) * 2).toNat = 2 * k + 1 by omega]
theorem gSl3_ev {ds : List D} (h : ds.length ≤ 16777216) : gSl3 (.tuple ds) none none (some 2) = some (.d (.tuple (evs ds))) := by
  show (if (2 : Int) ≠ 0 ∧ (2 : Int) ≠ 1 ∧ (pick ds (idxT ds.length none none 2)).length ≤ sizeLine then some (Val.d (.tuple (pick ds (idxT ds.length none none 2)))) else none) = _
  rw [pick_ev, if_pos ⟨by decide, by decide, by rw [evs_len, sizeLine_eq]; omega⟩]
theorem gSl3_od {ds : List D} (h : ds.length ≤ 16777216) : gSl3 (.tuple ds) (some 1) none (some 2) = some (.d (.tuple (ods ds))) := by
  show (if (2 : Int) ≠ 0 ∧ (2 : Int) ≠ 1 ∧ (pick ds (idxT ds.length (some 1) none 2)).length ≤ sizeLine then some (Val.d (.tuple (pick ds (idxT ds.length (some 1) none 2)))) else none) = _
  rw [pick_od, if_pos ⟨by decide, by decide, by rw [ods_len, sizeLine_eq]; omega⟩]
end PV

set_option Elab.async false
set_option linter.all false
set_option maxRecDepth 100000
set_option maxHeartbeats 4000000
namespace PV
open PySem PySem.Spec PyProof.Rows L2

def Shd (n : Nat) (d : D) : Prop := d.canLay0 = true ∧ d.depth ≤ n
theorem Shd.int {n : Nat} (i : Int) : Shd n (.int i) := ⟨by simp [PyData.canLay0], by simp [PyData.depth]⟩
theorem Shd.bl {n : Nat} (b : Bool) : Shd n (.bool b) := ⟨by simp [PyData.canLay0], by simp [PyData.depth]⟩
theorem Shd.non {n : Nat} : Shd n .none := ⟨by simp [PyData.canLay0], by simp [PyData.depth]⟩
theorem Shd.str {n : Nat} {x : Str} (h : PyData.strOk x = true) : Shd n (.str x) := ⟨by simp [PyData.canLay0, h], by simp [PyData.depth]⟩
theorem shd_all : ∀ {n : Nat} {ds : List D}, (∀ d ∈ ds, Shd n d) → PyData.canLayAll0 ds = true ∧ PyData.depthAll ds ≤ n
  | n, [], _ => ⟨by simp [PyData.canLayAll0], by simp [PyData.depthAll]⟩
  | n, d :: ds, h => by
    have h1 := h d (List.mem_cons_self ..)
    have h2 := shd_all fun x hx => h x (List.mem_cons_of_mem _ hx)
    exact ⟨by simp [PyData.canLayAll0, h1.1, h2.1], by simp only [PyData.depthAll]; have := h1.2; have := h2.2; omega⟩
theorem Shd.tup {n : Nat} {ds : List D} (h : ∀ d ∈ ds, Shd n d) : Shd (n + 1) (.tuple ds) := ⟨by simp [PyData.canLay0, (shd_all h).1], by simp only [PyData.depth]; have := (shd_all h).2; omega⟩
theorem Shd.lst {n : Nat} {ds : List D} (h : ∀ d ∈ ds, Shd n d) : Shd (n + 1) (.list ds) := ⟨by simp [PyData.canLay0, (shd_all h).1], by simp only [PyData.depth]; have := (shd_all h).2; omega⟩
theorem Shd.sh {n : Nat} {d : D} (h : Shd n d) (hn : n ≤ 64) : SeqAt.shaped d = true := by
  unfold SeqAt.shaped
  rw [h.1, decide_eq_true (by have := h.2; omega)]
  rfl
theorem Shd.up {n m : Nat} {d : D} (h : Shd n d) (hn : n ≤ m) : Shd m d := ⟨h.1, by have := h.2; omega⟩
theorem sh_int (i : Int) : SeqAt.shaped (.int i) = true := (Shd.int (n := 0) i).sh (by decide)
theorem sh_bl (i : Bool) : SeqAt.shaped (.bool i) = true := (Shd.bl (n := 0) i).sh (by decide)
theorem sh_non : SeqAt.shaped .none = true := (Shd.non (n := 0)).sh (by decide)
theorem sh_str {x : Str} (h : PyData.strOk x = true) : SeqAt.shaped (.str x) = true := (Shd.str (n := 0) h).sh (by decide)
/-- equal data is equal to itself -/
theorem eqv_int (i j : Int) : PyData.eqv (.int i) (.int j) = (i == j) := by simp only [PyData.eqv]
theorem eqv_bl (i j : Bool) : PyData.eqv (.bool i) (.bool j) = (i == j) := by simp only [PyData.eqv]
theorem eqv_str (i j : Str) : PyData.eqv (.str i) (.str j) = (i == j) := by simp only [PyData.eqv]
theorem eqv_non : PyData.eqv .none .none = true := by simp only [PyData.eqv]
theorem eqv_ni (j : Int) : PyData.eqv .none (.int j) = false := by simp only [PyData.eqv]
theorem eqv_in (j : Int) : PyData.eqv (.int j) .none = false := by simp only [PyData.eqv]
theorem eqv_tt (i j : List D) : PyData.eqv (.tuple i) (.tuple j) = PyData.eqvAll i j := by simp only [PyData.eqv]
theorem eqv_ll (i j : List D) : PyData.eqv (.list i) (.list j) = PyData.eqvAll i j := by simp only [PyData.eqv]
theorem eqvAll_nil : PyData.eqvAll [] [] = true := by simp only [PyData.eqvAll]
theorem eqvAll_cons (x y : D) (xs ys : List D) : PyData.eqvAll (x :: xs) (y :: ys) = (PyData.eqv x y && PyData.eqvAll xs ys) := by simp only [PyData.eqvAll]
theorem eqvAll_cn (x : D) (xs : List D) : PyData.eqvAll (x :: xs) [] = false := by simp only [PyData.eqvAll]
theorem eqvAll_nc (x : D) (xs : List D) : PyData.eqvAll [] (x :: xs) = false := by simp only [PyData.eqvAll]

theorem sat_congr {α : Type} {x y : R α} {P : α → En → Prop} (h : x = y) : Sat x P = Sat y P := by rw [h]
theorem bind_congr {α β : Type} {x y : R α} {f : α → En → R β} (h : x = y) : x.bind f = y.bind f := by rw [h]
theorem for_congr {mi : MI} {g : TgD} {b : MS} {e e' : En} (h : e = e') : mFor mi g b e = mFor mi g b e' := by rw [h]
theorem loop_congr {g : TgD} {b : MS} {ds ds' : List D} {e e' : En} (h : e = e') (h2 : ds = ds') : mLoop g b ds e = mLoop g b ds' e' := by rw [h, h2]
theorem while_congr {n : En → Nat} {g : MT} {b : MS} {e e' : En} (h : e = e') : mWhile n g b e = mWhile n g b e' := by rw [h]
theorem lc_congr {vs : List Nat} {mi : MI} {g : TgD} {mt : MT} {me : ME} {e e' : En} (h : e = e') : mLc vs mi g mt me e = mLc vs mi g mt me e' := by rw [h]
theorem ag_congr {t : Bool} {vs : List Nat} {mi : MI} {g : TgD} {mt : MT} {me : ME} {e e' : En} (h : e = e') : mAllG t vs mi g mt me e = mAllG t vs mi g mt me e' := by rw [h]
theorem sg_congr {vs : List Nat} {mi : MI} {g : TgD} {mt : MT} {me : ME} {e e' : En} (h : e = e') : mSumG vs mi g mt me e = mSumG vs mi g mt me e' := by rw [h]
theorem thn_congr {b : MS} {P : Fl → En → Prop} {fl fl' : Fl} {e e' : En} (h : fl = fl') (h2 : e = e') : Thn b P fl e = Thn b P fl' e' := by rw [h, h2]

theorem ev_seq {a b : MS} {e : En} {P : Fl → En → Prop} : Sat (mSeq a b e) P = Sat (a e) (Thn b P) := by
  unfold mSeq
  rw [sat_bind]
  congr 1
  funext fl e1
  cases fl <;> first | rfl | exact sat_ok
theorem thn_nx {b : MS} {P : Fl → En → Prop} {e : En} : Thn b P .nx e = Sat (b e) P := (rfl)
theorem thn_rt {b : MS} {P : Fl → En → Prop} {e : En} {v : Val} : Thn b P (.rt v) e = P (.rt v) e := (rfl)
theorem thn_bk {b : MS} {P : Fl → En → Prop} {e : En} : Thn b P .bk e = P .bk e := (rfl)
theorem thn_ct {b : MS} {P : Fl → En → Prop} {e : En} : Thn b P .ct e = P .ct e := (rfl)
theorem lpp_nx {I : En → Prop} {P : Fl → En → Prop} {e : En} : LpP I P .nx e = I e := (rfl)
theorem lpp_ct {I : En → Prop} {P : Fl → En → Prop} {e : En} : LpP I P .ct e = I e := (rfl)
theorem lpp_bk {I : En → Prop} {P : Fl → En → Prop} {e : En} : LpP I P .bk e = P .nx e := (rfl)
theorem lpp_rt {I : En → Prop} {P : Fl → En → Prop} {e : En} {v : Val} : LpP I P (.rt v) e = P (.rt v) e := (rfl)
theorem sat_ite {α : Type} {p : Prop} [Decidable p] {x y : R α} {P : α → En → Prop} : Sat (if p then x else y) P = if p then Sat x P else Sat y P := by
  by_cases h : p <;> simp [h]
theorem ok_and {c b : Bool} {e : En} : (if c = true then R.ok b e else R.ok false e) = R.ok (c && b) e := by cases c <;> rfl
theorem ok_or {c b : Bool} {e : En} : (if c = true then R.ok true e else R.ok b e) = R.ok (c || b) e := by cases c <;> rfl
theorem okv_and {c b : Bool} {e : En} : (if c = true then R.ok (.d (.bool b)) e else R.ok (.d (.bool false)) e) = R.ok (Val.d (.bool (c && b))) e := by cases c <;> rfl
theorem okv_or {c b : Bool} {e : En} : (if c = true then R.ok (.d (.bool true)) e else R.ok (.d (.bool b)) e) = R.ok (Val.d (.bool (c || b))) e := by cases c <;> rfl
theorem okp_and {p : Prop} [Decidable p] {b : Bool} {e : En} : (if p then R.ok b e else R.ok false e) = R.ok (decide p && b) e := by by_cases h : p <;> simp [h]
theorem okp_or {p : Prop} [Decidable p] {b : Bool} {e : En} : (if p then R.ok true e else R.ok b e) = R.ok (decide p || b) e := by by_cases h : p <;> simp [h]
theorem okvp_and {p : Prop} [Decidable p] {b : Bool} {e : En} : (if p then R.ok (.d (.bool b)) e else R.ok (.d (.bool false)) e) = R.ok (Val.d (.bool (decide p && b))) e := by by_cases h : p <;> simp [h]
theorem okvp_or {p : Prop} [Decidable p] {b : Bool} {e : En} : (if p then R.ok (.d (.bool true)) e else R.ok (.d (.bool b)) e) = R.ok (Val.d (.bool (decide p || b))) e := by by_cases h : p <;> simp [h]
/-- what is wanted behind a test -/
def IfK (a b : MS) (P : Fl → En → Prop) : Bool → En → Prop
  | true, e => Sat (a e) P
  | false, e => Sat (b e) P
theorem ifk_true {a b : MS} {P : Fl → En → Prop} {e : En} : IfK a b P true e = Sat (a e) P := (rfl)
theorem ifk_false {a b : MS} {P : Fl → En → Prop} {e : En} : IfK a b P false e = Sat (b e) P := (rfl)
theorem ifk_dec {a b : MS} {P : Fl → En → Prop} {e : En} {p : Prop} [Decidable p] : IfK a b P (decide p) e = if p then Sat (a e) P else Sat (b e) P := by by_cases h : p <;> simp [h, IfK]
theorem ifk_bool {a b : MS} {P : Fl → En → Prop} {e : En} {c : Bool} : IfK a b P c e = if c = true then Sat (a e) P else Sat (b e) P := by cases c <;> rfl
theorem ev_if {t : MT} {a b : MS} {e : En} {P : Fl → En → Prop} : Sat (mIfS t a b e) P = Sat (t e) (IfK a b P) := by
  unfold mIfS
  rw [sat_bind]
  congr 1
  funext c e1
  cases c <;> rfl
theorem ite_bt {α : Type} {x y : α} : (if true = true then x else y) = x := if_pos rfl
theorem ite_bf {α : Type} {x y : α} : (if false = true then x else y) = y := if_neg Bool.false_ne_true
theorem gAdd_ii (i j : Int) : gAdd (.int i) (.int j) = some (.d (.int (i + j))) := (rfl)
theorem gAdd_ss {i j : Str} (h : i.length + j.length ≤ 16777216) : gAdd (.str i) (.str j) = some (.d (.str (i ++ j))) := if_pos h
theorem gAdd_tt {i j : List D} (h : i.length + j.length ≤ 16777216) : gAdd (.tuple i) (.tuple j) = some (.d (.tuple (i ++ j))) := if_pos h
theorem gAdd_ll {i j : List D} (h : i.length + j.length ≤ 16777216) : gAdd (.list i) (.list j) = some (.nw (.list (i ++ j))) := if_pos h
theorem gAppend_ok {i : List D} {x : D} (h : i.length < 16777216) : gAppend (.list i) [x] = some (.none, .list (i ++ [x])) := if_pos h
theorem gSub_ii (i j : Int) : gSub (.int i) (.int j) = some (.d (.int (i - j))) := (rfl)
theorem log_lt {i : Int} {n : Nat} (h : i.natAbs < 2 ^ n) (hn : 0 < n) : i.natAbs.log2 < n := by
  by_cases z : i.natAbs = 0
  · rw [z]; simpa using hn
  · exact (Nat.log2_lt z).mpr h
theorem gMul_sm {i j : Int} (h1 : -18446744073709551616 < i) (h2 : i < 18446744073709551616) (h3 : -18446744073709551616 < j) (h4 : j < 18446744073709551616) : gMul (.int i) (.int j) = some (.d (.int (i * j))) :=
  gMul_bits (a := 64) (b := 64) (by omega) (by omega) (by decide)
theorem gMul_lst {xs : List D} {k : Int} (h1 : -9223372036854775808 ≤ k) (h2 : k < 9223372036854775808) (h3 : xs.length * k.toNat ≤ 16777216) : gMul (.list xs) (.int k) = some (.nw (.list (List.replicate k.toNat xs).flatten)) := if_pos ⟨h1, h2, h3⟩
theorem gMul_tup {xs : List D} {k : Int} (h1 : -9223372036854775808 ≤ k) (h2 : k ≤ 1000) (h3 : xs.length ≤ 1000) : gMul (.tuple xs) (.int k) = some (.d (.tuple (List.replicate k.toNat xs).flatten)) := if_pos ⟨h1, h2, h3⟩
theorem gDiv_sm {i j : Int} (h : 0 < j) (h2 : j < 18446744073709551616) : gDiv (.int i) (.int j) = some (.d (.int (i / j))) := by
  show (if (decide (0 < j) && decide (j.natAbs.log2 < 9000)) = true then some (Val.d (.int (i / j))) else none) = _
  have a := log_lt (i := j) (n := 64) (by omega) (by decide)
  rw [decide_eq_true h, decide_eq_true (show j.natAbs.log2 < 9000 by omega)]
  rfl
theorem gMod_sm {i j : Int} (h : 0 < j) : gMod (.int i) (.int j) = some (.d (.int (i % j))) := by
  show (if decide (0 < j) = true then some (Val.d (.int (i % j))) else none) = _
  rw [decide_eq_true h]
  rfl
theorem gPow_sm {i j : Int} (h : 0 ≤ j) (h2 : j ≤ 1000000) (h3 : -18446744073709551616 < i) (h4 : i < 18446744073709551616) : gPow (.int i) (.int j) = some (.d (.int (i ^ j.toNat))) := by
  show (if (decide (0 ≤ j) && decide (j ≤ 1000000) && decide (i.natAbs < 2 ^ 64)) = true then some (Val.d (.int (i ^ j.toNat))) else none) = _
  rw [decide_eq_true h, decide_eq_true h2, decide_eq_true (show i.natAbs < 2 ^ 64 by omega)]
  rfl
theorem gShl_sm {i j : Int} (h : 0 ≤ j) (h2 : j ≤ 1000000) (h3 : -18446744073709551616 < i) (h4 : i < 18446744073709551616) : gShl (.int i) (.int j) = some (.d (.int (i * 2 ^ j.toNat))) := by
  show (if (decide (0 ≤ j) && decide (j ≤ 1000000) && decide (i.natAbs < 2 ^ 64)) = true then some (Val.d (.int (i * 2 ^ j.toNat))) else none) = _
  rw [decide_eq_true h, decide_eq_true h2, decide_eq_true (show i.natAbs < 2 ^ 64 by omega)]
  rfl
theorem gShr_sm {i j : Int} (h : 0 ≤ j) : gShr (.int i) (.int j) = some (.d (.int (i / 2 ^ j.toNat))) := by
  show (if decide (0 ≤ j) = true then some (Val.d (.int (i / 2 ^ j.toNat))) else none) = _
  rw [decide_eq_true h]
  rfl
theorem gXor_ii (i j : Int) : gXor (.int i) (.int j) = some (.d (.int (Builtin.bitXor i j))) := (rfl)
theorem gNeg_i (i : Int) : gNeg (.int i) = some (.d (.int (-i))) := (rfl)
theorem gLt_ii (i j : Int) : gLt (.int i) (.int j) = some (.d (.bool (decide (i < j)))) := (rfl)
theorem gLe_ii (i j : Int) : gLe (.int i) (.int j) = some (.d (.bool (decide (i ≤ j)))) := (rfl)
theorem gGt_ii (i j : Int) : gGt (.int i) (.int j) = some (.d (.bool (decide (j < i)))) := (rfl)
theorem gGe_ii (i j : Int) : gGe (.int i) (.int j) = some (.d (.bool (decide (j ≤ i)))) := (rfl)
theorem gAddI_ii (i j : Int) : gAddI (.int i) (.int j) = some (.d (.int (i + j))) := (rfl)
theorem gSubI_ii (i j : Int) : gSubI (.int i) (.int j) = some (.d (.int (i - j))) := (rfl)
theorem ev_eq (a b : D) : gEq a b = if SeqAt.shaped a = true ∧ SeqAt.shaped b = true then some (.d (.bool (PyData.eqv a b))) else none := (rfl)
theorem ev_ne (a b : D) : gNe a b = if SeqAt.shaped a = true ∧ SeqAt.shaped b = true then some (.d (.bool (!PyData.eqv a b))) else none := (rfl)
theorem isT_eq (T n : String) : isT T n = (n == T || (T == "int" && n == "bool")) := (rfl)
theorem gIsi_int (T : String) (d : D) (h : T ∈ ["int", "bool", "str", "tuple", "list", "dict"]) : gIsi T d = some (.d (.bool (isT T (tyN d)))) := if_pos h
theorem ev_isi (d : D) : gIsi "int" d = some (.d (.bool (isT "int" (tyN d)))) := gIsi_int _ _ (by decide)
theorem ev_isb (d : D) : gIsi "bool" d = some (.d (.bool (isT "bool" (tyN d)))) := gIsi_int _ _ (by decide)
theorem ev_iss (d : D) : gIsi "str" d = some (.d (.bool (isT "str" (tyN d)))) := gIsi_int _ _ (by decide)
theorem ev_ist (d : D) : gIsi "tuple" d = some (.d (.bool (isT "tuple" (tyN d)))) := gIsi_int _ _ (by decide)
theorem ev_isl (d : D) : gIsi "list" d = some (.d (.bool (isT "list" (tyN d)))) := gIsi_int _ _ (by decide)
theorem ev_isd (d : D) : gIsi "dict" d = some (.d (.bool (isT "dict" (tyN d)))) := gIsi_int _ _ (by decide)
theorem atI_at {α : Type} {xs : List α} {i : Int} (h : 0 ≤ i) (h2 : i < (xs.length : Int)) : L2.atI xs i = xs[i.toNat]? := by simp [L2.atI, L2.ixN, h, h2]
theorem atI_neg {α : Type} {xs : List α} {i : Int} (h : i < 0) (h2 : -(xs.length : Int) ≤ i) : L2.atI xs i = xs[(i + (xs.length : Int)).toNat]? := by simp [L2.atI, L2.ixN, show ¬ 0 ≤ i by omega, h2]
theorem ixN_at {n : Nat} {i : Int} (h : 0 ≤ i) (h2 : i < (n : Int)) : L2.ixN n i = some i.toNat := by simp [L2.ixN, h, h2]
theorem ixN_neg {n : Nat} {i : Int} (h : i < 0) (h2 : -(n : Int) ≤ i) : L2.ixN n i = some (i + (n : Int)).toNat := by simp [L2.ixN, show ¬ 0 ≤ i by omega, h2]
theorem enumD_map {α : Type} (enc : α → D) (xs : List α) : enumD (xs.map enc) = xs.zipIdx.map fun p => .tuple [.int (p.2 : Nat), enc p.1] := by
  unfold enumD
  rw [List.zipIdx_map, List.map_map]
  rfl
/-- int(b) -/
def oneIf (b : Bool) : Int := if b = true then 1 else 0
theorem gInt_i (i : Int) : gIntD (.int i) = some (.d (.int i)) := (rfl)
theorem gInt_b (b : Bool) : gIntD (.bool b) = some (.d (.int (oneIf b))) := by cases b <;> rfl
theorem oneIf_t : oneIf true = 1 := (rfl)
theorem oneIf_f : oneIf false = 0 := (rfl)
theorem take_map' {α β : Type} (f : α → β) (l : List α) (n : Nat) : (l.map f).take n = (l.take n).map f := (List.map_take ..).symm
theorem drop_map' {α β : Type} (f : α → β) (l : List α) (n : Nat) : (l.map f).drop n = (l.drop n).map f := (List.map_drop ..).symm
theorem cut_hi {ds : List D} {k : Int} (h : 0 ≤ k) : cutD ds none (some k) = ds.take k.toNat := by
  unfold cutD HT.sIx
  dsimp only
  rw [if_neg (by omega), List.drop_zero, Nat.sub_zero]
  by_cases z : k.toNat ≤ ds.length
  · rw [Nat.min_eq_left z]
  · rw [Nat.min_eq_right (by omega), List.take_of_length_le (Nat.le_refl _), List.take_of_length_le (by omega)]
theorem cut_lo {ds : List D} {k : Int} (h : 0 ≤ k) : cutD ds (some k) none = ds.drop k.toNat := by
  unfold cutD HT.sIx
  dsimp only
  rw [if_neg (by omega)]
  by_cases z : k.toNat ≤ ds.length
  · rw [Nat.min_eq_left z, List.take_of_length_le (by rw [List.length_drop]; omega)]
  · rw [Nat.min_eq_right (by omega), List.drop_of_length_le (Nat.le_refl _), List.drop_of_length_le (by omega), List.take_nil]
theorem cut_lh {ds : List D} {i k : Int} (h : 0 ≤ i) (h2 : 0 ≤ k) : cutD ds (some i) (some k) = (ds.drop i.toNat).take (k.toNat - i.toNat) := by
  unfold cutD HT.sIx
  dsimp only
  rw [if_neg (by omega), if_neg (by omega)]
  by_cases z : i.toNat ≤ ds.length
  · rw [Nat.min_eq_left z]
    by_cases y : k.toNat ≤ ds.length
    · rw [Nat.min_eq_left y]
    · rw [Nat.min_eq_right (by omega), List.take_of_length_le (by rw [List.length_drop]; omega), List.take_of_length_le (by rw [List.length_drop]; omega)]
  · rw [Nat.min_eq_right (show ds.length ≤ i.toNat by omega), List.drop_of_length_le (Nat.le_refl _), List.drop_of_length_le (show ds.length ≤ i.toNat by omega), List.take_nil, List.take_nil]
theorem cut_no {ds : List D} : cutD ds none none = ds := by
  unfold cutD HT.sIx
  dsimp only
  rw [List.drop_zero, Nat.sub_zero, List.take_of_length_le (Nat.le_refl _)]
theorem cut_m1 {ds : List D} : cutD ds none (some (-1)) = ds.dropLast := by
  unfold cutD HT.sIx
  dsimp only
  rw [if_pos (by decide), List.drop_zero, Nat.sub_zero, List.dropLast_eq_take]
  congr 1
  omega
theorem gSl_t (ds : List D) (lo hi : Option Int) : gSl (.tuple ds) lo hi = some (.d (.tuple (cutD ds lo hi))) := (rfl)
theorem gSl_l (ds : List D) (lo hi : Option Int) : gSl (.list ds) lo hi = some (.nw (.list (cutD ds lo hi))) := (rfl)
theorem len_t (ds : List D) : gLenD (.tuple ds) = some (.d (.int ds.length)) := (rfl)
theorem len_l (ds : List D) : gLenD (.list ds) = some (.d (.int ds.length)) := (rfl)
theorem len_s {z : Str} (h : z.length ≤ 16777216) : gLenD (.str z) = some (.d (.int z.length)) := if_pos h
theorem abs_i (i : Int) : gAbsD (.int i) = some (.d (.int (if i < 0 then -i else i))) := (rfl)
theorem lst_l (ds : List D) : gListD (.list ds) = some (.nw (.list ds)) := (rfl)
theorem lst_t (ds : List D) : gListD (.tuple ds) = some (.nw (.list ds)) := (rfl)
theorem tup_l (ds : List D) : gTupleD (.list ds) = some (.d (.tuple ds)) := (rfl)
theorem tup_t (ds : List D) : gTupleD (.tuple ds) = some (.d (.tuple ds)) := (rfl)
theorem rev_l (ds : List D) : gRevD (.list ds) = some (.nw (.list ds.reverse)) := (rfl)
theorem gix_l (ds : List D) (i : Int) : gIx (.list ds) (.int i) = (L2.atI ds i).map Val.d := (rfl)
theorem gix_t (ds : List D) (i : Int) : gIx (.tuple ds) (.int i) = (L2.atI ds i).map Val.d := (rfl)
theorem gix_s (z : Str) (i : Int) : gIx (.str z) (.int i) = (sgn z i).map Val.d := (rfl)
theorem getL_l (ds : List D) (i : Int) : getL (.list ds) (.int i) = L2.atI ds i := (rfl)
theorem setL_l (ds : List D) (i : Int) (v : D) : gSetL (.list ds) (.int i) v = (ixN ds.length i).map fun j => .list (ds.set j v) := (rfl)
theorem ap_g1 (g : D → Option Val) (d : D) : g1 g [d] = g d := (rfl)
theorem is_nn : isIs .none .none = some true := (rfl)
theorem is_in (i : Int) : isIs (.int i) .none = some false := (rfl)
theorem is_bn (i : Bool) : isIs (.bool i) .none = some false := (rfl)
theorem is_sn (i : Str) : isIs (.str i) .none = some false := (rfl)
theorem is_ln (i : List D) : isIs (.list i) .none = some false := (rfl)
theorem is_tn (i : List D) : isIs (.tuple i) .none = some false := (rfl)
theorem is_dn (i : List (D × D)) : isIs (.dict i) .none = some false := (rfl)
theorem is_bb (a b : Bool) : isIs (.bool a) (.bool b) = some (decide (a = b)) := (rfl)
theorem ev_is (a b : D) : gIs a b = (isIs a b).map fun k => .d (.bool k) := (rfl)
theorem ev_isN (a b : D) : gIsNot a b = (isIs a b).map fun k => .d (.bool (!k)) := (rfl)
theorem in_l (d : D) (ds : List D) : isIn d (.list ds) = if SeqAt.shaped d = true ∧ SeqAt.shaped (.list ds) = true then some (ds.any fun z => PyData.eqv z d) else none := by cases d <;> rfl
theorem in_t (d : D) (ds : List D) : isIn d (.tuple ds) = if SeqAt.shaped d = true ∧ SeqAt.shaped (.tuple ds) = true then some (ds.any fun z => PyData.eqv z d) else none := by cases d <;> rfl
theorem ev_in (a b : D) : gIn a b = (isIn a b).map fun k => .d (.bool k) := (rfl)
theorem ev_notIn (a b : D) : gNotIn a b = (isIn a b).map fun k => .d (.bool (!k)) := (rfl)
theorem mkF1 {n : Nat} {m : MS} {a : Arg} : mkFn n 1 m [a] = endFn 1 (m (env0 n [a])) := (rfl)
theorem mkF2 {n : Nat} {m : MS} {a b : Arg} : mkFn n 2 m [a, b] = endFn 2 (m (env0 n [a, b])) := (rfl)
theorem mkF3 {n : Nat} {m : MS} {a b c : Arg} : mkFn n 3 m [a, b, c] = endFn 3 (m (env0 n [a, b, c])) := (rfl)
theorem mkF4 {n : Nat} {m : MS} {a b c d : Arg} : mkFn n 4 m [a, b, c, d] = endFn 4 (m (env0 n [a, b, c, d])) := (rfl)
theorem mkF5 {n : Nat} {m : MS} {a b c d e : Arg} : mkFn n 5 m [a, b, c, d, e] = endFn 5 (m (env0 n [a, b, c, d, e])) := (rfl)
theorem mkFn_len {n k : Nat} {m : MS} {args : List Arg} (h : args.length = k) : mkFn n k m args = endFn k (m (env0 n args)) := if_pos h
theorem not_bool (b : Bool) : (b = true → False) = (b = false) := by cases b <;> simp

theorem out_un : Slot.out .un = none := (rfl)
theorem out_sh (d : D) : Slot.out (.sh d) = none := (rfl)
theorem out_xc (d : Nat) : Slot.out (.xc d) = none := (rfl)
theorem out_lk (b : Bool) (d : D) : Slot.out (.lk b d) = none := (rfl)
theorem out_owt (d : D) : Slot.out (.ow true d) = some d := (rfl)
theorem out_owf (d : D) : Slot.out (.ow false d) = none := (rfl)
theorem out_jk (o : Option D) : Slot.out (jk o) = none := by cases o <;> rfl
end PV
local macro_rules | `(tactic| simp!) => `(tactic| simp -failIfUnchanged (disch := (first | omega | assumption | (simp only [List.length_map, List.length_append, List.length_cons, List.length_nil, List.length_replicate, List.length_take, List.length_drop, PySem.sizeLine_eq] <;> omega))) only [↓PV.ap_mVar, ↓PV.ap_mC, ↓PV.ap_out1, ↓PV.ap_out2, ↓PV.ap_outn, ↓PV.ap_mUn, ↓PV.ap_kB1, ↓PV.ap_mBin, ↓PV.ap_mCallB, ↓PV.ap_mTB, ↓PV.ap_kTru, ↓PV.ap_mTru, ↓PV.ap_kAnd, ↓PV.ap_kOr, ↓PV.ap_kNot, ↓PV.ap_mAnd, ↓PV.ap_mOr, ↓PV.ap_mNot, ↓PV.ap_kAndV, ↓PV.ap_kOrV, ↓PV.ap_kNotV, ↓PV.ap_mAndV, ↓PV.ap_mOrV, ↓PV.ap_mNotV, ↓PV.ap_kIf, ↓PV.ap_mIf, ↓PV.ap_kCh3, ↓PV.ap_kCh2, ↓PV.ap_kCh1, ↓PV.ap_mChain, ↓PV.ap_kAC2, ↓PV.ap_kAC, ↓PV.ap_aNil, ↓PV.ap_aCons, ↓PV.ap_kTp, ↓PV.ap_mTup, ↓PV.ap_kLs, ↓PV.ap_mLst, ↓PV.ap_kSo, ↓PV.ap_oNo, ↓PV.ap_oSo, ↓PV.ap_kSl3, ↓PV.ap_kSl2, ↓PV.ap_kSl, ↓PV.ap_mSl, ↓PV.ap_kSm3, ↓PV.ap_kSm2, ↓PV.ap_kSm1, ↓PV.ap_kSm, ↓PV.ap_mSl3, ↓PV.ap_doCall, ↓PV.ap_mCall, ↓PV.ap_okTgt, ↓PV.ap_mSet, ↓PV.ap_kE, ↓PV.ap_mExp, ↓PV.ap_kR, ↓PV.ap_mRet, ↓PV.ap_mRetN, ↓PV.ap_sNx, ↓PV.ap_sBk, ↓PV.ap_sCt, ↓PV.ap_mRaise, ↓PV.ap_mYes, ↓PV.ap_mAug, ↓PV.ap_kAu1, ↓PV.ap_mSetIx, ↓PV.ap_kSi, ↓PV.ap_kSi2b, ↓PV.ap_mAugIx, ↓PV.ap_kAi1, ↓PV.ap_kAi3, ↓PV.ap_mMut, ↓PV.ap_kMu1, ↓PV.ap_mRead, ↓PV.ap_kRe, ↓PV.ap_kRe1, ↓PV.ap_tyIs, ↓PV.ap_gNm, ↓PV.ap_gCn, ↓PV.ap_mAsgT, ↓PV.ap_kAT, ↓PV.ap_par2, ↓PV.ap_kPar2, ↓PV.ap_mPar2, ↓PV.ap_par3, ↓PV.ap_kPar3b, ↓PV.ap_kPar3, ↓PV.ap_mPar3, ↓PV.ap_kPC5, ↓PV.ap_kPC3, ↓PV.ap_kPC, ↓PV.ap_pNil, ↓PV.ap_pCons, ↓PV.ap_mDict, ↓PV.ap_kW, ↓PV.ap_iSeq, ↓PV.ap_kRg, ↓PV.ap_iRange, ↓PV.ap_kEn, ↓PV.ap_iEnumD, ↓PV.ap_kIt, ↓PV.ap_iItemsD, ↓PV.ap_mFor, ↓PV.ap_UnlK, ↓PV.ap_bkE, ↓PV.ap_kLc, ↓PV.ap_mLc, ↓PV.ap_kAg, ↓PV.ap_mAllG, ↓PV.ap_kSg, ↓PV.ap_mSumG, ↓PV.ap_mTry,
  PV.kV_sh, PV.kV_ow, PV.kV_lk, PV.kV_xc, PV.deref_d, PV.deref_nw, PV.deref_own, PV.dSl_sh, PV.dSl_ow, PV.dSl_lk, PV.fin_some, PV.o1_some, PV.o2_some, PV.derefs_nil, PV.derefs_cons, PV.ds1_some, PV.onK_some, PV.kTB_b, PV.kTr2_some, PV.kTr3_some, PV.tru_non, PV.tru_bool, PV.tru_int, PV.tru_list, PV.tru_tuple, PV.fo_sh, PV.fo_ow, PV.frz_d, PV.frz_nw, PV.frz_own, PV.fz2_some, PV.fz1_some, PV.frzs_nil, PV.frzs_cons, PV.kTp2_some, PV.kLs2_some, PV.kSo2_int, PV.kSl4_some, PV.kSm4_some, PV.mkA_nil, PV.mkA_cons, PV.ma1_d, PV.ma1_nw, PV.ma1_own, PV.ma2_sh, PV.ma2_ow, PV.ma2_lk, PV.nd_nil, PV.nd_none, PV.nd_some, PV.wb1_ow, PV.wb_nil, PV.wb_sh, PV.wb_lk, PV.wb_no, PV.wb_ow, PV.dc2_ok, PV.dc2_exc, PV.dc_some, PV.okSo_some, PV.okSl_jk, PV.okSl_un, PV.okSl_sh, PV.okSl_ow, PV.okSl_xc, PV.st2_some, PV.store_nw, PV.store_d, PV.store_own, PV.lv_d, PV.lv_nw, PV.lv_own, PV.lvS_sh, PV.lvS_ow, PV.kR2_some, PV.kAu_sh, PV.kAu2_some, PV.kAu3_some, PV.kSi1_some, PV.kSi2_ow, PV.kSi3_some, PV.kSi4_ow, PV.kSi5_some, PV.kAi_ow, PV.kAi2_some, PV.kAi2b_some, PV.kAi2c_some, PV.kAi3b_some, PV.kAi4_some, PV.kAi5_some, PV.kMu_ow, PV.kMu2_some, PV.kMu3_ow, PV.kMu4_some, PV.tnm_l, PV.tnm_d, PV.kRe2_some, PV.kRe3_some, PV.kRe4_some, PV.tyO_l, PV.tyO_t, PV.tyO_d, PV.tyO_s, PV.gTp_t, PV.gTp_l, PV.gNl_nil, PV.gCn1_some, PV.kAT2_some, PV.kAT3_some, PV.prep_d, PV.prep_nw, PV.prep_own, PV.prF_some, PV.st1_d, PV.st1_nw, PV.kP2_some, PV.kP3_some, PV.kP4_some, PV.kQ1_some, PV.kQ2_some, PV.kQ3_some, PV.kQ4_some, PV.kPC4_some, PV.kPC2_some, PV.kD_ok, PV.kD2_some, PV.dStore_nil, PV.wk_l, PV.wk_t, PV.wk_s, PV.wk_n, PV.wk_own, PV.wkS_ol, PV.wkS_ll, PV.wkS_sl, PV.wkS_st, PV.wkS_ss, PV.kW2_some, PV.kRg2_some, PV.kRg3_some, PV.rng1, PV.rng2, PV.kEn2_t, PV.kEn2_l, PV.kEn2_nw, PV.kEn2_own, PV.kEn3_ow, PV.kEn3_lk, PV.kEn3_sl, PV.kEn3_st, PV.kIt2_d, PV.kF_none, PV.kF_some, PV.kF2_ow, PV.sat_unlK, PV.wipe_nil, PV.wipe_cons, PV.back_nil, PV.back_cons, PV.bk1_some, PV.okV_nil, PV.okV_cons, PV.okSo2_some, PV.okS_un, PV.okS_sh, PV.okS_jk, PV.lock_none, PV.lock_some, PV.lk1_ow, PV.unlE_none, PV.unlE_some, PV.ul1_ow, PV.lcF_ok, PV.agF_ok, PV.sgF_ok, PV.tF_ok, PV.tF_exc, PV.tF2_some, PV.tF2_none,
  PV.gAdd_ii, PV.gAdd_ss, PV.gAdd_tt, PV.gAdd_ll, ↓PV.ap_item, PV.it1_some, ↓PV.ap_it2, PV.ap_it3, PV.it4_some, ↓PV.lc_cons, PV.lc_nil, PV.ap_lcN_s, PV.ap_lcN_n, ↓PV.ag_cons, PV.ag_nil, PV.ap_agN_b, PV.ap_agN_n, ↓PV.sg_cons, PV.sg_nil, PV.ap_sgN_i, PV.ap_sgN_n, PV.gSl3_ev, PV.gSl3_od, PV.evs_map, PV.ods_map, PV.evs_len, PV.ods_len, PV.gSub_ii, PV.gMul_sm, PV.gMul_lst, PV.gMul_tup, PV.gDiv_sm, PV.gMod_sm, PV.gPow_sm, PV.gShl_sm, PV.gShr_sm, PV.gXor_ii, PV.gNeg_i, PV.gLt_ii, PV.gLe_ii, PV.gGt_ii, PV.gGe_ii, PV.gAddI_ii, PV.gSubI_ii, PV.ev_eq, PV.ev_ne, PV.ev_isi, PV.ev_isb, PV.ev_iss, PV.ev_ist, PV.ev_isl, PV.ev_isd, PV.isT_eq, PV.tyN,
  PV.ev_in, PV.ev_notIn, PV.in_l, PV.in_t, PV.ev_is, PV.ev_isN, PV.is_nn, PV.is_in, PV.is_bn, PV.is_sn, PV.is_ln, PV.is_tn, PV.is_dn, PV.is_bb, PV.gix_l, PV.gix_t, PV.gix_s, PV.gSl_t, PV.gSl_l, PV.cut_hi, PV.cut_lo, PV.cut_lh, PV.cut_no, PV.cut_m1, PV.take_map', PV.drop_map', PV.ap_g1, PV.len_t, PV.len_l, PV.len_s, PV.gInt_i, PV.gInt_b, PV.oneIf_t, PV.oneIf_f, PV.abs_i, PV.lst_l, PV.lst_t, PV.tup_l, PV.tup_t, PV.gAppend_ok, PV.gPop, PV.rev_l, PV.getL_l, PV.setL_l, PV.Slot.ownd, PV.env0, PV.Arg.slot, PV.outs, PV.out_un, PV.out_sh, PV.out_xc, PV.out_lk, PV.out_owt, PV.out_owf, PV.out_jk,
  ↓PV.ev_seq, ↓PV.ev_if, PV.thn_rt, PV.thn_bk, PV.thn_ct, PV.lpp_nx, PV.lpp_ct, PV.lpp_bk, PV.lpp_rt, PV.sat_ok, PV.sat_ite, PV.bind_ok, PV.bind_exc, PV.bind_stuck, PV.bind_ite, PV.ok_and, PV.ok_or, PV.okv_and, PV.okv_or, PV.okp_and, PV.okp_or, PV.okvp_and, PV.okvp_or, PV.ifk_bool, ↓PV.ite_bt, ↓PV.ite_bf, PV.sh_int, PV.sh_bl, PV.sh_non, PV.eqv_int, PV.eqv_bl, PV.eqv_str, PV.eqv_non, PV.eqv_ni, PV.eqv_in,
  List.getElem?_cons_zero, List.getElem?_cons_succ, List.set_cons_zero, List.set_cons_succ, List.length_cons, List.length_nil, List.length_map, List.map_cons, List.map_nil, List.cons_append, List.nil_append, List.any_cons, List.any_nil, List.replicate_succ, List.replicate_zero, List.take_succ_cons, List.take_zero, List.isEmpty_cons, List.isEmpty_nil, List.isEmpty_map,
  Option.map_some, Option.map_none, Option.bind_some, Option.bind_none, decide_eq_true_eq, Bool.and_eq_true, Bool.or_eq_true, Bool.not_true, Bool.not_false, Bool.and_true, Bool.true_and, Bool.and_false, Bool.false_and, Bool.or_true, Bool.true_or, Bool.or_false, Bool.false_or, and_true, true_and, and_self, ↓reduceIte, reduceIte, decide_true, decide_false, reduceCtorEq,
  Nat.reduceAdd, Nat.reduceSub, Nat.zero_add, Nat.reduceLeDiff, Int.reduceAdd, Int.reduceSub, Int.reduceMul, Int.reduceNeg, Int.reduceLT, Int.reduceLE, Int.reduceToNat, Int.reducePow, Nat.reduceLT, Bool.false_eq_true, if_false, if_true, String.reduceBEq, String.reduceEq, List.mem_cons, List.not_mem_nil, true_or, or_true, false_or, or_false, not_true, not_false_iff, beq_self_eq_true, Bool.decide_eq_true, PySem.sizeLine_eq, PV.atI_at, PV.atI_neg, PV.ixN_at, PV.ixN_neg, PV.enumD_map, Int.cast_ofNat_Int, Int.toNat_natCast, List.getElem?_map, Option.some_beq_some, Option.some_beq_none, Option.none_beq_some, Nat.reduceBEq, Int.reduceBEq, Int.reduceBNe, Int.reduceEq, PV.not_bool])
local macro_rules | `(tactic| simp! [$hs,*]) => `(tactic| simp -failIfUnchanged (disch := (first | omega | assumption | (simp only [List.length_map, List.length_append, List.length_cons, List.length_nil, List.length_replicate, List.length_take, List.length_drop, PySem.sizeLine_eq] <;> omega))) only [$hs,*, ↓PV.ap_mVar, ↓PV.ap_mC, ↓PV.ap_out1, ↓PV.ap_out2, ↓PV.ap_outn, ↓PV.ap_mUn, ↓PV.ap_kB1, ↓PV.ap_mBin, ↓PV.ap_mCallB, ↓PV.ap_mTB, ↓PV.ap_kTru, ↓PV.ap_mTru, ↓PV.ap_kAnd, ↓PV.ap_kOr, ↓PV.ap_kNot, ↓PV.ap_mAnd, ↓PV.ap_mOr, ↓PV.ap_mNot, ↓PV.ap_kAndV, ↓PV.ap_kOrV, ↓PV.ap_kNotV, ↓PV.ap_mAndV, ↓PV.ap_mOrV, ↓PV.ap_mNotV, ↓PV.ap_kIf, ↓PV.ap_mIf, ↓PV.ap_kCh3, ↓PV.ap_kCh2, ↓PV.ap_kCh1, ↓PV.ap_mChain, ↓PV.ap_kAC2, ↓PV.ap_kAC, ↓PV.ap_aNil, ↓PV.ap_aCons, ↓PV.ap_kTp, ↓PV.ap_mTup, ↓PV.ap_kLs, ↓PV.ap_mLst, ↓PV.ap_kSo, ↓PV.ap_oNo, ↓PV.ap_oSo, ↓PV.ap_kSl3, ↓PV.ap_kSl2, ↓PV.ap_kSl, ↓PV.ap_mSl, ↓PV.ap_kSm3, ↓PV.ap_kSm2, ↓PV.ap_kSm1, ↓PV.ap_kSm, ↓PV.ap_mSl3, ↓PV.ap_doCall, ↓PV.ap_mCall, ↓PV.ap_okTgt, ↓PV.ap_mSet, ↓PV.ap_kE, ↓PV.ap_mExp, ↓PV.ap_kR, ↓PV.ap_mRet, ↓PV.ap_mRetN, ↓PV.ap_sNx, ↓PV.ap_sBk, ↓PV.ap_sCt, ↓PV.ap_mRaise, ↓PV.ap_mYes, ↓PV.ap_mAug, ↓PV.ap_kAu1, ↓PV.ap_mSetIx, ↓PV.ap_kSi, ↓PV.ap_kSi2b, ↓PV.ap_mAugIx, ↓PV.ap_kAi1, ↓PV.ap_kAi3, ↓PV.ap_mMut, ↓PV.ap_kMu1, ↓PV.ap_mRead, ↓PV.ap_kRe, ↓PV.ap_kRe1, ↓PV.ap_tyIs, ↓PV.ap_gNm, ↓PV.ap_gCn, ↓PV.ap_mAsgT, ↓PV.ap_kAT, ↓PV.ap_par2, ↓PV.ap_kPar2, ↓PV.ap_mPar2, ↓PV.ap_par3, ↓PV.ap_kPar3b, ↓PV.ap_kPar3, ↓PV.ap_mPar3, ↓PV.ap_kPC5, ↓PV.ap_kPC3, ↓PV.ap_kPC, ↓PV.ap_pNil, ↓PV.ap_pCons, ↓PV.ap_mDict, ↓PV.ap_kW, ↓PV.ap_iSeq, ↓PV.ap_kRg, ↓PV.ap_iRange, ↓PV.ap_kEn, ↓PV.ap_iEnumD, ↓PV.ap_kIt, ↓PV.ap_iItemsD, ↓PV.ap_mFor, ↓PV.ap_UnlK, ↓PV.ap_bkE, ↓PV.ap_kLc, ↓PV.ap_mLc, ↓PV.ap_kAg, ↓PV.ap_mAllG, ↓PV.ap_kSg, ↓PV.ap_mSumG, ↓PV.ap_mTry,
  PV.kV_sh, PV.kV_ow, PV.kV_lk, PV.kV_xc, PV.deref_d, PV.deref_nw, PV.deref_own, PV.dSl_sh, PV.dSl_ow, PV.dSl_lk, PV.fin_some, PV.o1_some, PV.o2_some, PV.derefs_nil, PV.derefs_cons, PV.ds1_some, PV.onK_some, PV.kTB_b, PV.kTr2_some, PV.kTr3_some, PV.tru_non, PV.tru_bool, PV.tru_int, PV.tru_list, PV.tru_tuple, PV.fo_sh, PV.fo_ow, PV.frz_d, PV.frz_nw, PV.frz_own, PV.fz2_some, PV.fz1_some, PV.frzs_nil, PV.frzs_cons, PV.kTp2_some, PV.kLs2_some, PV.kSo2_int, PV.kSl4_some, PV.kSm4_some, PV.mkA_nil, PV.mkA_cons, PV.ma1_d, PV.ma1_nw, PV.ma1_own, PV.ma2_sh, PV.ma2_ow, PV.ma2_lk, PV.nd_nil, PV.nd_none, PV.nd_some, PV.wb1_ow, PV.wb_nil, PV.wb_sh, PV.wb_lk, PV.wb_no, PV.wb_ow, PV.dc2_ok, PV.dc2_exc, PV.dc_some, PV.okSo_some, PV.okSl_jk, PV.okSl_un, PV.okSl_sh, PV.okSl_ow, PV.okSl_xc, PV.st2_some, PV.store_nw, PV.store_d, PV.store_own, PV.lv_d, PV.lv_nw, PV.lv_own, PV.lvS_sh, PV.lvS_ow, PV.kR2_some, PV.kAu_sh, PV.kAu2_some, PV.kAu3_some, PV.kSi1_some, PV.kSi2_ow, PV.kSi3_some, PV.kSi4_ow, PV.kSi5_some, PV.kAi_ow, PV.kAi2_some, PV.kAi2b_some, PV.kAi2c_some, PV.kAi3b_some, PV.kAi4_some, PV.kAi5_some, PV.kMu_ow, PV.kMu2_some, PV.kMu3_ow, PV.kMu4_some, PV.tnm_l, PV.tnm_d, PV.kRe2_some, PV.kRe3_some, PV.kRe4_some, PV.tyO_l, PV.tyO_t, PV.tyO_d, PV.tyO_s, PV.gTp_t, PV.gTp_l, PV.gNl_nil, PV.gCn1_some, PV.kAT2_some, PV.kAT3_some, PV.prep_d, PV.prep_nw, PV.prep_own, PV.prF_some, PV.st1_d, PV.st1_nw, PV.kP2_some, PV.kP3_some, PV.kP4_some, PV.kQ1_some, PV.kQ2_some, PV.kQ3_some, PV.kQ4_some, PV.kPC4_some, PV.kPC2_some, PV.kD_ok, PV.kD2_some, PV.dStore_nil, PV.wk_l, PV.wk_t, PV.wk_s, PV.wk_n, PV.wk_own, PV.wkS_ol, PV.wkS_ll, PV.wkS_sl, PV.wkS_st, PV.wkS_ss, PV.kW2_some, PV.kRg2_some, PV.kRg3_some, PV.rng1, PV.rng2, PV.kEn2_t, PV.kEn2_l, PV.kEn2_nw, PV.kEn2_own, PV.kEn3_ow, PV.kEn3_lk, PV.kEn3_sl, PV.kEn3_st, PV.kIt2_d, PV.kF_none, PV.kF_some, PV.kF2_ow, PV.sat_unlK, PV.wipe_nil, PV.wipe_cons, PV.back_nil, PV.back_cons, PV.bk1_some, PV.okV_nil, PV.okV_cons, PV.okSo2_some, PV.okS_un, PV.okS_sh, PV.okS_jk, PV.lock_none, PV.lock_some, PV.lk1_ow, PV.unlE_none, PV.unlE_some, PV.ul1_ow, PV.lcF_ok, PV.agF_ok, PV.sgF_ok, PV.tF_ok, PV.tF_exc, PV.tF2_some, PV.tF2_none,
  PV.gAdd_ii, PV.gAdd_ss, PV.gAdd_tt, PV.gAdd_ll, ↓PV.ap_item, PV.it1_some, ↓PV.ap_it2, PV.ap_it3, PV.it4_some, ↓PV.lc_cons, PV.lc_nil, PV.ap_lcN_s, PV.ap_lcN_n, ↓PV.ag_cons, PV.ag_nil, PV.ap_agN_b, PV.ap_agN_n, ↓PV.sg_cons, PV.sg_nil, PV.ap_sgN_i, PV.ap_sgN_n, PV.gSl3_ev, PV.gSl3_od, PV.evs_map, PV.ods_map, PV.evs_len, PV.ods_len, PV.gSub_ii, PV.gMul_sm, PV.gMul_lst, PV.gMul_tup, PV.gDiv_sm, PV.gMod_sm, PV.gPow_sm, PV.gShl_sm, PV.gShr_sm, PV.gXor_ii, PV.gNeg_i, PV.gLt_ii, PV.gLe_ii, PV.gGt_ii, PV.gGe_ii, PV.gAddI_ii, PV.gSubI_ii, PV.ev_eq, PV.ev_ne, PV.ev_isi, PV.ev_isb, PV.ev_iss, PV.ev_ist, PV.ev_isl, PV.ev_isd, PV.isT_eq, PV.tyN,
  PV.ev_in, PV.ev_notIn, PV.in_l, PV.in_t, PV.ev_is, PV.ev_isN, PV.is_nn, PV.is_in, PV.is_bn, PV.is_sn, PV.is_ln, PV.is_tn, PV.is_dn, PV.is_bb, PV.gix_l, PV.gix_t, PV.gix_s, PV.gSl_t, PV.gSl_l, PV.cut_hi, PV.cut_lo, PV.cut_lh, PV.cut_no, PV.cut_m1, PV.take_map', PV.drop_map', PV.ap_g1, PV.len_t, PV.len_l, PV.len_s, PV.gInt_i, PV.gInt_b, PV.oneIf_t, PV.oneIf_f, PV.abs_i, PV.lst_l, PV.lst_t, PV.tup_l, PV.tup_t, PV.gAppend_ok, PV.gPop, PV.rev_l, PV.getL_l, PV.setL_l, PV.Slot.ownd, PV.env0, PV.Arg.slot, PV.outs, PV.out_un, PV.out_sh, PV.out_xc, PV.out_lk, PV.out_owt, PV.out_owf, PV.out_jk,
  ↓PV.ev_seq, ↓PV.ev_if, PV.thn_rt, PV.thn_bk, PV.thn_ct, PV.lpp_nx, PV.lpp_ct, PV.lpp_bk, PV.lpp_rt, PV.sat_ok, PV.sat_ite, PV.bind_ok, PV.bind_exc, PV.bind_stuck, PV.bind_ite, PV.ok_and, PV.ok_or, PV.okv_and, PV.okv_or, PV.okp_and, PV.okp_or, PV.okvp_and, PV.okvp_or, PV.ifk_bool, ↓PV.ite_bt, ↓PV.ite_bf, PV.sh_int, PV.sh_bl, PV.sh_non, PV.eqv_int, PV.eqv_bl, PV.eqv_str, PV.eqv_non, PV.eqv_ni, PV.eqv_in,
  List.getElem?_cons_zero, List.getElem?_cons_succ, List.set_cons_zero, List.set_cons_succ, List.length_cons, List.length_nil, List.length_map, List.map_cons, List.map_nil, List.cons_append, List.nil_append, List.any_cons, List.any_nil, List.replicate_succ, List.replicate_zero, List.take_succ_cons, List.take_zero, List.isEmpty_cons, List.isEmpty_nil, List.isEmpty_map,
  Option.map_some, Option.map_none, Option.bind_some, Option.bind_none, decide_eq_true_eq, Bool.and_eq_true, Bool.or_eq_true, Bool.not_true, Bool.not_false, Bool.and_true, Bool.true_and, Bool.and_false, Bool.false_and, Bool.or_true, Bool.true_or, Bool.or_false, Bool.false_or, and_true, true_and, and_self, ↓reduceIte, reduceIte, decide_true, decide_false, reduceCtorEq,
  Nat.reduceAdd, Nat.reduceSub, Nat.zero_add, Nat.reduceLeDiff, Int.reduceAdd, Int.reduceSub, Int.reduceMul, Int.reduceNeg, Int.reduceLT, Int.reduceLE, Int.reduceToNat, Int.reducePow, Nat.reduceLT, Bool.false_eq_true, if_false, if_true, String.reduceBEq, String.reduceEq, List.mem_cons, List.not_mem_nil, true_or, or_true, false_or, or_false, not_true, not_false_iff, beq_self_eq_true, Bool.decide_eq_true, PySem.sizeLine_eq, PV.atI_at, PV.atI_neg, PV.ixN_at, PV.ixN_neg, PV.enumD_map, Int.cast_ofNat_Int, Int.toNat_natCast, List.getElem?_map, Option.some_beq_some, Option.some_beq_none, Option.none_beq_some, Nat.reduceBEq, Int.reduceBEq, Int.reduceBNe, Int.reduceEq, PV.not_bool])
local macro_rules | `(tactic| dsimp!) => `(tactic| simp -failIfUnchanged (disch := (first | omega | assumption | (simp only [List.length_map, List.length_append, List.length_cons, List.length_nil, List.length_replicate, List.length_take, List.length_drop, PySem.sizeLine_eq] <;> omega))) only [PV.ap_gNm, PV.gTp_t, PV.gTp_l, PV.gNl_nil, PV.ap_gCn, PV.gCn1_some, PV.ap_okTgt, PV.okSo_some, PV.okSl_jk, PV.okSl_un, PV.okSl_sh, PV.okSl_ow, PV.okSl_xc, PV.gsat_some, PV.ap_BodyK, List.getElem?_cons_zero, List.getElem?_cons_succ, List.set_cons_zero, List.set_cons_succ, List.length_cons, List.length_nil, Nat.reduceAdd, Nat.zero_add, ↓reduceIte, if_true])
local macro_rules | `(tactic| dsimp! [$hs,*]) => `(tactic| simp -failIfUnchanged (disch := (first | omega | assumption | (simp only [List.length_map, List.length_append, List.length_cons, List.length_nil, List.length_replicate, List.length_take, List.length_drop, PySem.sizeLine_eq] <;> omega))) only [$hs,*, PV.ap_gNm, PV.gTp_t, PV.gTp_l, PV.gNl_nil, PV.ap_gCn, PV.gCn1_some, PV.ap_okTgt, PV.okSo_some, PV.okSl_jk, PV.okSl_un, PV.okSl_sh, PV.okSl_ow, PV.okSl_xc, PV.gsat_some, PV.ap_BodyK, List.getElem?_cons_zero, List.getElem?_cons_succ, List.set_cons_zero, List.set_cons_succ, List.length_cons, List.length_nil, Nat.reduceAdd, Nat.zero_add, ↓reduceIte, if_true])
local macro_rules | `(tactic| simp_all!) => `(tactic| simp -failIfUnchanged (disch := (first | omega | assumption | (simp only [List.length_map, List.length_append, List.length_cons, List.length_nil, List.length_replicate, List.length_take, List.length_drop, PySem.sizeLine_eq] <;> omega))) only [PV.thn_nx, ↓PV.ap_mVar, ↓PV.ap_mC, ↓PV.ap_out1, ↓PV.ap_out2, ↓PV.ap_outn, ↓PV.ap_mUn, ↓PV.ap_kB1, ↓PV.ap_mBin, ↓PV.ap_mCallB, ↓PV.ap_mTB, ↓PV.ap_kTru, ↓PV.ap_mTru, ↓PV.ap_kAnd, ↓PV.ap_kOr, ↓PV.ap_kNot, ↓PV.ap_mAnd, ↓PV.ap_mOr, ↓PV.ap_mNot, ↓PV.ap_kAndV, ↓PV.ap_kOrV, ↓PV.ap_kNotV, ↓PV.ap_mAndV, ↓PV.ap_mOrV, ↓PV.ap_mNotV, ↓PV.ap_kIf, ↓PV.ap_mIf, ↓PV.ap_kCh3, ↓PV.ap_kCh2, ↓PV.ap_kCh1, ↓PV.ap_mChain, ↓PV.ap_kAC2, ↓PV.ap_kAC, ↓PV.ap_aNil, ↓PV.ap_aCons, ↓PV.ap_kTp, ↓PV.ap_mTup, ↓PV.ap_kLs, ↓PV.ap_mLst, ↓PV.ap_kSo, ↓PV.ap_oNo, ↓PV.ap_oSo, ↓PV.ap_kSl3, ↓PV.ap_kSl2, ↓PV.ap_kSl, ↓PV.ap_mSl, ↓PV.ap_kSm3, ↓PV.ap_kSm2, ↓PV.ap_kSm1, ↓PV.ap_kSm, ↓PV.ap_mSl3, ↓PV.ap_doCall, ↓PV.ap_mCall, ↓PV.ap_okTgt, ↓PV.ap_mSet, ↓PV.ap_kE, ↓PV.ap_mExp, ↓PV.ap_kR, ↓PV.ap_mRet, ↓PV.ap_mRetN, ↓PV.ap_sNx, ↓PV.ap_sBk, ↓PV.ap_sCt, ↓PV.ap_mRaise, ↓PV.ap_mYes, ↓PV.ap_mAug, ↓PV.ap_kAu1, ↓PV.ap_mSetIx, ↓PV.ap_kSi, ↓PV.ap_kSi2b, ↓PV.ap_mAugIx, ↓PV.ap_kAi1, ↓PV.ap_kAi3, ↓PV.ap_mMut, ↓PV.ap_kMu1, ↓PV.ap_mRead, ↓PV.ap_kRe, ↓PV.ap_kRe1, ↓PV.ap_tyIs, ↓PV.ap_gNm, ↓PV.ap_gCn, ↓PV.ap_mAsgT, ↓PV.ap_kAT, ↓PV.ap_par2, ↓PV.ap_kPar2, ↓PV.ap_mPar2, ↓PV.ap_par3, ↓PV.ap_kPar3b, ↓PV.ap_kPar3, ↓PV.ap_mPar3, ↓PV.ap_kPC5, ↓PV.ap_kPC3, ↓PV.ap_kPC, ↓PV.ap_pNil, ↓PV.ap_pCons, ↓PV.ap_mDict, ↓PV.ap_kW, ↓PV.ap_iSeq, ↓PV.ap_kRg, ↓PV.ap_iRange, ↓PV.ap_kEn, ↓PV.ap_iEnumD, ↓PV.ap_kIt, ↓PV.ap_iItemsD, ↓PV.ap_mFor, ↓PV.ap_UnlK, ↓PV.ap_bkE, ↓PV.ap_kLc, ↓PV.ap_mLc, ↓PV.ap_kAg, ↓PV.ap_mAllG, ↓PV.ap_kSg, ↓PV.ap_mSumG, ↓PV.ap_mTry,
  PV.kV_sh, PV.kV_ow, PV.kV_lk, PV.kV_xc, PV.deref_d, PV.deref_nw, PV.deref_own, PV.dSl_sh, PV.dSl_ow, PV.dSl_lk, PV.fin_some, PV.o1_some, PV.o2_some, PV.derefs_nil, PV.derefs_cons, PV.ds1_some, PV.onK_some, PV.kTB_b, PV.kTr2_some, PV.kTr3_some, PV.tru_non, PV.tru_bool, PV.tru_int, PV.tru_list, PV.tru_tuple, PV.fo_sh, PV.fo_ow, PV.frz_d, PV.frz_nw, PV.frz_own, PV.fz2_some, PV.fz1_some, PV.frzs_nil, PV.frzs_cons, PV.kTp2_some, PV.kLs2_some, PV.kSo2_int, PV.kSl4_some, PV.kSm4_some, PV.mkA_nil, PV.mkA_cons, PV.ma1_d, PV.ma1_nw, PV.ma1_own, PV.ma2_sh, PV.ma2_ow, PV.ma2_lk, PV.nd_nil, PV.nd_none, PV.nd_some, PV.wb1_ow, PV.wb_nil, PV.wb_sh, PV.wb_lk, PV.wb_no, PV.wb_ow, PV.dc2_ok, PV.dc2_exc, PV.dc_some, PV.okSo_some, PV.okSl_jk, PV.okSl_un, PV.okSl_sh, PV.okSl_ow, PV.okSl_xc, PV.st2_some, PV.store_nw, PV.store_d, PV.store_own, PV.lv_d, PV.lv_nw, PV.lv_own, PV.lvS_sh, PV.lvS_ow, PV.kR2_some, PV.kAu_sh, PV.kAu2_some, PV.kAu3_some, PV.kSi1_some, PV.kSi2_ow, PV.kSi3_some, PV.kSi4_ow, PV.kSi5_some, PV.kAi_ow, PV.kAi2_some, PV.kAi2b_some, PV.kAi2c_some, PV.kAi3b_some, PV.kAi4_some, PV.kAi5_some, PV.kMu_ow, PV.kMu2_some, PV.kMu3_ow, PV.kMu4_some, PV.tnm_l, PV.tnm_d, PV.kRe2_some, PV.kRe3_some, PV.kRe4_some, PV.tyO_l, PV.tyO_t, PV.tyO_d, PV.tyO_s, PV.gTp_t, PV.gTp_l, PV.gNl_nil, PV.gCn1_some, PV.kAT2_some, PV.kAT3_some, PV.prep_d, PV.prep_nw, PV.prep_own, PV.prF_some, PV.st1_d, PV.st1_nw, PV.kP2_some, PV.kP3_some, PV.kP4_some, PV.kQ1_some, PV.kQ2_some, PV.kQ3_some, PV.kQ4_some, PV.kPC4_some, PV.kPC2_some, PV.kD_ok, PV.kD2_some, PV.dStore_nil, PV.wk_l, PV.wk_t, PV.wk_s, PV.wk_n, PV.wk_own, PV.wkS_ol, PV.wkS_ll, PV.wkS_sl, PV.wkS_st, PV.wkS_ss, PV.kW2_some, PV.kRg2_some, PV.kRg3_some, PV.rng1, PV.rng2, PV.kEn2_t, PV.kEn2_l, PV.kEn2_nw, PV.kEn2_own, PV.kEn3_ow, PV.kEn3_lk, PV.kEn3_sl, PV.kEn3_st, PV.kIt2_d, PV.kF_none, PV.kF_some, PV.kF2_ow, PV.sat_unlK, PV.wipe_nil, PV.wipe_cons, PV.back_nil, PV.back_cons, PV.bk1_some, PV.okV_nil, PV.okV_cons, PV.okSo2_some, PV.okS_un, PV.okS_sh, PV.okS_jk, PV.lock_none, PV.lock_some, PV.lk1_ow, PV.unlE_none, PV.unlE_some, PV.ul1_ow, PV.lcF_ok, PV.agF_ok, PV.sgF_ok, PV.tF_ok, PV.tF_exc, PV.tF2_some, PV.tF2_none,
  PV.gAdd_ii, PV.gAdd_ss, PV.gAdd_tt, PV.gAdd_ll, ↓PV.ap_item, PV.it1_some, ↓PV.ap_it2, PV.ap_it3, PV.it4_some, ↓PV.lc_cons, PV.lc_nil, PV.ap_lcN_s, PV.ap_lcN_n, ↓PV.ag_cons, PV.ag_nil, PV.ap_agN_b, PV.ap_agN_n, ↓PV.sg_cons, PV.sg_nil, PV.ap_sgN_i, PV.ap_sgN_n, PV.gSl3_ev, PV.gSl3_od, PV.evs_map, PV.ods_map, PV.evs_len, PV.ods_len, PV.gSub_ii, PV.gMul_sm, PV.gMul_lst, PV.gMul_tup, PV.gDiv_sm, PV.gMod_sm, PV.gPow_sm, PV.gShl_sm, PV.gShr_sm, PV.gXor_ii, PV.gNeg_i, PV.gLt_ii, PV.gLe_ii, PV.gGt_ii, PV.gGe_ii, PV.gAddI_ii, PV.gSubI_ii, PV.ev_eq, PV.ev_ne, PV.ev_isi, PV.ev_isb, PV.ev_iss, PV.ev_ist, PV.ev_isl, PV.ev_isd, PV.isT_eq, PV.tyN,
  PV.ev_in, PV.ev_notIn, PV.in_l, PV.in_t, PV.ev_is, PV.ev_isN, PV.is_nn, PV.is_in, PV.is_bn, PV.is_sn, PV.is_ln, PV.is_tn, PV.is_dn, PV.is_bb, PV.gix_l, PV.gix_t, PV.gix_s, PV.gSl_t, PV.gSl_l, PV.cut_hi, PV.cut_lo, PV.cut_lh, PV.cut_no, PV.cut_m1, PV.take_map', PV.drop_map', PV.ap_g1, PV.len_t, PV.len_l, PV.len_s, PV.gInt_i, PV.gInt_b, PV.oneIf_t, PV.oneIf_f, PV.abs_i, PV.lst_l, PV.lst_t, PV.tup_l, PV.tup_t, PV.gAppend_ok, PV.gPop, PV.rev_l, PV.getL_l, PV.setL_l, PV.Slot.ownd, PV.env0, PV.Arg.slot, PV.outs, PV.out_un, PV.out_sh, PV.out_xc, PV.out_lk, PV.out_owt, PV.out_owf, PV.out_jk,
  ↓PV.ev_seq, ↓PV.ev_if, PV.thn_rt, PV.thn_bk, PV.thn_ct, PV.lpp_nx, PV.lpp_ct, PV.lpp_bk, PV.lpp_rt, PV.sat_ok, PV.sat_ite, PV.bind_ok, PV.bind_exc, PV.bind_stuck, PV.bind_ite, PV.ok_and, PV.ok_or, PV.okv_and, PV.okv_or, PV.okp_and, PV.okp_or, PV.okvp_and, PV.okvp_or, PV.ifk_bool, ↓PV.ite_bt, ↓PV.ite_bf, PV.sh_int, PV.sh_bl, PV.sh_non, PV.eqv_int, PV.eqv_bl, PV.eqv_str, PV.eqv_non, PV.eqv_ni, PV.eqv_in,
  List.getElem?_cons_zero, List.getElem?_cons_succ, List.set_cons_zero, List.set_cons_succ, List.length_cons, List.length_nil, List.length_map, List.map_cons, List.map_nil, List.cons_append, List.nil_append, List.any_cons, List.any_nil, List.replicate_succ, List.replicate_zero, List.take_succ_cons, List.take_zero, List.isEmpty_cons, List.isEmpty_nil, List.isEmpty_map,
  Option.map_some, Option.map_none, Option.bind_some, Option.bind_none, decide_eq_true_eq, Bool.and_eq_true, Bool.or_eq_true, Bool.not_true, Bool.not_false, Bool.and_true, Bool.true_and, Bool.and_false, Bool.false_and, Bool.or_true, Bool.true_or, Bool.or_false, Bool.false_or, and_true, true_and, and_self, ↓reduceIte, reduceIte, decide_true, decide_false, reduceCtorEq,
  Nat.reduceAdd, Nat.reduceSub, Nat.zero_add, Nat.reduceLeDiff, Int.reduceAdd, Int.reduceSub, Int.reduceMul, Int.reduceNeg, Int.reduceLT, Int.reduceLE, Int.reduceToNat, Int.reducePow, Nat.reduceLT, Bool.false_eq_true, if_false, if_true, String.reduceBEq, String.reduceEq, List.mem_cons, List.not_mem_nil, true_or, or_true, false_or, or_false, not_true, not_false_iff, beq_self_eq_true, Bool.decide_eq_true, PySem.sizeLine_eq, PV.atI_at, PV.atI_neg, PV.ixN_at, PV.ixN_neg, PV.enumD_map, Int.cast_ofNat_Int, Int.toNat_natCast, List.getElem?_map, Option.some_beq_some, Option.some_beq_none, Option.none_beq_some, Nat.reduceBEq, Int.reduceBEq, Int.reduceBNe, Int.reduceEq, PV.not_bool])
local macro_rules | `(tactic| simp_all! [$hs,*]) => `(tactic| simp -failIfUnchanged (disch := (first | omega | assumption | (simp only [List.length_map, List.length_append, List.length_cons, List.length_nil, List.length_replicate, List.length_take, List.length_drop, PySem.sizeLine_eq] <;> omega))) only [$hs,*, PV.thn_nx, ↓PV.ap_mVar, ↓PV.ap_mC, ↓PV.ap_out1, ↓PV.ap_out2, ↓PV.ap_outn, ↓PV.ap_mUn, ↓PV.ap_kB1, ↓PV.ap_mBin, ↓PV.ap_mCallB, ↓PV.ap_mTB, ↓PV.ap_kTru, ↓PV.ap_mTru, ↓PV.ap_kAnd, ↓PV.ap_kOr, ↓PV.ap_kNot, ↓PV.ap_mAnd, ↓PV.ap_mOr, ↓PV.ap_mNot, ↓PV.ap_kAndV, ↓PV.ap_kOrV, ↓PV.ap_kNotV, ↓PV.ap_mAndV, ↓PV.ap_mOrV, ↓PV.ap_mNotV, ↓PV.ap_kIf, ↓PV.ap_mIf, ↓PV.ap_kCh3, ↓PV.ap_kCh2, ↓PV.ap_kCh1, ↓PV.ap_mChain, ↓PV.ap_kAC2, ↓PV.ap_kAC, ↓PV.ap_aNil, ↓PV.ap_aCons, ↓PV.ap_kTp, ↓PV.ap_mTup, ↓PV.ap_kLs, ↓PV.ap_mLst, ↓PV.ap_kSo, ↓PV.ap_oNo, ↓PV.ap_oSo, ↓PV.ap_kSl3, ↓PV.ap_kSl2, ↓PV.ap_kSl, ↓PV.ap_mSl, ↓PV.ap_kSm3, ↓PV.ap_kSm2, ↓PV.ap_kSm1, ↓PV.ap_kSm, ↓PV.ap_mSl3, ↓PV.ap_doCall, ↓PV.ap_mCall, ↓PV.ap_okTgt, ↓PV.ap_mSet, ↓PV.ap_kE, ↓PV.ap_mExp, ↓PV.ap_kR, ↓PV.ap_mRet, ↓PV.ap_mRetN, ↓PV.ap_sNx, ↓PV.ap_sBk, ↓PV.ap_sCt, ↓PV.ap_mRaise, ↓PV.ap_mYes, ↓PV.ap_mAug, ↓PV.ap_kAu1, ↓PV.ap_mSetIx, ↓PV.ap_kSi, ↓PV.ap_kSi2b, ↓PV.ap_mAugIx, ↓PV.ap_kAi1, ↓PV.ap_kAi3, ↓PV.ap_mMut, ↓PV.ap_kMu1, ↓PV.ap_mRead, ↓PV.ap_kRe, ↓PV.ap_kRe1, ↓PV.ap_tyIs, ↓PV.ap_gNm, ↓PV.ap_gCn, ↓PV.ap_mAsgT, ↓PV.ap_kAT, ↓PV.ap_par2, ↓PV.ap_kPar2, ↓PV.ap_mPar2, ↓PV.ap_par3, ↓PV.ap_kPar3b, ↓PV.ap_kPar3, ↓PV.ap_mPar3, ↓PV.ap_kPC5, ↓PV.ap_kPC3, ↓PV.ap_kPC, ↓PV.ap_pNil, ↓PV.ap_pCons, ↓PV.ap_mDict, ↓PV.ap_kW, ↓PV.ap_iSeq, ↓PV.ap_kRg, ↓PV.ap_iRange, ↓PV.ap_kEn, ↓PV.ap_iEnumD, ↓PV.ap_kIt, ↓PV.ap_iItemsD, ↓PV.ap_mFor, ↓PV.ap_UnlK, ↓PV.ap_bkE, ↓PV.ap_kLc, ↓PV.ap_mLc, ↓PV.ap_kAg, ↓PV.ap_mAllG, ↓PV.ap_kSg, ↓PV.ap_mSumG, ↓PV.ap_mTry,
  PV.kV_sh, PV.kV_ow, PV.kV_lk, PV.kV_xc, PV.deref_d, PV.deref_nw, PV.deref_own, PV.dSl_sh, PV.dSl_ow, PV.dSl_lk, PV.fin_some, PV.o1_some, PV.o2_some, PV.derefs_nil, PV.derefs_cons, PV.ds1_some, PV.onK_some, PV.kTB_b, PV.kTr2_some, PV.kTr3_some, PV.tru_non, PV.tru_bool, PV.tru_int, PV.tru_list, PV.tru_tuple, PV.fo_sh, PV.fo_ow, PV.frz_d, PV.frz_nw, PV.frz_own, PV.fz2_some, PV.fz1_some, PV.frzs_nil, PV.frzs_cons, PV.kTp2_some, PV.kLs2_some, PV.kSo2_int, PV.kSl4_some, PV.kSm4_some, PV.mkA_nil, PV.mkA_cons, PV.ma1_d, PV.ma1_nw, PV.ma1_own, PV.ma2_sh, PV.ma2_ow, PV.ma2_lk, PV.nd_nil, PV.nd_none, PV.nd_some, PV.wb1_ow, PV.wb_nil, PV.wb_sh, PV.wb_lk, PV.wb_no, PV.wb_ow, PV.dc2_ok, PV.dc2_exc, PV.dc_some, PV.okSo_some, PV.okSl_jk, PV.okSl_un, PV.okSl_sh, PV.okSl_ow, PV.okSl_xc, PV.st2_some, PV.store_nw, PV.store_d, PV.store_own, PV.lv_d, PV.lv_nw, PV.lv_own, PV.lvS_sh, PV.lvS_ow, PV.kR2_some, PV.kAu_sh, PV.kAu2_some, PV.kAu3_some, PV.kSi1_some, PV.kSi2_ow, PV.kSi3_some, PV.kSi4_ow, PV.kSi5_some, PV.kAi_ow, PV.kAi2_some, PV.kAi2b_some, PV.kAi2c_some, PV.kAi3b_some, PV.kAi4_some, PV.kAi5_some, PV.kMu_ow, PV.kMu2_some, PV.kMu3_ow, PV.kMu4_some, PV.tnm_l, PV.tnm_d, PV.kRe2_some, PV.kRe3_some, PV.kRe4_some, PV.tyO_l, PV.tyO_t, PV.tyO_d, PV.tyO_s, PV.gTp_t, PV.gTp_l, PV.gNl_nil, PV.gCn1_some, PV.kAT2_some, PV.kAT3_some, PV.prep_d, PV.prep_nw, PV.prep_own, PV.prF_some, PV.st1_d, PV.st1_nw, PV.kP2_some, PV.kP3_some, PV.kP4_some, PV.kQ1_some, PV.kQ2_some, PV.kQ3_some, PV.kQ4_some, PV.kPC4_some, PV.kPC2_some, PV.kD_ok, PV.kD2_some, PV.dStore_nil, PV.wk_l, PV.wk_t, PV.wk_s, PV.wk_n, PV.wk_own, PV.wkS_ol, PV.wkS_ll, PV.wkS_sl, PV.wkS_st, PV.wkS_ss, PV.kW2_some, PV.kRg2_some, PV.kRg3_some, PV.rng1, PV.rng2, PV.kEn2_t, PV.kEn2_l, PV.kEn2_nw, PV.kEn2_own, PV.kEn3_ow, PV.kEn3_lk, PV.kEn3_sl, PV.kEn3_st, PV.kIt2_d, PV.kF_none, PV.kF_some, PV.kF2_ow, PV.sat_unlK, PV.wipe_nil, PV.wipe_cons, PV.back_nil, PV.back_cons, PV.bk1_some, PV.okV_nil, PV.okV_cons, PV.okSo2_some, PV.okS_un, PV.okS_sh, PV.okS_jk, PV.lock_none, PV.lock_some, PV.lk1_ow, PV.unlE_none, PV.unlE_some, PV.ul1_ow, PV.lcF_ok, PV.agF_ok, PV.sgF_ok, PV.tF_ok, PV.tF_exc, PV.tF2_some, PV.tF2_none,
  PV.gAdd_ii, PV.gAdd_ss, PV.gAdd_tt, PV.gAdd_ll, ↓PV.ap_item, PV.it1_some, ↓PV.ap_it2, PV.ap_it3, PV.it4_some, ↓PV.lc_cons, PV.lc_nil, PV.ap_lcN_s, PV.ap_lcN_n, ↓PV.ag_cons, PV.ag_nil, PV.ap_agN_b, PV.ap_agN_n, ↓PV.sg_cons, PV.sg_nil, PV.ap_sgN_i, PV.ap_sgN_n, PV.gSl3_ev, PV.gSl3_od, PV.evs_map, PV.ods_map, PV.evs_len, PV.ods_len, PV.gSub_ii, PV.gMul_sm, PV.gMul_lst, PV.gMul_tup, PV.gDiv_sm, PV.gMod_sm, PV.gPow_sm, PV.gShl_sm, PV.gShr_sm, PV.gXor_ii, PV.gNeg_i, PV.gLt_ii, PV.gLe_ii, PV.gGt_ii, PV.gGe_ii, PV.gAddI_ii, PV.gSubI_ii, PV.ev_eq, PV.ev_ne, PV.ev_isi, PV.ev_isb, PV.ev_iss, PV.ev_ist, PV.ev_isl, PV.ev_isd, PV.isT_eq, PV.tyN,
  PV.ev_in, PV.ev_notIn, PV.in_l, PV.in_t, PV.ev_is, PV.ev_isN, PV.is_nn, PV.is_in, PV.is_bn, PV.is_sn, PV.is_ln, PV.is_tn, PV.is_dn, PV.is_bb, PV.gix_l, PV.gix_t, PV.gix_s, PV.gSl_t, PV.gSl_l, PV.cut_hi, PV.cut_lo, PV.cut_lh, PV.cut_no, PV.cut_m1, PV.take_map', PV.drop_map', PV.ap_g1, PV.len_t, PV.len_l, PV.len_s, PV.gInt_i, PV.gInt_b, PV.oneIf_t, PV.oneIf_f, PV.abs_i, PV.lst_l, PV.lst_t, PV.tup_l, PV.tup_t, PV.gAppend_ok, PV.gPop, PV.rev_l, PV.getL_l, PV.setL_l, PV.Slot.ownd, PV.env0, PV.Arg.slot, PV.outs, PV.out_un, PV.out_sh, PV.out_xc, PV.out_lk, PV.out_owt, PV.out_owf, PV.out_jk,
  ↓PV.ev_seq, ↓PV.ev_if, PV.thn_rt, PV.thn_bk, PV.thn_ct, PV.lpp_nx, PV.lpp_ct, PV.lpp_bk, PV.lpp_rt, PV.sat_ok, PV.sat_ite, PV.bind_ok, PV.bind_exc, PV.bind_stuck, PV.bind_ite, PV.ok_and, PV.ok_or, PV.okv_and, PV.okv_or, PV.okp_and, PV.okp_or, PV.okvp_and, PV.okvp_or, PV.ifk_bool, ↓PV.ite_bt, ↓PV.ite_bf, PV.sh_int, PV.sh_bl, PV.sh_non, PV.eqv_int, PV.eqv_bl, PV.eqv_str, PV.eqv_non, PV.eqv_ni, PV.eqv_in,
  List.getElem?_cons_zero, List.getElem?_cons_succ, List.set_cons_zero, List.set_cons_succ, List.length_cons, List.length_nil, List.length_map, List.map_cons, List.map_nil, List.cons_append, List.nil_append, List.any_cons, List.any_nil, List.replicate_succ, List.replicate_zero, List.take_succ_cons, List.take_zero, List.isEmpty_cons, List.isEmpty_nil, List.isEmpty_map,
  Option.map_some, Option.map_none, Option.bind_some, Option.bind_none, decide_eq_true_eq, Bool.and_eq_true, Bool.or_eq_true, Bool.not_true, Bool.not_false, Bool.and_true, Bool.true_and, Bool.and_false, Bool.false_and, Bool.or_true, Bool.true_or, Bool.or_false, Bool.false_or, and_true, true_and, and_self, ↓reduceIte, reduceIte, decide_true, decide_false, reduceCtorEq,
  Nat.reduceAdd, Nat.reduceSub, Nat.zero_add, Nat.reduceLeDiff, Int.reduceAdd, Int.reduceSub, Int.reduceMul, Int.reduceNeg, Int.reduceLT, Int.reduceLE, Int.reduceToNat, Int.reducePow, Nat.reduceLT, Bool.false_eq_true, if_false, if_true, String.reduceBEq, String.reduceEq, List.mem_cons, List.not_mem_nil, true_or, or_true, false_or, or_false, not_true, not_false_iff, beq_self_eq_true, Bool.decide_eq_true, PySem.sizeLine_eq, PV.atI_at, PV.atI_neg, PV.ixN_at, PV.ixN_neg, PV.enumD_map, Int.cast_ofNat_Int, Int.toNat_natCast, List.getElem?_map, Option.some_beq_some, Option.some_beq_none, Option.none_beq_some, Nat.reduceBEq, Int.reduceBEq, Int.reduceBNe, Int.reduceEq, PV.not_bool])
local macro_rules | `(tactic| simp_arith) => `(tactic| simp -failIfUnchanged (disch := (first | omega | assumption | (simp only [List.length_map, List.length_append, List.length_cons, List.length_nil, List.length_replicate, List.length_take, List.length_drop, PySem.sizeLine_eq] <;> omega))) only [↓PV.mkF1, ↓PV.mkF2, ↓PV.mkF3, ↓PV.mkF4, ↓PV.mkF5, ↓PV.ap_mSeq, ↓PV.ap_mIfS, PV.kSq_nx, PV.kSq_rt, PV.kSq_bk, PV.kSq_ct, ↓PV.ap_kIS, PV.end_rt, PV.end_nx, PV.end_exc, ↓PV.ap_mVar, ↓PV.ap_mC, ↓PV.ap_out1, ↓PV.ap_out2, ↓PV.ap_outn, ↓PV.ap_mUn, ↓PV.ap_kB1, ↓PV.ap_mBin, ↓PV.ap_mCallB, ↓PV.ap_mTB, ↓PV.ap_kTru, ↓PV.ap_mTru, ↓PV.ap_kAnd, ↓PV.ap_kOr, ↓PV.ap_kNot, ↓PV.ap_mAnd, ↓PV.ap_mOr, ↓PV.ap_mNot, ↓PV.ap_kAndV, ↓PV.ap_kOrV, ↓PV.ap_kNotV, ↓PV.ap_mAndV, ↓PV.ap_mOrV, ↓PV.ap_mNotV, ↓PV.ap_kIf, ↓PV.ap_mIf, ↓PV.ap_kCh3, ↓PV.ap_kCh2, ↓PV.ap_kCh1, ↓PV.ap_mChain, ↓PV.ap_kAC2, ↓PV.ap_kAC, ↓PV.ap_aNil, ↓PV.ap_aCons, ↓PV.ap_kTp, ↓PV.ap_mTup, ↓PV.ap_kLs, ↓PV.ap_mLst, ↓PV.ap_kSo, ↓PV.ap_oNo, ↓PV.ap_oSo, ↓PV.ap_kSl3, ↓PV.ap_kSl2, ↓PV.ap_kSl, ↓PV.ap_mSl, ↓PV.ap_kSm3, ↓PV.ap_kSm2, ↓PV.ap_kSm1, ↓PV.ap_kSm, ↓PV.ap_mSl3, ↓PV.ap_doCall, ↓PV.ap_mCall, ↓PV.ap_okTgt, ↓PV.ap_mSet, ↓PV.ap_kE, ↓PV.ap_mExp, ↓PV.ap_kR, ↓PV.ap_mRet, ↓PV.ap_mRetN, ↓PV.ap_sNx, ↓PV.ap_sBk, ↓PV.ap_sCt, ↓PV.ap_mRaise, ↓PV.ap_mYes, ↓PV.ap_mAug, ↓PV.ap_kAu1, ↓PV.ap_mSetIx, ↓PV.ap_kSi, ↓PV.ap_kSi2b, ↓PV.ap_mAugIx, ↓PV.ap_kAi1, ↓PV.ap_kAi3, ↓PV.ap_mMut, ↓PV.ap_kMu1, ↓PV.ap_mRead, ↓PV.ap_kRe, ↓PV.ap_kRe1, ↓PV.ap_tyIs, ↓PV.ap_gNm, ↓PV.ap_gCn, ↓PV.ap_mAsgT, ↓PV.ap_kAT, ↓PV.ap_par2, ↓PV.ap_kPar2, ↓PV.ap_mPar2, ↓PV.ap_par3, ↓PV.ap_kPar3b, ↓PV.ap_kPar3, ↓PV.ap_mPar3, ↓PV.ap_kPC5, ↓PV.ap_kPC3, ↓PV.ap_kPC, ↓PV.ap_pNil, ↓PV.ap_pCons, ↓PV.ap_mDict, ↓PV.ap_kW, ↓PV.ap_iSeq, ↓PV.ap_kRg, ↓PV.ap_iRange, ↓PV.ap_kEn, ↓PV.ap_iEnumD, ↓PV.ap_kIt, ↓PV.ap_iItemsD, ↓PV.ap_mFor, ↓PV.ap_UnlK, ↓PV.ap_bkE, ↓PV.ap_kLc, ↓PV.ap_mLc, ↓PV.ap_kAg, ↓PV.ap_mAllG, ↓PV.ap_kSg, ↓PV.ap_mSumG, ↓PV.ap_mTry,
  PV.kV_sh, PV.kV_ow, PV.kV_lk, PV.kV_xc, PV.deref_d, PV.deref_nw, PV.deref_own, PV.dSl_sh, PV.dSl_ow, PV.dSl_lk, PV.fin_some, PV.o1_some, PV.o2_some, PV.derefs_nil, PV.derefs_cons, PV.ds1_some, PV.onK_some, PV.kTB_b, PV.kTr2_some, PV.kTr3_some, PV.tru_non, PV.tru_bool, PV.tru_int, PV.tru_list, PV.tru_tuple, PV.fo_sh, PV.fo_ow, PV.frz_d, PV.frz_nw, PV.frz_own, PV.fz2_some, PV.fz1_some, PV.frzs_nil, PV.frzs_cons, PV.kTp2_some, PV.kLs2_some, PV.kSo2_int, PV.kSl4_some, PV.kSm4_some, PV.mkA_nil, PV.mkA_cons, PV.ma1_d, PV.ma1_nw, PV.ma1_own, PV.ma2_sh, PV.ma2_ow, PV.ma2_lk, PV.nd_nil, PV.nd_none, PV.nd_some, PV.wb1_ow, PV.wb_nil, PV.wb_sh, PV.wb_lk, PV.wb_no, PV.wb_ow, PV.dc2_ok, PV.dc2_exc, PV.dc_some, PV.okSo_some, PV.okSl_jk, PV.okSl_un, PV.okSl_sh, PV.okSl_ow, PV.okSl_xc, PV.st2_some, PV.store_nw, PV.store_d, PV.store_own, PV.lv_d, PV.lv_nw, PV.lv_own, PV.lvS_sh, PV.lvS_ow, PV.kR2_some, PV.kAu_sh, PV.kAu2_some, PV.kAu3_some, PV.kSi1_some, PV.kSi2_ow, PV.kSi3_some, PV.kSi4_ow, PV.kSi5_some, PV.kAi_ow, PV.kAi2_some, PV.kAi2b_some, PV.kAi2c_some, PV.kAi3b_some, PV.kAi4_some, PV.kAi5_some, PV.kMu_ow, PV.kMu2_some, PV.kMu3_ow, PV.kMu4_some, PV.tnm_l, PV.tnm_d, PV.kRe2_some, PV.kRe3_some, PV.kRe4_some, PV.tyO_l, PV.tyO_t, PV.tyO_d, PV.tyO_s, PV.gTp_t, PV.gTp_l, PV.gNl_nil, PV.gCn1_some, PV.kAT2_some, PV.kAT3_some, PV.prep_d, PV.prep_nw, PV.prep_own, PV.prF_some, PV.st1_d, PV.st1_nw, PV.kP2_some, PV.kP3_some, PV.kP4_some, PV.kQ1_some, PV.kQ2_some, PV.kQ3_some, PV.kQ4_some, PV.kPC4_some, PV.kPC2_some, PV.kD_ok, PV.kD2_some, PV.dStore_nil, PV.wk_l, PV.wk_t, PV.wk_s, PV.wk_n, PV.wk_own, PV.wkS_ol, PV.wkS_ll, PV.wkS_sl, PV.wkS_st, PV.wkS_ss, PV.kW2_some, PV.kRg2_some, PV.kRg3_some, PV.rng1, PV.rng2, PV.kEn2_t, PV.kEn2_l, PV.kEn2_nw, PV.kEn2_own, PV.kEn3_ow, PV.kEn3_lk, PV.kEn3_sl, PV.kEn3_st, PV.kIt2_d, PV.kF_none, PV.kF_some, PV.kF2_ow, PV.sat_unlK, PV.wipe_nil, PV.wipe_cons, PV.back_nil, PV.back_cons, PV.bk1_some, PV.okV_nil, PV.okV_cons, PV.okSo2_some, PV.okS_un, PV.okS_sh, PV.okS_jk, PV.lock_none, PV.lock_some, PV.lk1_ow, PV.unlE_none, PV.unlE_some, PV.ul1_ow, PV.lcF_ok, PV.agF_ok, PV.sgF_ok, PV.tF_ok, PV.tF_exc, PV.tF2_some, PV.tF2_none,
  PV.gAdd_ii, PV.gAdd_ss, PV.gAdd_tt, PV.gAdd_ll, ↓PV.ap_item, PV.it1_some, ↓PV.ap_it2, PV.ap_it3, PV.it4_some, ↓PV.lc_cons, PV.lc_nil, PV.ap_lcN_s, PV.ap_lcN_n, ↓PV.ag_cons, PV.ag_nil, PV.ap_agN_b, PV.ap_agN_n, ↓PV.sg_cons, PV.sg_nil, PV.ap_sgN_i, PV.ap_sgN_n, PV.gSl3_ev, PV.gSl3_od, PV.evs_map, PV.ods_map, PV.evs_len, PV.ods_len, PV.gSub_ii, PV.gMul_sm, PV.gMul_lst, PV.gMul_tup, PV.gDiv_sm, PV.gMod_sm, PV.gPow_sm, PV.gShl_sm, PV.gShr_sm, PV.gXor_ii, PV.gNeg_i, PV.gLt_ii, PV.gLe_ii, PV.gGt_ii, PV.gGe_ii, PV.gAddI_ii, PV.gSubI_ii, PV.ev_eq, PV.ev_ne, PV.ev_isi, PV.ev_isb, PV.ev_iss, PV.ev_ist, PV.ev_isl, PV.ev_isd, PV.isT_eq, PV.tyN,
  PV.ev_in, PV.ev_notIn, PV.in_l, PV.in_t, PV.ev_is, PV.ev_isN, PV.is_nn, PV.is_in, PV.is_bn, PV.is_sn, PV.is_ln, PV.is_tn, PV.is_dn, PV.is_bb, PV.gix_l, PV.gix_t, PV.gix_s, PV.gSl_t, PV.gSl_l, PV.cut_hi, PV.cut_lo, PV.cut_lh, PV.cut_no, PV.cut_m1, PV.take_map', PV.drop_map', PV.ap_g1, PV.len_t, PV.len_l, PV.len_s, PV.gInt_i, PV.gInt_b, PV.oneIf_t, PV.oneIf_f, PV.abs_i, PV.lst_l, PV.lst_t, PV.tup_l, PV.tup_t, PV.gAppend_ok, PV.gPop, PV.rev_l, PV.getL_l, PV.setL_l, PV.Slot.ownd, PV.env0, PV.Arg.slot, PV.outs, PV.out_un, PV.out_sh, PV.out_xc, PV.out_lk, PV.out_owt, PV.out_owf, PV.out_jk,
  ↓PV.ev_seq, ↓PV.ev_if, PV.thn_rt, PV.thn_bk, PV.thn_ct, PV.lpp_nx, PV.lpp_ct, PV.lpp_bk, PV.lpp_rt, PV.sat_ok, PV.sat_ite, PV.bind_ok, PV.bind_exc, PV.bind_stuck, PV.bind_ite, PV.ok_and, PV.ok_or, PV.okv_and, PV.okv_or, PV.okp_and, PV.okp_or, PV.okvp_and, PV.okvp_or, PV.ifk_bool, ↓PV.ite_bt, ↓PV.ite_bf, PV.sh_int, PV.sh_bl, PV.sh_non, PV.eqv_int, PV.eqv_bl, PV.eqv_str, PV.eqv_non, PV.eqv_ni, PV.eqv_in,
  List.getElem?_cons_zero, List.getElem?_cons_succ, List.set_cons_zero, List.set_cons_succ, List.length_cons, List.length_nil, List.length_map, List.map_cons, List.map_nil, List.cons_append, List.nil_append, List.any_cons, List.any_nil, List.replicate_succ, List.replicate_zero, List.take_succ_cons, List.take_zero, List.isEmpty_cons, List.isEmpty_nil, List.isEmpty_map,
  Option.map_some, Option.map_none, Option.bind_some, Option.bind_none, decide_eq_true_eq, Bool.and_eq_true, Bool.or_eq_true, Bool.not_true, Bool.not_false, Bool.and_true, Bool.true_and, Bool.and_false, Bool.false_and, Bool.or_true, Bool.true_or, Bool.or_false, Bool.false_or, and_true, true_and, and_self, ↓reduceIte, reduceIte, decide_true, decide_false, reduceCtorEq,
  Nat.reduceAdd, Nat.reduceSub, Nat.zero_add, Nat.reduceLeDiff, Int.reduceAdd, Int.reduceSub, Int.reduceMul, Int.reduceNeg, Int.reduceLT, Int.reduceLE, Int.reduceToNat, Int.reducePow, Nat.reduceLT, Bool.false_eq_true, if_false, if_true, String.reduceBEq, String.reduceEq, List.mem_cons, List.not_mem_nil, true_or, or_true, false_or, or_false, not_true, not_false_iff, beq_self_eq_true, Bool.decide_eq_true, PySem.sizeLine_eq, PV.atI_at, PV.atI_neg, PV.ixN_at, PV.ixN_neg, PV.enumD_map, Int.cast_ofNat_Int, Int.toNat_natCast, List.getElem?_map, Option.some_beq_some, Option.some_beq_none, Option.none_beq_some, Nat.reduceBEq, Int.reduceBEq, Int.reduceBNe, Int.reduceEq, PV.not_bool])
local macro_rules | `(tactic| simp_arith [$hs,*]) => `(tactic| simp -failIfUnchanged (disch := (first | omega | assumption | (simp only [List.length_map, List.length_append, List.length_cons, List.length_nil, List.length_replicate, List.length_take, List.length_drop, PySem.sizeLine_eq] <;> omega))) only [$hs,*, ↓PV.mkF1, ↓PV.mkF2, ↓PV.mkF3, ↓PV.mkF4, ↓PV.mkF5, ↓PV.ap_mSeq, ↓PV.ap_mIfS, PV.kSq_nx, PV.kSq_rt, PV.kSq_bk, PV.kSq_ct, ↓PV.ap_kIS, PV.end_rt, PV.end_nx, PV.end_exc, ↓PV.ap_mVar, ↓PV.ap_mC, ↓PV.ap_out1, ↓PV.ap_out2, ↓PV.ap_outn, ↓PV.ap_mUn, ↓PV.ap_kB1, ↓PV.ap_mBin, ↓PV.ap_mCallB, ↓PV.ap_mTB, ↓PV.ap_kTru, ↓PV.ap_mTru, ↓PV.ap_kAnd, ↓PV.ap_kOr, ↓PV.ap_kNot, ↓PV.ap_mAnd, ↓PV.ap_mOr, ↓PV.ap_mNot, ↓PV.ap_kAndV, ↓PV.ap_kOrV, ↓PV.ap_kNotV, ↓PV.ap_mAndV, ↓PV.ap_mOrV, ↓PV.ap_mNotV, ↓PV.ap_kIf, ↓PV.ap_mIf, ↓PV.ap_kCh3, ↓PV.ap_kCh2, ↓PV.ap_kCh1, ↓PV.ap_mChain, ↓PV.ap_kAC2, ↓PV.ap_kAC, ↓PV.ap_aNil, ↓PV.ap_aCons, ↓PV.ap_kTp, ↓PV.ap_mTup, ↓PV.ap_kLs, ↓PV.ap_mLst, ↓PV.ap_kSo, ↓PV.ap_oNo, ↓PV.ap_oSo, ↓PV.ap_kSl3, ↓PV.ap_kSl2, ↓PV.ap_kSl, ↓PV.ap_mSl, ↓PV.ap_kSm3, ↓PV.ap_kSm2, ↓PV.ap_kSm1, ↓PV.ap_kSm, ↓PV.ap_mSl3, ↓PV.ap_doCall, ↓PV.ap_mCall, ↓PV.ap_okTgt, ↓PV.ap_mSet, ↓PV.ap_kE, ↓PV.ap_mExp, ↓PV.ap_kR, ↓PV.ap_mRet, ↓PV.ap_mRetN, ↓PV.ap_sNx, ↓PV.ap_sBk, ↓PV.ap_sCt, ↓PV.ap_mRaise, ↓PV.ap_mYes, ↓PV.ap_mAug, ↓PV.ap_kAu1, ↓PV.ap_mSetIx, ↓PV.ap_kSi, ↓PV.ap_kSi2b, ↓PV.ap_mAugIx, ↓PV.ap_kAi1, ↓PV.ap_kAi3, ↓PV.ap_mMut, ↓PV.ap_kMu1, ↓PV.ap_mRead, ↓PV.ap_kRe, ↓PV.ap_kRe1, ↓PV.ap_tyIs, ↓PV.ap_gNm, ↓PV.ap_gCn, ↓PV.ap_mAsgT, ↓PV.ap_kAT, ↓PV.ap_par2, ↓PV.ap_kPar2, ↓PV.ap_mPar2, ↓PV.ap_par3, ↓PV.ap_kPar3b, ↓PV.ap_kPar3, ↓PV.ap_mPar3, ↓PV.ap_kPC5, ↓PV.ap_kPC3, ↓PV.ap_kPC, ↓PV.ap_pNil, ↓PV.ap_pCons, ↓PV.ap_mDict, ↓PV.ap_kW, ↓PV.ap_iSeq, ↓PV.ap_kRg, ↓PV.ap_iRange, ↓PV.ap_kEn, ↓PV.ap_iEnumD, ↓PV.ap_kIt, ↓PV.ap_iItemsD, ↓PV.ap_mFor, ↓PV.ap_UnlK, ↓PV.ap_bkE, ↓PV.ap_kLc, ↓PV.ap_mLc, ↓PV.ap_kAg, ↓PV.ap_mAllG, ↓PV.ap_kSg, ↓PV.ap_mSumG, ↓PV.ap_mTry,
  PV.kV_sh, PV.kV_ow, PV.kV_lk, PV.kV_xc, PV.deref_d, PV.deref_nw, PV.deref_own, PV.dSl_sh, PV.dSl_ow, PV.dSl_lk, PV.fin_some, PV.o1_some, PV.o2_some, PV.derefs_nil, PV.derefs_cons, PV.ds1_some, PV.onK_some, PV.kTB_b, PV.kTr2_some, PV.kTr3_some, PV.tru_non, PV.tru_bool, PV.tru_int, PV.tru_list, PV.tru_tuple, PV.fo_sh, PV.fo_ow, PV.frz_d, PV.frz_nw, PV.frz_own, PV.fz2_some, PV.fz1_some, PV.frzs_nil, PV.frzs_cons, PV.kTp2_some, PV.kLs2_some, PV.kSo2_int, PV.kSl4_some, PV.kSm4_some, PV.mkA_nil, PV.mkA_cons, PV.ma1_d, PV.ma1_nw, PV.ma1_own, PV.ma2_sh, PV.ma2_ow, PV.ma2_lk, PV.nd_nil, PV.nd_none, PV.nd_some, PV.wb1_ow, PV.wb_nil, PV.wb_sh, PV.wb_lk, PV.wb_no, PV.wb_ow, PV.dc2_ok, PV.dc2_exc, PV.dc_some, PV.okSo_some, PV.okSl_jk, PV.okSl_un, PV.okSl_sh, PV.okSl_ow, PV.okSl_xc, PV.st2_some, PV.store_nw, PV.store_d, PV.store_own, PV.lv_d, PV.lv_nw, PV.lv_own, PV.lvS_sh, PV.lvS_ow, PV.kR2_some, PV.kAu_sh, PV.kAu2_some, PV.kAu3_some, PV.kSi1_some, PV.kSi2_ow, PV.kSi3_some, PV.kSi4_ow, PV.kSi5_some, PV.kAi_ow, PV.kAi2_some, PV.kAi2b_some, PV.kAi2c_some, PV.kAi3b_some, PV.kAi4_some, PV.kAi5_some, PV.kMu_ow, PV.kMu2_some, PV.kMu3_ow, PV.kMu4_some, PV.tnm_l, PV.tnm_d, PV.kRe2_some, PV.kRe3_some, PV.kRe4_some, PV.tyO_l, PV.tyO_t, PV.tyO_d, PV.tyO_s, PV.gTp_t, PV.gTp_l, PV.gNl_nil, PV.gCn1_some, PV.kAT2_some, PV.kAT3_some, PV.prep_d, PV.prep_nw, PV.prep_own, PV.prF_some, PV.st1_d, PV.st1_nw, PV.kP2_some, PV.kP3_some, PV.kP4_some, PV.kQ1_some, PV.kQ2_some, PV.kQ3_some, PV.kQ4_some, PV.kPC4_some, PV.kPC2_some, PV.kD_ok, PV.kD2_some, PV.dStore_nil, PV.wk_l, PV.wk_t, PV.wk_s, PV.wk_n, PV.wk_own, PV.wkS_ol, PV.wkS_ll, PV.wkS_sl, PV.wkS_st, PV.wkS_ss, PV.kW2_some, PV.kRg2_some, PV.kRg3_some, PV.rng1, PV.rng2, PV.kEn2_t, PV.kEn2_l, PV.kEn2_nw, PV.kEn2_own, PV.kEn3_ow, PV.kEn3_lk, PV.kEn3_sl, PV.kEn3_st, PV.kIt2_d, PV.kF_none, PV.kF_some, PV.kF2_ow, PV.sat_unlK, PV.wipe_nil, PV.wipe_cons, PV.back_nil, PV.back_cons, PV.bk1_some, PV.okV_nil, PV.okV_cons, PV.okSo2_some, PV.okS_un, PV.okS_sh, PV.okS_jk, PV.lock_none, PV.lock_some, PV.lk1_ow, PV.unlE_none, PV.unlE_some, PV.ul1_ow, PV.lcF_ok, PV.agF_ok, PV.sgF_ok, PV.tF_ok, PV.tF_exc, PV.tF2_some, PV.tF2_none,
  PV.gAdd_ii, PV.gAdd_ss, PV.gAdd_tt, PV.gAdd_ll, ↓PV.ap_item, PV.it1_some, ↓PV.ap_it2, PV.ap_it3, PV.it4_some, ↓PV.lc_cons, PV.lc_nil, PV.ap_lcN_s, PV.ap_lcN_n, ↓PV.ag_cons, PV.ag_nil, PV.ap_agN_b, PV.ap_agN_n, ↓PV.sg_cons, PV.sg_nil, PV.ap_sgN_i, PV.ap_sgN_n, PV.gSl3_ev, PV.gSl3_od, PV.evs_map, PV.ods_map, PV.evs_len, PV.ods_len, PV.gSub_ii, PV.gMul_sm, PV.gMul_lst, PV.gMul_tup, PV.gDiv_sm, PV.gMod_sm, PV.gPow_sm, PV.gShl_sm, PV.gShr_sm, PV.gXor_ii, PV.gNeg_i, PV.gLt_ii, PV.gLe_ii, PV.gGt_ii, PV.gGe_ii, PV.gAddI_ii, PV.gSubI_ii, PV.ev_eq, PV.ev_ne, PV.ev_isi, PV.ev_isb, PV.ev_iss, PV.ev_ist, PV.ev_isl, PV.ev_isd, PV.isT_eq, PV.tyN,
  PV.ev_in, PV.ev_notIn, PV.in_l, PV.in_t, PV.ev_is, PV.ev_isN, PV.is_nn, PV.is_in, PV.is_bn, PV.is_sn, PV.is_ln, PV.is_tn, PV.is_dn, PV.is_bb, PV.gix_l, PV.gix_t, PV.gix_s, PV.gSl_t, PV.gSl_l, PV.cut_hi, PV.cut_lo, PV.cut_lh, PV.cut_no, PV.cut_m1, PV.take_map', PV.drop_map', PV.ap_g1, PV.len_t, PV.len_l, PV.len_s, PV.gInt_i, PV.gInt_b, PV.oneIf_t, PV.oneIf_f, PV.abs_i, PV.lst_l, PV.lst_t, PV.tup_l, PV.tup_t, PV.gAppend_ok, PV.gPop, PV.rev_l, PV.getL_l, PV.setL_l, PV.Slot.ownd, PV.env0, PV.Arg.slot, PV.outs, PV.out_un, PV.out_sh, PV.out_xc, PV.out_lk, PV.out_owt, PV.out_owf, PV.out_jk,
  ↓PV.ev_seq, ↓PV.ev_if, PV.thn_rt, PV.thn_bk, PV.thn_ct, PV.lpp_nx, PV.lpp_ct, PV.lpp_bk, PV.lpp_rt, PV.sat_ok, PV.sat_ite, PV.bind_ok, PV.bind_exc, PV.bind_stuck, PV.bind_ite, PV.ok_and, PV.ok_or, PV.okv_and, PV.okv_or, PV.okp_and, PV.okp_or, PV.okvp_and, PV.okvp_or, PV.ifk_bool, ↓PV.ite_bt, ↓PV.ite_bf, PV.sh_int, PV.sh_bl, PV.sh_non, PV.eqv_int, PV.eqv_bl, PV.eqv_str, PV.eqv_non, PV.eqv_ni, PV.eqv_in,
  List.getElem?_cons_zero, List.getElem?_cons_succ, List.set_cons_zero, List.set_cons_succ, List.length_cons, List.length_nil, List.length_map, List.map_cons, List.map_nil, List.cons_append, List.nil_append, List.any_cons, List.any_nil, List.replicate_succ, List.replicate_zero, List.take_succ_cons, List.take_zero, List.isEmpty_cons, List.isEmpty_nil, List.isEmpty_map,
  Option.map_some, Option.map_none, Option.bind_some, Option.bind_none, decide_eq_true_eq, Bool.and_eq_true, Bool.or_eq_true, Bool.not_true, Bool.not_false, Bool.and_true, Bool.true_and, Bool.and_false, Bool.false_and, Bool.or_true, Bool.true_or, Bool.or_false, Bool.false_or, and_true, true_and, and_self, ↓reduceIte, reduceIte, decide_true, decide_false, reduceCtorEq,
  Nat.reduceAdd, Nat.reduceSub, Nat.zero_add, Nat.reduceLeDiff, Int.reduceAdd, Int.reduceSub, Int.reduceMul, Int.reduceNeg, Int.reduceLT, Int.reduceLE, Int.reduceToNat, Int.reducePow, Nat.reduceLT, Bool.false_eq_true, if_false, if_true, String.reduceBEq, String.reduceEq, List.mem_cons, List.not_mem_nil, true_or, or_true, false_or, or_false, not_true, not_false_iff, beq_self_eq_true, Bool.decide_eq_true, PySem.sizeLine_eq, PV.atI_at, PV.atI_neg, PV.ixN_at, PV.ixN_neg, PV.enumD_map, Int.cast_ofNat_Int, Int.toNat_natCast, List.getElem?_map, Option.some_beq_some, Option.some_beq_none, Option.none_beq_some, Nat.reduceBEq, Int.reduceBEq, Int.reduceBNe, Int.reduceEq, PV.not_bool])

set_option Elab.async false
set_option linter.all false
set_option maxRecDepth 100000
set_option maxHeartbeats 4000000
namespace PV
open PySem PySem.Spec PyProof.Rows L2
def m_draws : MS := mSeq (mSet 1 (mLst (aNil))) (mSeq (mFor (iSeq (mVar 0)) (gNm 2) (mSeq (mSet 5 (mCallB (g1 gAbsD) (aCons (mVar 2) (aNil)))) (mSeq (mIfS (mTB (mBin gLt (mVar 5) (mBin gPow (mC (.int 10)) (mC (.int 18))))) (mSeq (mSet 6 (mBin gMod (mCallB (g1 gIntD) (aCons (mBin gAdd (mBin gMul (mVar 5) (mC (.int 48271))) (mC (.int 11))) (aNil))) (mC (.int 2147483647)))) (mSeq (mExp (mMut 1 "list" gAppend (aCons (mBin gMod (mCallB (g1 gIntD) (aCons (mBin gAdd (mBin gMul (mVar 6) (mC (.int 69621))) (mVar 5)) (aNil))) (mC (.int 2147483629))) (aNil)))) (mSeq (mExp (mMut 1 "list" gAppend (aCons (mBin gMod (mCallB (g1 gIntD) (aCons (mBin gAdd (mVar 6) (mBin gDiv (mVar 5) (mC (.int 7)))) (aNil))) (mC (.int 1000003))) (aNil)))) (mSet 5 (mC (.int 0)))))) (sNx)) (mFor (iRange (aCons (mC (.int 60)) (aNil))) (gNm 4) (mIfS (mTB (mBin gGt (mVar 5) (mC (.int 0)))) (mSeq (mExp (mMut 1 "list" gAppend (aCons (mBin gMod (mCallB (g1 gIntD) (aCons (mVar 5) (aNil))) (mC (.int 997))) (aNil)))) (mSet 5 (mBin gDiv (mVar 5) (mC (.int 997))))) (sNx)))))) (mSeq (mSet 3 (mC (.int 1))) (mSeq (mIfS (mTB (mBin gGt (mCallB (g1 gLenD) (aCons (mVar 0) (aNil))) (mC (.int 0)))) (mSet 3 (mBin gAdd (mC (.int 1)) (mCallB (g1 gAbsD) (aCons (mBin gIx (mVar 0) (mC (.int 0))) (aNil))))) (sNx)) (mSeq (mFor (iRange (aCons (mC (.int 900)) (aNil))) (gNm 4) (mSeq (mSet 3 (mBin gMod (mCallB (g1 gIntD) (aCons (mBin gAdd (mBin gMul (mVar 3) (mC (.int 48271))) (mC (.int 69621))) (aNil))) (mC (.int 2147483647)))) (mExp (mMut 1 "list" gAppend (aCons (mBin gDiv (mVar 3) (mC (.int 5))) (aNil)))))) (mRet (mUn gRevD (mVar 1)))))))
def m_take : MS := mSeq (mIfS (mTB (mBin gEq (mCallB (g1 gLenD) (aCons (mVar 0) (aNil))) (mC (.int 0)))) (mRet (mC (.int 0))) (sNx)) (mRet (mBin gMod (mCallB (g1 gIntD) (aCons (mMut 0 "list" gPop aNil) (aNil))) (mVar 1)))
def m_same (f : FM) : MS := mSeq (mIfS (mOr (mTB (mBin gIs (mVar 1) (mC .none))) (mTB (mBin gIs (mVar 0) (mC .none)))) (mRet (mAndV (mBin gIs (mVar 1) (mC .none)) (mBin gIs (mVar 0) (mC .none)))) (sNx)) (mSeq (mIfS (mOr (mTru (mUn (gIsi "tuple") (mVar 1))) (mTru (mUn (gIsi "list") (mVar 1)))) (mSeq (mIfS (mOr (mTB (mBin gNe (mUn (gIsi "tuple") (mVar 1)) (mUn (gIsi "tuple") (mVar 0)))) (mTB (mBin gNe (mUn (gIsi "list") (mVar 1)) (mUn (gIsi "list") (mVar 0))))) (mRet (mC (.bool false))) (sNx)) (mSeq (mIfS (mTB (mBin gNe (mCallB (g1 gLenD) (aCons (mVar 0) (aNil))) (mCallB (g1 gLenD) (aCons (mVar 1) (aNil))))) (mRet (mC (.bool false))) (sNx)) (mSeq (mFor (iRange (aCons (mCallB (g1 gLenD) (aCons (mVar 1) (aNil))) (aNil))) (gNm 2) (mIfS (mNot (mTru (mCall f (aCons (mBin gIx (mVar 0) (mVar 2)) (aCons (mBin gIx (mVar 1) (mVar 2)) (aNil)))))) (mRet (mC (.bool false))) (sNx))) (mRet (mC (.bool true)))))) (sNx)) (mSeq (mIfS (mTB (mBin gNe (mUn (gIsi "bool") (mVar 1)) (mUn (gIsi "bool") (mVar 0)))) (mRet (mC (.bool false))) (sNx)) (mSeq (mIfS (mOr (mTB (mBin gNe (mUn (gIsi "int") (mVar 1)) (mUn (gIsi "int") (mVar 0)))) (mTB (mBin gNe (mUn (gIsi "str") (mVar 1)) (mUn (gIsi "str") (mVar 0))))) (mRet (mC (.bool false))) (sNx)) (mRet (mBin gEq (mVar 0) (mVar 1))))))
def m_alike (f : FM) : MS := mSeq (mIfS (mOr (mTru (mUn (gIsi "list") (mVar 1))) (mTru (mUn (gIsi "tuple") (mVar 1)))) (mSeq (mIfS (mOr (mTB (mBin gNe (mUn (gIsi "list") (mVar 0)) (mUn (gIsi "list") (mVar 1)))) (mTB (mBin gNe (mUn (gIsi "tuple") (mVar 0)) (mUn (gIsi "tuple") (mVar 1))))) (mRet (mC (.bool false))) (sNx)) (mRet (mAndV (mBin gEq (mCallB (g1 gLenD) (aCons (mVar 0) (aNil))) (mCallB (g1 gLenD) (aCons (mVar 1) (aNil)))) (mBin gEq (mLc [2] (iRange (aCons (mCallB (g1 gLenD) (aCons (mVar 1) (aNil))) (aNil))) (gNm 2) (mNot (mTru (mCall f (aCons (mBin gIx (mVar 0) (mVar 2)) (aCons (mBin gIx (mVar 1) (mVar 2)) (aNil)))))) (mVar 2)) (mLst (aNil)))))) (sNx)) (mSeq (mIfS (mTB (mBin gIs (mVar 1) (mC .none))) (mRet (mBin gIs (mVar 0) (mC .none))) (sNx)) (mSeq (mIfS (mOr (mTru (mUn (gIsi "bool") (mVar 1))) (mTru (mUn (gIsi "bool") (mVar 0)))) (mRet (mAndV (mUn (gIsi "bool") (mVar 0)) (mAndV (mUn (gIsi "bool") (mVar 1)) (mBin gEq (mVar 0) (mVar 1))))) (sNx)) (mSeq (mIfS (mTru (mUn (gIsi "int") (mVar 1))) (mRet (mAndV (mUn (gIsi "int") (mVar 0)) (mBin gEq (mVar 0) (mVar 1)))) (sNx)) (mRet (mAndV (mUn (gIsi "str") (mVar 0)) (mBin gEq (mVar 0) (mVar 1)))))))
def m_says : MS := mRet (mAndV (mUn (gIsi "bool") (mVar 0)) (mBin gEq (mVar 0) (mVar 1)))
theorem abs_of (c : Int) : (if c < 0 then -c else c) = (c.natAbs : Int) := by omega
/-- some draws -/
theorem draws_ok (a : Arg) (ns : List Int) (ha : a = .sh (.list (ns.map .int)) ∨ a = .lk (.list (ns.map .int))) (hl : ns.length ≤ 1000) (N : Nat) (hN : N ≤ 100000000) (hN1 : 31 ≤ N) (hb : ∀ n ∈ ns, n.natAbs < 2 ^ N) :
    ∃ ds : List Int, mkFn 7 1 m_draws [a] = .ok (.nw (.list (ds.map .int))) [none] := by
  have key : ∃ v os, mkFn 7 1 m_draws [a] = .ok v os ∧ ∃ ds : List Int, v = .nw (.list (ds.map .int)) ∧ os = [none] := by
    refine fn_sat rfl ?_
    obtain ⟨s, hs, es⟩ : ∃ s, a.slot = s ∧ (s = .sh (.list (ns.map .int)) ∨ s = .lk true (.list (ns.map .int))) := by
      rcases ha with rfl | rfl
      · exact ⟨_, rfl, .inl rfl⟩
      · exact ⟨_, rfl, .inr rfl⟩
    have e0 : env0 7 [a] = [s, .un, .un, .un, .un, .un, .un] := by rw [← hs]; rfl
    have os0 : s.out = none := by rcases es with rfl | rfl <;> rfl
    rw [e0]
    unfold m_draws
    refine sat_seq_eq (e1 := [s, .ow false (.list []), .un, .un, .un, .un, .un]) (by simp_arith) ?_
    have w0 : ∀ (f1 f2 f3 f4 f5 f6 : Slot), iSeq (mVar 0) [s, f1, f2, f3, f4, f5, f6] = .ok (ns.map .int, none) [s, f1, f2, f3, f4, f5, f6] := fun _ _ _ _ _ _ => by rcases es with rfl | rfl <;> simp_arith
    refine sat_seq (sat_for (w0 ..) ?_)
    refine loop_pre (enc := PyData.int) (xs := ns) (fun pre e => ∃ (ds : List Int) (o2 o4 o5 o6 : Option D), e = [s, .ow false (.list (ds.map .int)), jk o2, .un, jk o4, jk o5, jk o6] ∧ ds.length ≤ pre.length * 62) ?_ ?_ ⟨[], none, none, none, none, rfl, Nat.zero_le _⟩
    · rintro pre c post e hx ⟨ds, o2, o4, o5, o6, rfl, hd⟩
      have hp : pre.length < 1000 := by rw [hx, List.length_append, List.length_cons] at hl; omega
      dsimp!
      refine sat_seq_eq (e1 := [s, .ow false (.list (ds.map .int)), .sh (.int c), .un, jk o4, .sh (.int (c.natAbs : Int)), jk o6]) ?_ ?_
      · simp_arith
        rw [abs_of]
      have small : ∃ (n : Int) (ds' : List Int) (o6' : Option D), 0 ≤ n ∧ ds'.length ≤ pre.length * 62 + 2 ∧
          mIfS (mTB (mBin gLt (mVar 5) (mBin gPow (mC (.int 10)) (mC (.int 18))))) (mSeq (mSet 6 (mBin gMod (mCallB (g1 gIntD) (aCons (mBin gAdd (mBin gMul (mVar 5) (mC (.int 48271))) (mC (.int 11))) (aNil))) (mC (.int 2147483647)))) (mSeq (mExp (mMut 1 "list" gAppend (aCons (mBin gMod (mCallB (g1 gIntD) (aCons (mBin gAdd (mBin gMul (mVar 6) (mC (.int 69621))) (mVar 5)) (aNil))) (mC (.int 2147483629))) (aNil)))) (mSeq (mExp (mMut 1 "list" gAppend (aCons (mBin gMod (mCallB (g1 gIntD) (aCons (mBin gAdd (mVar 6) (mBin gDiv (mVar 5) (mC (.int 7)))) (aNil))) (mC (.int 1000003))) (aNil)))) (mSet 5 (mC (.int 0)))))) (sNx)
            [s, .ow false (.list (ds.map .int)), .sh (.int c), .un, jk o4, .sh (.int (c.natAbs : Int)), jk o6] = .ok .nx [s, .ow false (.list (ds'.map .int)), .sh (.int c), .un, jk o4, .sh (.int n), jk o6'] := by
        by_cases h18 : (c.natAbs : Int) < 1000000000000000000
        · have b1 : ((c.natAbs : Int) * 48271 + 11) % 2147483647 < 2147483647 := Int.emod_lt_of_pos _ (by decide)
          have b0 : 0 ≤ ((c.natAbs : Int) * 48271 + 11) % 2147483647 := Int.emod_nonneg _ (by decide)
          refine ⟨0, ds ++ [(((c.natAbs : Int) * 48271 + 11) % 2147483647 * 69621 + (c.natAbs : Int)) % 2147483629, (((c.natAbs : Int) * 48271 + 11) % 2147483647 + (c.natAbs : Int) / 7) % 1000003], some (.int (((c.natAbs : Int) * 48271 + 11) % 2147483647)), Int.le_refl _, by simp; omega, ?_⟩
          simp_arith
          rw [if_pos h18]
          simp only [List.map_append, List.map_cons, List.map_nil, List.append_assoc, List.cons_append, List.nil_append, jk]
        · refine ⟨(c.natAbs : Int), ds, o6, by omega, by omega, ?_⟩
          simp_arith
          rw [if_neg h18]
      obtain ⟨n, ds', o6', hn, hd', e1⟩ := small
      refine sat_seq_eq e1 ?_
      have w1 : ∀ (f1 f2 f3 f4 f5 f6 : Slot), iRange (aCons (mC (.int 60)) aNil) [s, f1, f2, f3, f4, f5, f6] = .ok ((rngI 0 60).map .int, none) [s, f1, f2, f3, f4, f5, f6] := fun _ _ _ _ _ _ => by simp_arith
      refine sat_for (w1 ..) ?_
      refine loop_pre (enc := PyData.int) (fun pre' e => ∃ (ds : List Int) (n : Int) (o4 : Option D), e = [s, .ow false (.list (ds.map .int)), .sh (.int c), .un, jk o4, .sh (.int n), jk o6'] ∧ ds.length ≤ pre.length * 62 + 2 + pre'.length) ?_ ?_ ⟨ds', n, o4, rfl, by simpa using hd'⟩
      · rintro pre' k post' e hx' ⟨ds2, n2, o42, rfl, hd2⟩
        have hl' : pre'.length < 60 := by
          have := congrArg List.length hx'
          simp [rngI] at this
          omega
        dsimp!
        simp!
        split
        · simp_all!
          refine ⟨ds2 ++ [n2 % 997], n2 / 997, some (.int k), by simp [jk], by simp; omega⟩
        · exact ⟨ds2, n2, some (.int k), by simp [jk], by simp; omega⟩
      · rintro e ⟨ds2, n2, o42, rfl, hd2⟩
        refine ⟨ds2, some (.int c), o42, some (.int n2), o6', by simp [jk], ?_⟩
        simp [rngI] at hd2 ⊢
        omega
    · rintro e ⟨ds, o2, o4, o5, o6, rfl, hd⟩
      rw [thn_nx]
      refine sat_seq_eq (e1 := [s, .ow false (.list (ds.map .int)), jk o2, .sh (.int 1), jk o4, jk o5, jk o6]) (by simp_arith) ?_
      have seed : ∃ n : Int, n.natAbs < 2 ^ (N + 1) ∧ mIfS (mTB (mBin gGt (mCallB (g1 gLenD) (aCons (mVar 0) (aNil))) (mC (.int 0)))) (mSet 3 (mBin gAdd (mC (.int 1)) (mCallB (g1 gAbsD) (aCons (mBin gIx (mVar 0) (mC (.int 0))) (aNil))))) (sNx)
          [s, .ow false (.list (ds.map .int)), jk o2, .sh (.int 1), jk o4, jk o5, jk o6] = .ok .nx [s, .ow false (.list (ds.map .int)), jk o2, .sh (.int n), jk o4, jk o5, jk o6] := by
        cases ns with
        | nil => exact ⟨1, by rw [Int.natAbs_one]; exact Nat.one_lt_two_pow (by omega), by rcases es with rfl | rfl <;> simp_arith⟩
        | cons c r =>
          refine ⟨1 + (c.natAbs : Int), ?_, ?_⟩
          · have := hb c (List.mem_cons_self ..)
            rw [Nat.pow_succ]
            generalize (2 : Nat) ^ N = M at *
            omega
          · rcases es with rfl | rfl <;> simp_arith <;> rw [if_pos (by omega), abs_of]
      obtain ⟨n, hn, e1⟩ := seed
      refine sat_seq_eq e1 ?_
      have w1 : ∀ (f1 f2 f3 f4 f5 f6 : Slot), iRange (aCons (mC (.int 900)) aNil) [s, f1, f2, f3, f4, f5, f6] = .ok ((rngI 0 900).map .int, none) [s, f1, f2, f3, f4, f5, f6] := fun _ _ _ _ _ _ => by simp_arith
      refine sat_seq (sat_for (w1 ..) ?_)
      refine loop_pre (enc := PyData.int) (fun pre' e => ∃ (ds : List Int) (n : Int) (o4 : Option D), e = [s, .ow false (.list (ds.map .int)), jk o2, .sh (.int n), jk o4, jk o5, jk o6] ∧ n.natAbs < 2 ^ (N + 1) ∧ ds.length ≤ 62000 + pre'.length) ?_ ?_ ⟨ds, n, o4, rfl, hn, by omega⟩
      · rintro pre' k post' e hx' ⟨ds2, n2, o42, rfl, hn2, hd2⟩
        have hl' : pre'.length < 900 := by
          have := congrArg List.length hx'
          simp [rngI] at this
          omega
        dsimp!
        have em := gMul_bits (i := n2) (j := 48271) (a := N + 1) (b := 64) hn2 (by decide) (by omega)
        have b1 : (n2 * 48271 + 69621) % 2147483647 < 2147483647 := Int.emod_lt_of_pos _ (by decide)
        have b0 : 0 ≤ (n2 * 48271 + 69621) % 2147483647 := Int.emod_nonneg _ (by decide)
        refine sat_seq_eq (e1 := [s, .ow false (.list (ds2.map .int)), jk o2, .sh (.int ((n2 * 48271 + 69621) % 2147483647)), .sh (.int k), jk o5, jk o6]) ?_ ?_
        · simp_arith
          rw [em]
          simp_arith
        generalize (n2 * 48271 + 69621) % 2147483647 = n3 at b0 b1
        simp_all!
        refine ⟨ds2 ++ [n3 / 5], n3, some (.int k), by simp [jk], ?_, by simp; omega⟩
        exact Nat.lt_of_lt_of_le (show n3.natAbs < 2 ^ 31 by omega) (Nat.pow_le_pow_right (by decide) (by omega))
      · rintro e ⟨ds2, n2, o42, rfl, hn2, hd2⟩
        simp_all!
        refine ⟨_, rfl, ds2.reverse, by simp [List.map_reverse], by simp [os0]⟩
  obtain ⟨v, os, h, ds, rfl, rfl⟩ := key
  exact ⟨ds, h⟩
/-- a draw taken: its rest by b, and the draws left -/
def tk (ds : List Int) (b : Int) : Int × List Int := match ds.getLast? with
  | none => (0, ds)
  | some x => (x % b, ds.dropLast)
theorem tk_lt (ds : List Int) {b : Int} (h : 0 < b) : 0 ≤ (tk ds b).1 ∧ (tk ds b).1 < b := by
  unfold tk
  cases ds.getLast? with
  | none => exact ⟨Int.le_refl _, h⟩
  | some x => exact ⟨Int.emod_nonneg _ (by omega), Int.emod_lt_of_pos _ h⟩
theorem take_ok (ds : List Int) {b : Int} (h : 0 < b) : mkFn 2 2 m_take [.ow (.list (ds.map .int)), .sh (.int b)] = .ok (.d (.int (tk ds b).1)) [some (.list ((tk ds b).2.map .int)), none] := by
  refine fn_eq rfl ?_
  unfold m_take
  rcases List.eq_nil_or_concat ds with rfl | ⟨r, x, hr⟩
  · simp!
    simp [tk]
  · rw [List.concat_eq_append] at hr
    subst hr
    have e1 : ((r ++ [x]).map PyData.int).getLast? = some (.int x) := by simp
    have e2 : ((r ++ [x]).map PyData.int).dropLast = r.map .int := by simp
    have e3 : tk (r ++ [x]) b = (x % b, r) := by simp [tk]
    rw [e3]
    have h0 : ¬ ((r ++ [x]).length : Int) = 0 := by simp; omega
    simp!
    rw [if_neg (by simpa using h0)]
    simp_all!
    rw [e1]
    simp_all!
    rw [e2]

def atom : D → Prop
  | .none => True
  | .bool _ => True
  | .int _ => True
  | .str x => PyData.strOk x = true
  | _ => False
/-- data of n levels -/
def Okd : Nat → D → Prop
  | 0, d => atom d
  | n + 1, d => atom d ∨ ∃ ds, (d = .list ds ∨ d = .tuple ds) ∧ ds.length ≤ 1000000 ∧ ∀ x ∈ ds, Okd n x
theorem Okd.up {n m : Nat} {d : D} (h : Okd n d) (hn : n ≤ m) : Okd m d := by
  induction n generalizing m d with
  | zero =>
    cases m with
    | zero => exact h
    | succ m => exact .inl h
  | succ n ih =>
    cases m with
    | zero => omega
    | succ m =>
      rcases h with h | ⟨ds, h1, h2, h3⟩
      · exact .inl h
      · exact .inr ⟨ds, h1, h2, fun x hx => ih (h3 x hx) (by omega)⟩
theorem Okd.i (i : Int) : Okd 0 (.int i) := trivial
theorem Okd.b (i : Bool) : Okd 0 (.bool i) := trivial
theorem Okd.n : Okd 0 .none := trivial
theorem Okd.l {n : Nat} {ds : List D} (hz : ds.length ≤ 1000000) (h : ∀ x ∈ ds, Okd n x) : Okd (n + 1) (.list ds) := .inr ⟨ds, .inl rfl, hz, h⟩
theorem Okd.t {n : Nat} {ds : List D} (hz : ds.length ≤ 1000000) (h : ∀ x ∈ ds, Okd n x) : Okd (n + 1) (.tuple ds) := .inr ⟨ds, .inr rfl, hz, h⟩
def den_same : Nat → FM
  | 0 => fun _ => .stuck
  | j + 1 => mkFn 3 2 (m_same (den_same j))
theorem isIs_l (ds : List D) : isIs (.list ds) .none = some false := (rfl)
theorem isIs_t (ds : List D) : isIs (.tuple ds) .none = some false := (rfl)
theorem eqv_refl_str (x : Str) : PyData.eqv (.str x) (.str x) = true := by rw [eqv_str]; simp
theorem at_map {ds : List D} {i : Int} {d : D} (h : L2.atI ds i = some d) : d ∈ ds := by
  unfold L2.atI at h
  cases z : L2.ixN ds.length i with
  | none => rw [z] at h; cases h
  | some j => rw [z] at h; exact List.mem_of_getElem? h
theorem at_ex {ds : List D} {i : Int} (h : 0 ≤ i) (h2 : i < (ds.length : Int)) : ∃ d, L2.atI ds i = some d := by
  rw [atI_at h h2]
  exact ⟨ds[i.toNat]'(by omega), List.getElem?_eq_getElem _⟩
theorem rngI_mem {lo x : Int} {n : Nat} (h : x ∈ rngI lo n) : lo ≤ x ∧ x < lo + (n : Int) := by
  unfold rngI at h
  obtain ⟨i, h1, rfl⟩ := List.mem_map.mp h
  have := List.mem_range.mp h1
  omega
theorem same_refl : ∀ (n j : Nat) (d : D), Okd n d → n < j → den_same j [.sh d, .sh d] = .ok (.d (.bool true)) [none, none]
  | n, 0, d, _, hj => by omega
  | n, j + 1, d, h, hj => by
    have at0 : atom d → den_same (j + 1) [.sh d, .sh d] = .ok (.d (.bool true)) [none, none] := fun ha => by
      refine fn_eq rfl ?_
      unfold m_same
      cases d with
      | none => simp_all!
      | bool b => simp_all!
      | int i => simp_all!
      | str x =>
        have hs := sh_str ha
        have he := eqv_refl_str x
        simp_all!
        simp only [hs, and_self, if_true]
        simp_all!
      | list _ => exact ha.elim
      | tuple _ => exact ha.elim
      | dict _ => exact ha.elim
    cases n with
    | zero => exact at0 h
    | succ n =>
      rcases h with h | ⟨ds, h1, h2, h3⟩
      · exact at0 h
      · have ih : ∀ x ∈ ds, den_same j [.sh x, .sh x] = .ok (.d (.bool true)) [none, none] := fun x hx => same_refl n j x (h3 x hx) (by omega)
        rcases h1 with rfl | rfl
        · refine fn_eq rfl ?_
          unfold m_same
          simp_all!
          refine loop_rest (fun (rest : List Int) e => (∀ x ∈ rest, 0 ≤ x ∧ x < (ds.length : Int)) ∧ ∃ o, e = [Slot.sh (.list ds), Slot.sh (.list ds), jk o]) ?_ ?_ _ _ ⟨fun x hx => by have := rngI_mem hx; omega, none, rfl⟩
          · rintro x xs e ⟨hx, o, rfl⟩
            dsimp!
            have hx1 := hx x (List.mem_cons_self ..)
            obtain ⟨d, hd⟩ := at_ex hx1.1 hx1.2
            have i1 := ih d (at_map hd)
            rw [atI_at hx1.1 hx1.2] at hd
            simp_all! [hd, i1]
            exact ⟨fun y hy => hx y (List.mem_cons_of_mem _ hy), some _, rfl⟩
          · rintro e ⟨_, o, rfl⟩
            simp_all!
        · refine fn_eq rfl ?_
          unfold m_same
          simp_all!
          refine loop_rest (fun (rest : List Int) e => (∀ x ∈ rest, 0 ≤ x ∧ x < (ds.length : Int)) ∧ ∃ o, e = [Slot.sh (.tuple ds), Slot.sh (.tuple ds), jk o]) ?_ ?_ _ _ ⟨fun x hx => by have := rngI_mem hx; omega, none, rfl⟩
          · rintro x xs e ⟨hx, o, rfl⟩
            dsimp!
            have hx1 := hx x (List.mem_cons_self ..)
            obtain ⟨d, hd⟩ := at_ex hx1.1 hx1.2
            have i1 := ih d (at_map hd)
            rw [atI_at hx1.1 hx1.2] at hd
            simp_all! [hd, i1]
            exact ⟨fun y hy => hx y (List.mem_cons_of_mem _ hy), some _, rfl⟩
          · rintro e ⟨_, o, rfl⟩
            simp_all!
/-- the same, the second one's object somebody's own -/
theorem same_refl_ow (n j : Nat) (ds : List D) (hz : ds.length ≤ 1000000) (h : ∀ x ∈ ds, Okd n x) (hj : n + 1 < j) : den_same j [.sh (.list ds), .ow (.list ds)] = .ok (.d (.bool true)) [none, some (.list ds)] := by
  obtain ⟨j, rfl⟩ : ∃ i, j = i + 1 := ⟨j - 1, by omega⟩
  have ih : ∀ x ∈ ds, den_same j [.sh x, .sh x] = .ok (.d (.bool true)) [none, none] := fun x hx => same_refl n j x (h x hx) (by omega)
  refine fn_eq rfl ?_
  unfold m_same
  simp_all!
  refine loop_rest (fun (rest : List Int) e => (∀ x ∈ rest, 0 ≤ x ∧ x < (ds.length : Int)) ∧ ∃ o, e = [Slot.sh (.list ds), Slot.ow true (.list ds), jk o]) ?_ ?_ _ _ ⟨fun x hx => by have := rngI_mem hx; omega, none, rfl⟩
  · rintro x xs e ⟨hx, o, rfl⟩
    dsimp!
    have hx1 := hx x (List.mem_cons_self ..)
    obtain ⟨d, hd⟩ := at_ex hx1.1 hx1.2
    have i1 := ih d (at_map hd)
    rw [atI_at hx1.1 hx1.2] at hd
    simp_all! [hd, i1]
    exact ⟨fun y hy => hx y (List.mem_cons_of_mem _ hy), some _, rfl⟩
  · rintro e ⟨_, o, rfl⟩
    simp_all!
def den_alike : Nat → FM
  | 0 => fun _ => .stuck
  | j + 1 => mkFn 3 2 (m_alike (den_alike j))
theorem alike_refl : ∀ (n j : Nat) (d : D), Okd n d → n < j → den_alike j [.sh d, .sh d] = .ok (.d (.bool true)) [none, none]
  | n, 0, d, _, hj => by omega
  | n, j + 1, d, h, hj => by
    have at0 : atom d → den_alike (j + 1) [.sh d, .sh d] = .ok (.d (.bool true)) [none, none] := fun ha => by
      refine fn_eq rfl ?_
      unfold m_alike
      cases d with
      | none => simp_all!
      | bool b => simp_all!
      | int i => simp_all!
      | str x =>
        have hs := sh_str ha
        have he := eqv_refl_str x
        have e0 : isIs (.str x) .none = some false := rfl
        simp_all! [hs, he, e0]
      | list _ => exact ha.elim
      | tuple _ => exact ha.elim
      | dict _ => exact ha.elim
    cases n with
    | zero => exact at0 h
    | succ n =>
      rcases h with h | ⟨ds, h1, h2, h3⟩
      · exact at0 h
      · have ih : ∀ x ∈ ds, den_alike j [.sh x, .sh x] = .ok (.d (.bool true)) [none, none] := fun x hx => alike_refl n j x (h3 x hx) (by omega)
        rcases h1 with rfl | rfl
        all_goals
          refine fn_eq rfl ?_
          unfold m_alike
          simp_all!
          rw [lc_map (F := fun _ => none) [] (fun x hx => by
            have hx1 := rngI_mem hx
            have hx2 : 0 ≤ x := by omega
            have hx3 : x < (ds.length : Int) := by omega
            obtain ⟨d, hd⟩ := at_ex hx2 hx3
            have i1 := ih d (at_map hd)
            rw [atI_at hx2 hx3] at hd
            simp_arith [hd, i1]) (by simp [rngI]; omega)]
          have e3 : (rngI 0 ds.length).filterMap (fun _ => (none : Option D)) = [] := by simp
          have e4 : SeqAt.shaped (.list []) = true := by decide
          have e5 : PyData.eqv (.list []) (.list []) = true := by rw [eqv_ll, eqvAll_nil]
          simp_all! [e3, e4, e5]
theorem says_ok (b : Bool) : mkFn 2 2 m_says [.sh (.bool b), .sh (.bool b)] = .ok (.d (.bool true)) [none, none] := by
  refine fn_eq rfl ?_
  unfold m_says
  simp_all!
end PV

set_option Elab.async false
set_option linter.all false
set_option maxRecDepth 100000
set_option maxHeartbeats 4000000
namespace PV
open PySem PySem.Spec PyProof.Rows L2
section
variable {κ ν : Type} [DecidableEq κ]
def aget (l : List (κ × ν)) (k : κ) : Option ν := match l with
  | [] => none
  | p :: r => if p.1 = k then some p.2 else aget r k
def aput (l : List (κ × ν)) (k : κ) (v : ν) : List (κ × ν) := match l with
  | [] => [(k, v)]
  | p :: r => if p.1 = k then (p.1, v) :: r else p :: aput r k v
def encP (ek : κ → D) (vv : ν → D) (l : List (κ × ν)) : List (D × D) := l.map fun p => (ek p.1, vv p.2)
/-- keys that may be told apart -/
structure KeyEnc (ek : κ → D) : Prop where
  inj : ∀ a b, nk (ek a) = nk (ek b) → a = b
  key : ∀ a, ∃ key, nk (ek a) = some key ∧ key.depth ≤ 8
  tup : ∀ a b, isTupD (ek a) = isTupD (ek b)
variable {ek : κ → D} {vv : ν → D} (K : KeyEnc ek)
include K
theorem KeyEnc.same (a b : κ) (v : D) : same (ek a) (ek b, v) = decide (b = a) := by
  unfold PV.same
  by_cases h : b = a
  · subst h; simp
  · rw [decide_eq_false h, decide_eq_false fun z => h (K.inj b a z)]
theorem KeyEnc.ok (l : List (κ × ν)) (k : κ) : keyOk (encP ek vv l) (ek k) = true := by
  unfold keyOk
  obtain ⟨key, h1, h2⟩ := K.key k
  rw [h1]
  simp only [h2, decide_true, Bool.true_and, List.all_eq_true, encP, List.mem_map]
  rintro p ⟨q, _, rfl⟩
  rw [K.tup q.1 k]
  simp
theorem KeyEnc.get : ∀ (l : List (κ × ν)) (k : κ), dGet (encP ek vv l) (ek k) = (aget l k).map vv
  | [], k => rfl
  | p :: r, k => by
    have ih := KeyEnc.get r k
    unfold dGet at ih ⊢
    unfold encP at ih ⊢
    rw [List.map_cons, List.find?_cons, K.same, aget]
    by_cases h : p.1 = k
    · rw [decide_eq_true h, if_pos h]; rfl
    · rw [decide_eq_false h, if_neg h]; exact ih
theorem KeyEnc.set : ∀ (l : List (κ × ν)) (k : κ) (v : ν), dSet (encP ek vv l) (ek k) (vv v) = encP ek vv (aput l k v)
  | [], k, v => rfl
  | p :: r, k, v => by
    have ih := KeyEnc.set r k v
    unfold dSet dFind at ih ⊢
    rw [show encP ek vv (p :: r) = (ek p.1, vv p.2) :: encP ek vv r from rfl, List.findIdx?_cons, K.same, aput]
    by_cases h : p.1 = k
    · rw [decide_eq_true h, if_pos h, if_pos rfl]; rfl
    · rw [decide_eq_false h, if_neg h, if_neg Bool.false_ne_true]
      cases z : List.findIdx? (PV.same (ek k)) (encP ek vv r) with
      | none =>
        rw [z] at ih
        show (ek p.1, vv p.2) :: encP ek vv r ++ [(ek k, vv v)] = (ek p.1, vv p.2) :: encP ek vv (aput r k v)
        rw [← ih]; rfl
      | some i =>
        rw [z] at ih
        show ((ek p.1, vv p.2) :: encP ek vv r).modify (i + 1) (fun q => (q.1, vv v)) = (ek p.1, vv p.2) :: encP ek vv (aput r k v)
        rw [← ih]; rfl
theorem KeyEnc.gget (l : List (κ × ν)) (k : κ) (d : ν) : gGet (.dict (encP ek vv l)) [ek k, vv d] = some (vv ((aget l k).getD d)) := by
  show (if keyOk (encP ek vv l) (ek k) = true then some ((dGet (encP ek vv l) (ek k)).getD (vv d)) else none) = _
  rw [if_pos (K.ok l k), K.get]
  cases aget l k <;> rfl
theorem KeyEnc.gset (l : List (κ × ν)) (k : κ) (v : ν) (h : l.length < 16777216) : gSetD (.dict (encP ek vv l)) (ek k) (vv v) = some (.dict (encP ek vv (aput l k v))) := by
  show (if keyOk (encP ek vv l) (ek k) = true ∧ (encP ek vv l).length < sizeLine then some (PyData.dict (dSet (encP ek vv l) (ek k) (vv v))) else none) = _
  rw [if_pos ⟨K.ok l k, by unfold encP; rw [List.length_map, sizeLine_eq]; exact h⟩, K.set]
theorem KeyEnc.gix (l : List (κ × ν)) (k : κ) (v : ν) (h : aget l k = some v) : gIxD (.dict (encP ek vv l)) (ek k) = some (.d (vv v)) := by
  show (if keyOk (encP ek vv l) (ek k) = true then (dGet (encP ek vv l) (ek k)).map Val.d else none) = _
  rw [if_pos (K.ok l k), K.get, h]; rfl
end
theorem aput_len {κ ν : Type} [DecidableEq κ] : ∀ (l : List (κ × ν)) (k : κ) (v : ν), (aput l k v).length ≤ l.length + 1
  | [], _, _ => Nat.le_refl _
  | p :: r, k, v => by
    unfold aput
    by_cases h : p.1 = k
    · rw [if_pos h]; simp
    · rw [if_neg h, List.length_cons, List.length_cons]
      have := aput_len r k v
      omega
theorem nk_int (i : Int) : nk (.int i) = some (.num i) := by simp [nk]
theorem nk_str (i : Str) : nk (.str i) = some (.text i) := by simp [nk]
theorem nk_pair (i j : Int) : nk (.tuple [.int i, .int j]) = some (.tup [.num i, .num j]) := by simp [nk, nks]
theorem intKey : KeyEnc PyData.int where
  inj := fun a b h => by rw [nk_int, nk_int] at h; cases h; rfl
  key := fun a => ⟨_, nk_int a, by simp [NestedKey.depth]⟩
  tup := fun _ _ => rfl
theorem strKey : KeyEnc PyData.str where
  inj := fun a b h => by rw [nk_str, nk_str] at h; cases h; rfl
  key := fun a => ⟨_, nk_str a, by simp [NestedKey.depth]⟩
  tup := fun _ _ => rfl
def encIP (p : Int × Int) : D := .tuple [.int p.1, .int p.2]
theorem pairKey : KeyEnc encIP where
  inj := fun a b h => by
    unfold encIP at h
    rw [nk_pair, nk_pair] at h
    obtain ⟨a1, a2⟩ := a
    obtain ⟨b1, b2⟩ := b
    cases h; rfl
  key := fun a => ⟨_, nk_pair _ _, by simp [NestedKey.depth, NestedKey.depthAll]⟩
  tup := fun _ _ => rfl
end PV

set_option Elab.async false
set_option linter.all false
set_option maxRecDepth 100000
set_option maxHeartbeats 0
namespace K91
open PySem PySem.Spec PyProof.Rows L2 PV
def res__law_told : Nat → Option D := fun _ => some (.str "range")
def fuel_law_0 : En → Nat := fun _ => 50
def fuel_law_1 : En → Nat := fun _ => 50
def m_is_number : MS := mRet (mAndV (mUn (gIsi "int") (mVar 0)) (mAndV (mNotV (mUn (gIsi "bool") (mVar 0))) (mChain gLe gLe (mVar 1) (mVar 0) (mVar 2))))
def den_is_number : FM := mkFn 3 3 m_is_number
def m_see_rounds : MS := mIfS (mNot (mTru (mCall den_is_number (aCons (mVar 0) (aCons (mC (.int 1)) (aCons (mC (.int 5)) (aNil))))))) (mRaise 1) (sNx)
def den_see_rounds : FM := mkFn 1 1 m_see_rounds
def m_is_over : MS := mSeq (mAsgT (gTp 2 (gCn (gNm 4) (gCn (gNm 5) (gNl)))) (mVar 2)) (mSeq (mIfS (mTB (mBin gGt (mVar 1) (mBin gMul (mC (.int 2)) (mVar 0)))) (mRet (mAndV (mBin gEq (mBin gMod (mVar 1) (mC (.int 2))) (mC (.int 0))) (mBin gNe (mVar 4) (mVar 5)))) (sNx)) (mSeq (mSet 3 (mBin gSub (mBin gMul (mC (.int 2)) (mVar 0)) (mVar 1))) (mRet (mOrV (mBin gGt (mVar 4) (mBin gAdd (mVar 5) (mBin gDiv (mBin gAdd (mVar 3) (mC (.int 1))) (mC (.int 2))))) (mBin gGt (mVar 5) (mBin gAdd (mVar 4) (mBin gDiv (mVar 3) (mC (.int 2)))))))))
def den_is_over : FM := mkFn 6 3 m_is_over
def m_decided_after : MS := mSeq (mExp (mCall den_see_rounds (aCons (mVar 0) (aNil)))) (mSeq (mSet 2 (mLst (aCons (mC (.int 0)) (aCons (mC (.int 0)) (aNil))))) (mSeq (mFor (iEnumD (mVar 1)) (gTp 2 (gCn (gNm 3) (gCn (gNm 4) (gNl)))) (mSeq (mAugIx 2 getL gAddI gSetL (mBin gMod (mVar 3) (mC (.int 2))) (mCallB (g1 gIntD) (aCons (mVar 4) (aNil)))) (mIfS (mTru (mCall den_is_over (aCons (mVar 0) (aCons (mBin gAdd (mVar 3) (mC (.int 1))) (aCons (mVar 2) (aNil)))))) (mRet (mBin gAdd (mVar 3) (mC (.int 1)))) (sNx)))) (mRet (mC .none))))
def den_decided_after : FM := mkFn 5 2 m_decided_after
def m_is_shootout : MS := mSeq (mExp (mCall den_see_rounds (aCons (mVar 0) (aNil)))) (mSeq (mIfS (mOr (mNot (mTru (mUn (gIsi "tuple") (mVar 1)))) (mNot (mTB (mChain gLe gLe (mC (.int 1)) (mCallB (g1 gLenD) (aCons (mVar 1) (aNil))) (mC (.int 40)))))) (mRet (mC (.bool false))) (sNx)) (mRet (mAndV (mAllG true [2] (iSeq (mVar 1)) (gNm 2) (mYes) (mUn (gIsi "bool") (mVar 2))) (mBin gEq (mCall den_decided_after (aCons (mVar 0) (aCons (mVar 1) (aNil)))) (mCallB (g1 gLenD) (aCons (mVar 1) (aNil)))))))
def den_is_shootout : FM := mkFn 3 2 m_is_shootout
def m_winner_of : MS := mSeq (mExp (mCall den_see_rounds (aCons (mVar 0) (aNil)))) (mRet (mCallB (g1 gIntD) (aCons (mBin gGt (mSumG [2] (iSeq (mSl3 (mVar 1) (oSo (mC (.int 1))) (oNo) (oSo (mC (.int 2))))) (gNm 2) (mYes) (mCallB (g1 gIntD) (aCons (mVar 2) (aNil)))) (mSumG [2] (iSeq (mSl3 (mVar 1) (oNo) (oNo) (oSo (mC (.int 2))))) (gNm 2) (mYes) (mCallB (g1 gIntD) (aCons (mVar 2) (aNil))))) (aNil))))
def den_winner_of : FM := mkFn 3 2 m_winner_of
def m_count_shootouts : MS := mSeq (mExp (mCall den_see_rounds (aCons (mVar 0) (aNil)))) (mSeq (mIfS (mNot (mTru (mCall den_is_number (aCons (mVar 1) (aCons (mC (.int 1)) (aCons (mC (.int 40)) (aNil))))))) (mRaise 1) (sNx)) (mSeq (mSet 2 (mDict (pCons (mTup (aCons (mC (.int 0)) (aCons (mC (.int 0)) (aNil)))) (mC (.int 1)) (pNil)))) (mSeq (mSet 3 (mC (.int 0))) (mSeq (mFor (iRange (aCons (mC (.int 1)) (aCons (mBin gAdd (mVar 1) (mC (.int 1))) (aNil)))) (gNm 4) (mSeq (mSet 5 (mDict pNil)) (mSeq (mSet 3 (mC (.int 0))) (mSeq (mFor (iItemsD (mVar 2)) (gTp 2 (gCn (gTp 2 (gCn (gNm 8) (gCn (gNm 9) (gNl)))) (gCn (gNm 6) (gNl)))) (mFor (iRange (aCons (mC (.int 2)) (aNil))) (gNm 7) (mSeq (mSet 10 (mIf (mTB (mBin gEq (mBin gMod (mVar 4) (mC (.int 2))) (mC (.int 1)))) (mTup (aCons (mBin gAdd (mVar 8) (mVar 7)) (aCons (mVar 9) (aNil)))) (mTup (aCons (mVar 8) (aCons (mBin gAdd (mVar 9) (mVar 7)) (aNil)))))) (mIfS (mTru (mCall den_is_over (aCons (mVar 0) (aCons (mVar 4) (aCons (mVar 10) (aNil)))))) (mAug 3 gAddI (mVar 6)) (mSetIx 5 gSetD (mVar 10) (mBin gAdd (mRead "dict" gGet (mVar 5) (aCons (mVar 10) (aCons (mC (.int 0)) (aNil)))) (mVar 6))))))) (mSet 2 (mVar 5)))))) (mRet (mVar 3))))))
def den_count_shootouts : FM := mkFn 11 2 m_count_shootouts
def m__law_draws : MS := mSeq (mSet 1 (mLst (aNil))) (mSeq (mFor (iSeq (mVar 0)) (gNm 2) (mSeq (mSet 5 (mCallB (g1 gAbsD) (aCons (mVar 2) (aNil)))) (mSeq (mIfS (mTB (mBin gLt (mVar 5) (mBin gPow (mC (.int 10)) (mC (.int 18))))) (mSeq (mSet 6 (mBin gMod (mCallB (g1 gIntD) (aCons (mBin gAdd (mBin gMul (mVar 5) (mC (.int 48271))) (mC (.int 11))) (aNil))) (mC (.int 2147483647)))) (mSeq (mExp (mMut 1 "list" gAppend (aCons (mBin gMod (mCallB (g1 gIntD) (aCons (mBin gAdd (mBin gMul (mVar 6) (mC (.int 69621))) (mVar 5)) (aNil))) (mC (.int 2147483629))) (aNil)))) (mSeq (mExp (mMut 1 "list" gAppend (aCons (mBin gMod (mCallB (g1 gIntD) (aCons (mBin gAdd (mVar 6) (mBin gDiv (mVar 5) (mC (.int 7)))) (aNil))) (mC (.int 1000003))) (aNil)))) (mSet 5 (mC (.int 0)))))) (sNx)) (mFor (iRange (aCons (mC (.int 60)) (aNil))) (gNm 4) (mIfS (mTB (mBin gGt (mVar 5) (mC (.int 0)))) (mSeq (mExp (mMut 1 "list" gAppend (aCons (mBin gMod (mCallB (g1 gIntD) (aCons (mVar 5) (aNil))) (mC (.int 997))) (aNil)))) (mSet 5 (mBin gDiv (mVar 5) (mC (.int 997))))) (sNx)))))) (mSeq (mSet 3 (mC (.int 1))) (mSeq (mIfS (mTB (mBin gGt (mCallB (g1 gLenD) (aCons (mVar 0) (aNil))) (mC (.int 0)))) (mSet 3 (mBin gAdd (mC (.int 1)) (mCallB (g1 gAbsD) (aCons (mBin gIx (mVar 0) (mC (.int 0))) (aNil))))) (sNx)) (mSeq (mFor (iRange (aCons (mC (.int 900)) (aNil))) (gNm 4) (mSeq (mSet 3 (mBin gMod (mCallB (g1 gIntD) (aCons (mBin gAdd (mBin gMul (mVar 3) (mC (.int 48271))) (mC (.int 69621))) (aNil))) (mC (.int 2147483647)))) (mExp (mMut 1 "list" gAppend (aCons (mBin gDiv (mVar 3) (mC (.int 5))) (aNil)))))) (mRet (mUn gRevD (mVar 1)))))))
def den__law_draws : FM := mkFn 7 1 m__law_draws
def m__law_take : MS := mSeq (mIfS (mTB (mBin gEq (mCallB (g1 gLenD) (aCons (mVar 0) (aNil))) (mC (.int 0)))) (mRet (mC (.int 0))) (sNx)) (mRet (mBin gMod (mCallB (g1 gIntD) (aCons (mMut 0 "list" gPop aNil) (aNil))) (mVar 1)))
def den__law_take : FM := mkFn 2 2 m__law_take
def m__law_same (den__law_same : FM) : MS := mSeq (mIfS (mOr (mTB (mBin gIs (mVar 1) (mC .none))) (mTB (mBin gIs (mVar 0) (mC .none)))) (mRet (mAndV (mBin gIs (mVar 1) (mC .none)) (mBin gIs (mVar 0) (mC .none)))) (sNx)) (mSeq (mIfS (mOr (mTru (mUn (gIsi "tuple") (mVar 1))) (mTru (mUn (gIsi "list") (mVar 1)))) (mSeq (mIfS (mOr (mTB (mBin gNe (mUn (gIsi "tuple") (mVar 1)) (mUn (gIsi "tuple") (mVar 0)))) (mTB (mBin gNe (mUn (gIsi "list") (mVar 1)) (mUn (gIsi "list") (mVar 0))))) (mRet (mC (.bool false))) (sNx)) (mSeq (mIfS (mTB (mBin gNe (mCallB (g1 gLenD) (aCons (mVar 0) (aNil))) (mCallB (g1 gLenD) (aCons (mVar 1) (aNil))))) (mRet (mC (.bool false))) (sNx)) (mSeq (mFor (iRange (aCons (mCallB (g1 gLenD) (aCons (mVar 1) (aNil))) (aNil))) (gNm 2) (mIfS (mNot (mTru (mCall den__law_same (aCons (mBin gIx (mVar 0) (mVar 2)) (aCons (mBin gIx (mVar 1) (mVar 2)) (aNil)))))) (mRet (mC (.bool false))) (sNx))) (mRet (mC (.bool true)))))) (sNx)) (mSeq (mIfS (mTB (mBin gNe (mUn (gIsi "bool") (mVar 1)) (mUn (gIsi "bool") (mVar 0)))) (mRet (mC (.bool false))) (sNx)) (mSeq (mIfS (mOr (mTB (mBin gNe (mUn (gIsi "int") (mVar 1)) (mUn (gIsi "int") (mVar 0)))) (mTB (mBin gNe (mUn (gIsi "str") (mVar 1)) (mUn (gIsi "str") (mVar 0))))) (mRet (mC (.bool false))) (sNx)) (mRet (mBin gEq (mVar 0) (mVar 1))))))
def fuel__law_same : Nat := 10
def den__law_same : Nat → FM
  | 0 => fun _ => .stuck
  | j + 1 => mkFn 3 2 (m__law_same (den__law_same j))
def m__law_told : MS := mTry 3 res__law_told (mSeq (mIfS (mTB (mBin gEq (mVar 0) (mC (.int 0)))) (mRet (mCall den_decided_after (aCons (mVar 1) (aCons (mVar 2) (aNil))))) (sNx)) (mSeq (mIfS (mTB (mBin gEq (mVar 0) (mC (.int 1)))) (mRet (mCall den_is_shootout (aCons (mVar 1) (aCons (mVar 2) (aNil))))) (sNx)) (mSeq (mIfS (mTB (mBin gEq (mVar 0) (mC (.int 2)))) (mRet (mCall den_winner_of (aCons (mVar 1) (aCons (mVar 2) (aNil))))) (sNx)) (mRet (mCall den_count_shootouts (aCons (mVar 1) (aCons (mVar 2) (aNil))))))))
def den__law_told : FM := mkFn 4 3 m__law_told
def m__law_over : MS := mSeq (mPar2 2 3 (mRead "tuple" gCntT (mSl3 (mVar 1) (oNo) (oNo) (oSo (mC (.int 2)))) (aCons (mC (.bool true)) (aNil))) (mRead "tuple" gCntT (mSl3 (mVar 1) (oSo (mC (.int 1))) (oNo) (oSo (mC (.int 2)))) (aCons (mC (.bool true)) (aNil)))) (mSeq (mIfS (mTB (mBin gGt (mCallB (g1 gLenD) (aCons (mVar 1) (aNil))) (mBin gMul (mC (.int 2)) (mVar 0)))) (mRet (mAndV (mBin gEq (mCallB (g1 gLenD) (aCons (mSl3 (mVar 1) (oNo) (oNo) (oSo (mC (.int 2)))) (aNil))) (mCallB (g1 gLenD) (aCons (mSl3 (mVar 1) (oSo (mC (.int 1))) (oNo) (oSo (mC (.int 2)))) (aNil)))) (mBin gNe (mVar 2) (mVar 3)))) (sNx)) (mRet (mOrV (mBin gLt (mBin gSub (mBin gAdd (mVar 3) (mVar 0)) (mCallB (g1 gLenD) (aCons (mSl3 (mVar 1) (oSo (mC (.int 1))) (oNo) (oSo (mC (.int 2)))) (aNil)))) (mVar 2)) (mBin gLt (mBin gSub (mBin gAdd (mVar 2) (mVar 0)) (mCallB (g1 gLenD) (aCons (mSl3 (mVar 1) (oNo) (oNo) (oSo (mC (.int 2)))) (aNil)))) (mVar 3)))))
def den__law_over : FM := mkFn 4 2 m__law_over
def m__law_after : MS := mRet (mBin gIx (mBin gAdd (mLc [2] (iRange (aCons (mC (.int 1)) (aCons (mBin gAdd (mCallB (g1 gLenD) (aCons (mVar 1) (aNil))) (mC (.int 1))) (aNil)))) (gNm 2) (mTru (mCall den__law_over (aCons (mVar 0) (aCons (mSl (mVar 1) (oNo) (oSo (mVar 2))) (aNil))))) (mVar 2)) (mLst (aCons (mC .none) (aNil)))) (mC (.int 0)))
def den__law_after : FM := mkFn 3 2 m__law_after
def m__law_choices : MS := mSeq (mSet 2 (mC (.int 1))) (mSeq (mFor (iRange (aCons (mVar 1) (aNil))) (gNm 3) (mSet 2 (mBin gDiv (mBin gMul (mVar 2) (mBin gSub (mVar 0) (mVar 3))) (mBin gAdd (mVar 3) (mC (.int 1)))))) (mRet (mVar 2)))
def den__law_choices : FM := mkFn 4 2 m__law_choices
def m_law : MS := mSeq (mSet 1 (mCall den__law_draws (aCons (mVar 0) (aNil)))) (mSeq (mAsgT (gTp 2 (gCn (gNm 10) (gCn (gNm 11) (gNl)))) (mTup (aCons (mBin gAdd (mC (.int 1)) (mCall den__law_take (aCons (mVar 1) (aCons (mC (.int 5)) (aNil))))) (aCons (mBin gAdd (mC (.int 1)) (mCall den__law_take (aCons (mVar 1) (aCons (mC (.int 4)) (aNil))))) (aNil))))) (mSeq (mPar2 12 13 (mLst (aNil)) (mLst (aCons (mTup (aNil)) (aNil)))) (mSeq (mFor (iRange (aCons (mBin gIx (mLst (aCons (mC (.int 7)) (aCons (mC (.int 9)) (aNil)))) (mCallB (g1 gIntD) (aCons (mBin gEq (mCall den__law_take (aCons (mVar 1) (aCons (mC (.int 5)) (aNil)))) (mC (.int 0))) (aNil)))) (aNil))) (gNm 2) (mSeq (mSet 14 (mLst (aNil))) (mSeq (mFor (iSeq (mVar 13)) (gNm 15) (mSet 14 (mBin gAdd (mVar 14) (mLc [17] (iSeq (mTup (aCons (mC (.bool true)) (aCons (mC (.bool false)) (aNil))))) (gNm 17) (mYes) (mBin gAdd (mVar 15) (mTup (aCons (mVar 17) (aNil)))))))) (mSeq (mSet 16 (mLc [15] (iSeq (mVar 14)) (gNm 15) (mTru (mCall den__law_over (aCons (mVar 10) (aCons (mVar 15) (aNil))))) (mVar 15))) (mSeq (mSet 13 (mLc [15] (iSeq (mVar 14)) (gNm 15) (mNot (mTru (mCall den__law_over (aCons (mVar 10) (aCons (mVar 15) (aNil)))))) (mVar 15))) (mSeq (mIfS (mNot (mTru (mCall (den__law_same fuel__law_same) (aCons (mCall den__law_told (aCons (mC (.int 3)) (aCons (mVar 10) (aCons (mBin gAdd (mVar 2) (mC (.int 1))) (aNil))))) (aCons (mCallB (g1 gLenD) (aCons (mVar 16) (aNil))) (aNil)))))) (mRet (mC (.bool false))) (sNx)) (mSet 12 (mBin gAdd (mVar 12) (mVar 16))))))))) (mSeq (mSet 3 (mIf (mTB (mBin gNe (mVar 12) (mLst (aNil)))) (mLst (aCons (mBin gIx (mVar 12) (mCall den__law_take (aCons (mVar 1) (aCons (mCallB (g1 gLenD) (aCons (mVar 12) (aNil))) (aNil))))) (aNil))) (mLst (aNil)))) (mSeq (mFor (iRange (aCons (mC (.int 4)) (aNil))) (gNm 4) (mSeq (mSet 6 (mTup (aNil))) (mSeq (mWhile fuel_law_0 (mAnd (mTB (mBin gLt (mCallB (g1 gLenD) (aCons (mVar 6) (aNil))) (mC (.int 40)))) (mNot (mTru (mCall den__law_over (aCons (mVar 10) (aCons (mVar 6) (aNil))))))) (mSet 6 (mBin gAdd (mVar 6) (mTup (aCons (mBin gGt (mCall den__law_take (aCons (mVar 1) (aCons (mBin gAdd (mVar 11) (mC (.int 1))) (aNil)))) (mC (.int 0))) (aNil)))))) (mExp (mMut 3 "list" gAppend (aCons (mVar 6) (aNil))))))) (mSeq (mSet 5 (mTup (aNil))) (mSeq (mWhile fuel_law_1 (mTB (mBin gLt (mCallB (g1 gLenD) (aCons (mVar 5) (aNil))) (mC (.int 38)))) (mSeq (mSet 17 (mBin gEq (mCall den__law_take (aCons (mVar 1) (aCons (mC (.int 2)) (aNil)))) (mC (.int 0)))) (mSet 5 (mBin gAdd (mVar 5) (mTup (aCons (mVar 17) (aCons (mVar 17) (aNil)))))))) (mSeq (mSet 3 (mBin gAdd (mVar 3) (mLst (aCons (mBin gAdd (mVar 5) (mTup (aCons (mC (.bool true)) (aCons (mC (.bool false)) (aNil))))) (aCons (mBin gAdd (mVar 5) (mTup (aCons (mC (.bool false)) (aCons (mC (.bool true)) (aNil))))) (aCons (mBin gMul (mTup (aCons (mC (.bool true)) (aCons (mC (.bool false)) (aNil)))) (mVar 10)) (aCons (mBin gMul (mTup (aCons (mC (.bool false)) (aNil))) (mC (.int 40))) (aNil)))))))) (mSeq (mFor (iSeq (mVar 3)) (gNm 6) (mSeq (mSet 18 (mCall den__law_after (aCons (mVar 10) (aCons (mVar 6) (aNil))))) (mSeq (mSet 19 (mBin gEq (mVar 18) (mCallB (g1 gLenD) (aCons (mVar 6) (aNil))))) (mSeq (mSet 20 (mCallB (g1 gTupleD) (aCons (mLc [17] (iSeq (mVar 6)) (gNm 17) (mYes) (mNotV (mVar 17))) (aNil)))) (mSeq (mIfS (mNot (mTru (mCall (den__law_same fuel__law_same) (aCons (mLst (aCons (mCall den__law_told (aCons (mC (.int 0)) (aCons (mVar 10) (aCons (mVar 6) (aNil))))) (aCons (mCall den__law_told (aCons (mC (.int 1)) (aCons (mVar 10) (aCons (mVar 6) (aNil))))) (aCons (mCall den__law_told (aCons (mC (.int 1)) (aCons (mVar 10) (aCons (mVar 20) (aNil))))) (aNil))))) (aCons (mLst (aCons (mVar 18) (aCons (mVar 19) (aCons (mVar 19) (aNil))))) (aNil)))))) (mRet (mC (.bool false))) (sNx)) (mSeq (mIfS (mTru (mVar 19)) (mSeq (mSet 23 (mCallB (g1 gIntD) (aCons (mBin gGt (mRead "tuple" gCntT (mSl3 (mVar 6) (oSo (mC (.int 1))) (oNo) (oSo (mC (.int 2)))) (aCons (mC (.bool true)) (aNil))) (mRead "tuple" gCntT (mSl3 (mVar 6) (oNo) (oNo) (oSo (mC (.int 2)))) (aCons (mC (.bool true)) (aNil)))) (aNil)))) (mIfS (mNot (mTru (mCall (den__law_same fuel__law_same) (aCons (mLst (aCons (mCall den__law_told (aCons (mC (.int 2)) (aCons (mVar 10) (aCons (mVar 6) (aNil))))) (aCons (mCall den__law_told (aCons (mC (.int 2)) (aCons (mVar 10) (aCons (mVar 20) (aNil))))) (aNil)))) (aCons (mLst (aCons (mVar 23) (aCons (mBin gSub (mC (.int 1)) (mVar 23)) (aNil)))) (aNil)))))) (mRet (mC (.bool false))) (sNx))) (sNx)) (mSeq (mSet 21 (mSl (mVar 6) (oNo) (oSo (mCall den__law_take (aCons (mVar 1) (aCons (mCallB (g1 gLenD) (aCons (mVar 6) (aNil))) (aNil))))))) (mSeq (mSet 22 (mBin gAdd (mSl (mVar 6) (oNo) (oSo (mC (.int 39)))) (mTup (aCons (mBin gEq (mCall den__law_take (aCons (mVar 1) (aCons (mC (.int 2)) (aNil)))) (mC (.int 0))) (aNil))))) (mSeq (mSet 18 (mLst (aCons (mAndV (mBin gNe (mVar 21) (mTup (aNil))) (mBin gEq (mCall den__law_after (aCons (mVar 10) (aCons (mVar 21) (aNil)))) (mCallB (g1 gLenD) (aCons (mVar 21) (aNil))))) (aCons (mBin gEq (mCall den__law_after (aCons (mVar 10) (aCons (mVar 22) (aNil)))) (mCallB (g1 gLenD) (aCons (mVar 22) (aNil)))) (aCons (mCall den__law_after (aCons (mVar 10) (aCons (mVar 22) (aNil)))) (aNil)))))) (mIfS (mNot (mTru (mCall (den__law_same fuel__law_same) (aCons (mLst (aCons (mCall den__law_told (aCons (mC (.int 1)) (aCons (mVar 10) (aCons (mVar 21) (aNil))))) (aCons (mCall den__law_told (aCons (mC (.int 1)) (aCons (mVar 10) (aCons (mVar 22) (aNil))))) (aCons (mCall den__law_told (aCons (mC (.int 0)) (aCons (mVar 10) (aCons (mVar 22) (aNil))))) (aNil))))) (aCons (mVar 18) (aNil)))))) (mRet (mC (.bool false))) (sNx))))))))))) (mSeq (mFor (iSeq (mLst (aCons (mC (.int 1)) (aCons (mBin gAdd (mC (.int 1)) (mCall den__law_take (aCons (mVar 1) (aCons (mBin gSub (mC (.int 20)) (mVar 10)) (aNil))))) (aCons (mBin gSub (mC (.int 20)) (mVar 10)) (aNil)))))) (gNm 7) (mIfS (mOr (mNot (mTru (mCall (den__law_same fuel__law_same) (aCons (mCall den__law_told (aCons (mC (.int 3)) (aCons (mVar 10) (aCons (mBin gMul (mC (.int 2)) (mBin gAdd (mVar 10) (mVar 7))) (aNil))))) (aCons (mBin gMul (mBin gMul (mC (.int 2)) (mCall den__law_choices (aCons (mBin gMul (mC (.int 2)) (mVar 10)) (aCons (mVar 10) (aNil))))) (mBin gShl (mC (.int 1)) (mBin gSub (mVar 7) (mC (.int 1))))) (aNil)))))) (mAnd (mTB (mBin gLt (mVar 7) (mBin gSub (mC (.int 20)) (mVar 10)))) (mTB (mBin gNe (mCall den__law_told (aCons (mC (.int 3)) (aCons (mVar 10) (aCons (mBin gAdd (mBin gMul (mC (.int 2)) (mBin gAdd (mVar 10) (mVar 7))) (mC (.int 1))) (aNil))))) (mC (.int 0)))))) (mRet (mC (.bool false))) (sNx))) (mSeq (mSet 8 (mBin gAdd (mLc [24] (iRange (aCons (mC (.int 3)) (aNil))) (gNm 24) (mYes) (mCall den__law_told (aCons (mVar 24) (aCons (mC (.int 0)) (aCons (mTup (aCons (mC (.bool true)) (aNil))) (aNil)))))) (mLc [24] (iRange (aCons (mC (.int 3)) (aNil))) (gNm 24) (mYes) (mCall den__law_told (aCons (mVar 24) (aCons (mC (.int 6)) (aCons (mTup (aCons (mC (.bool true)) (aNil))) (aNil)))))))) (mSeq (mIfS (mTB (mBin gNe (mBin gAdd (mVar 8) (mLst (aCons (mCall den__law_told (aCons (mC (.int 3)) (aCons (mC (.int 0)) (aCons (mC (.int 5)) (aNil))))) (aCons (mCall den__law_told (aCons (mC (.int 3)) (aCons (mC (.int 6)) (aCons (mC (.int 5)) (aNil))))) (aCons (mCall den__law_told (aCons (mC (.int 3)) (aCons (mC (.int 5)) (aCons (mC (.int 0)) (aNil))))) (aCons (mCall den__law_told (aCons (mC (.int 3)) (aCons (mC (.int 5)) (aCons (mC (.int 41)) (aNil))))) (aNil))))))) (mBin gMul (mLst (aCons (mC (.str "range")) (aNil))) (mC (.int 10))))) (mRet (mC (.bool false))) (sNx)) (mSeq (mSet 9 (mLst (aCons (mTup (aNil)) (aCons (mLst (aCons (mC (.bool true)) (aCons (mC (.bool false)) (aNil)))) (aCons (mTup (aCons (mC (.int 1)) (aCons (mC (.int 0)) (aNil)))) (aCons (mTup (aCons (mC .none) (aNil))) (aCons (mTup (aCons (mC (.str "x")) (aNil))) (aCons (mBin gMul (mTup (aCons (mC (.bool true)) (aCons (mC (.bool false)) (aNil)))) (mC (.int 21))) (aCons (mC .none) (aCons (mC (.str "kicks")) (aNil))))))))))) (mRet (mBin gEq (mLc [25] (iSeq (mVar 9)) (gNm 25) (mTB (mBin gIsNot (mCall den_is_shootout (aCons (mC (.int 1)) (aCons (mVar 25) (aNil)))) (mC (.bool false)))) (mVar 25)) (mLst (aNil)))))))))))))))))
def den_law : FM := mkFn 26 1 m_law
end K91

set_option Elab.async false
set_option linter.all false
set_option maxRecDepth 100000
set_option maxHeartbeats 4000000
namespace K91
open PySem PySem.Spec PyProof.Rows L2 PV
theorem is_number_int (x a b : Int) : den_is_number [.sh (.int x), .sh (.int a), .sh (.int b)] = .ok (.d (.bool (decide (a ≤ x) && decide (x ≤ b)))) [none, none, none] := by
  refine fn_eq rfl ?_
  unfold m_is_number
  simp!
theorem see_rounds_eq (r : Int) : den_see_rounds [.sh (.int r)] = if 1 ≤ r ∧ r ≤ 5 then .ok (.d .none) [none] else .exc 1 [none] := by
  unfold den_see_rounds mkFn m_see_rounds
  simp_arith
  simp only [is_number_int]
  simp_arith
  by_cases h : 1 ≤ r <;> by_cases h2 : r ≤ 5 <;> simp [h, h2] <;> simp_arith
def over (r k a b : Int) : Bool := if 2 * r < k then k % 2 == 0 && !(a == b) else decide (b + (2 * r - k + 1) / 2 < a) || decide (a + (2 * r - k) / 2 < b)
theorem is_over_t (r k a b : Int) (h : 1 ≤ r) (h2 : r ≤ 5): den_is_over [.sh (.int r), .sh (.int k), .sh (.tuple [.int a, .int b])] = .ok (.d (.bool (over r k a b))) [none, none, none] := by
  refine fn_eq rfl ?_
  unfold m_is_over over
  simp_all!
  split <;> simp_all
theorem is_over_l (r k a b : Int) (h : 1 ≤ r) (h2 : r ≤ 5): den_is_over [.sh (.int r), .sh (.int k), .ow (.list [.int a, .int b])] = .ok (.d (.bool (over r k a b))) [none, none, some (.list [.int a, .int b])] := by
  refine fn_eq rfl ?_
  unfold m_is_over over
  simp_all!
  split <;> simp_all
end K91

set_option Elab.async false
set_option linter.all false
set_option maxRecDepth 100000
set_option maxHeartbeats 4000000
namespace K91
open PySem PySem.Spec PyProof.Rows L2 PV
/-- kick by kick -/
def dec (r : Int) : List (Bool × Nat) → Int → Int → Option Nat
  | [], _, _ => none
  | (g, p) :: gs, a, b =>
    if p % 2 = 0 then if over r (p + 1) (a + oneIf g) b = true then some (p + 1) else dec r gs (a + oneIf g) b
    else if over r (p + 1) a (b + oneIf g) = true then some (p + 1) else dec r gs a (b + oneIf g)
theorem dec_nil (r a b : Int) : dec r [] a b = none := rfl
theorem dec_cons (r : Int) (g : Bool) (p : Nat) (gs : List (Bool × Nat)) (a b : Int) : dec r ((g, p) :: gs) a b =
    if p % 2 = 0 then if over r (p + 1) (a + oneIf g) b = true then some (p + 1) else dec r gs (a + oneIf g) b
    else if over r (p + 1) a (b + oneIf g) = true then some (p + 1) else dec r gs a (b + oneIf g) := rfl
def oi : Option Nat → D
  | none => .none
  | some n => .int n
theorem decided_eq (r : Int) (ks : List Bool) (h : 1 ≤ r) (h2 : r ≤ 5) :
    den_decided_after [.sh (.int r), .sh (.tuple (ks.map .bool))] = .ok (.d (oi (dec r ks.zipIdx 0 0))) [none, none] := by
  refine fn_eq rfl ?_
  unfold m_decided_after
  have e1 : den_see_rounds [.sh (.int r)] = .ok (.d .none) [none] := by rw [see_rounds_eq, if_pos ⟨h, h2⟩]
  simp!
  rw [e1]
  simp_all!
  refine loop_rest (fun (rest : List (Bool × Nat)) e => ∃ a b o1 o2, e = [Slot.sh (.int r), Slot.sh (.tuple (ks.map .bool)), .ow false (.list [.int a, .int b]), jk o1, jk o2] ∧ dec r rest a b = dec r ks.zipIdx 0 0) ?_ ?_ _ _ ?_
  · rintro ⟨g, p⟩ xs e ⟨a, b, o1, o2, rfl, hd⟩
    dsimp!
    have z : ((p : Int) % 2 = 0 ∧ p % 2 = 0) ∨ ((p : Int) % 2 = 1 ∧ p % 2 = 1) := by omega
    rw [dec_cons] at hd
    rcases z with ⟨z, z'⟩ | ⟨z, z'⟩
    · simp_all!
      simp only [z]
      simp_all!
      rw [is_over_l r _ _ _ h h2]
      rw [if_pos z'] at hd
      simp_all!
      split
      · next hc =>
        rw [if_pos hc] at hd
        rw [← hd]
        simp [oi]
      · next hc =>
        rw [if_neg hc] at hd
        exact ⟨_, _, some _, some _, rfl, hd⟩
    · simp_all!
      simp only [z]
      simp_all!
      rw [is_over_l r _ _ _ h h2]
      rw [if_neg (by omega)] at hd
      simp_all!
      split
      · next hc =>
        rw [if_pos hc] at hd
        rw [← hd]
        simp [oi]
      · next hc =>
        rw [if_neg hc] at hd
        exact ⟨_, _, some _, some _, rfl, hd⟩
  · rintro e ⟨a, b, o1, o2, rfl, hd⟩
    rw [dec_nil] at hd
    simp_all!
    rw [← hd]
    simp [oi]
  · exact ⟨0, 0, none, none, rfl, rfl⟩
end K91

set_option Elab.async false
set_option linter.all false
set_option maxRecDepth 100000
set_option maxHeartbeats 4000000
namespace K91
open PySem PySem.Spec PyProof.Rows L2 PV
def shoot (r : Int) (ks : List Bool) : Bool := decide (1 ≤ ks.length) && decide (ks.length ≤ 40) && (dec r ks.zipIdx 0 0 == some ks.length)
theorem see_ok {r : Int} (h : 1 ≤ r) (h2 : r ≤ 5) : den_see_rounds [.sh (.int r)] = .ok (.d .none) [none] := by rw [see_rounds_eq, if_pos ⟨h, h2⟩]
theorem sh_oi (o : Option Nat) : SeqAt.shaped (oi o) = true := by cases o <;> first | exact sh_non | exact sh_int _
theorem eqv_oi (o : Option Nat) (n : Nat) : PyData.eqv (oi o) (.int (n : Int)) = (o == some n) := by
  cases o with
  | none => rw [oi, eqv_ni]; rfl
  | some m =>
    rw [oi, eqv_int, Bool.eq_iff_iff, beq_iff_eq, beq_iff_eq]
    exact ⟨fun h => by rw [Int.ofNat.inj h], fun h => by cases h; rfl⟩
theorem shootout_eq (r : Int) (ks : List Bool) (h : 1 ≤ r) (h2 : r ≤ 5) : den_is_shootout [.sh (.int r), .sh (.tuple (ks.map .bool))] = .ok (.d (.bool (shoot r ks))) [none, none] := by
  refine fn_eq rfl ?_
  unfold m_is_shootout
  have e1 := see_ok h h2
  have e2 := decided_eq r ks h h2
  simp_all! [e1]
  by_cases hl : 1 ≤ ks.length ∧ ks.length ≤ 40
  · have l1 : (1 : Int) ≤ (ks.length : Int) := by omega
    have l2 : (ks.length : Int) ≤ 40 := by omega
    simp_all! [l1, l2]
    rw [ag_all (F := fun _ => true) (fun x hx => by simp_arith)]
    simp_all! [e2, sh_oi, eqv_oi]
    simp [shoot, hl.1, hl.2]
  · have : (decide ((1 : Int) ≤ (ks.length : Int)) && decide ((ks.length : Int) ≤ 40)) = false := by
      by_cases a : (1 : Int) ≤ (ks.length : Int)
      · rw [decide_eq_false (show ¬ (ks.length : Int) ≤ 40 by omega), Bool.and_false]
      · rw [decide_eq_false a, Bool.false_and]
    simp_all! [this]
    simp [shoot]
    omega
end K91

set_option Elab.async false
set_option linter.all false
set_option maxRecDepth 100000
set_option maxHeartbeats 4000000
namespace K91
open PySem PySem.Spec PyProof.Rows L2 PV
/-- how many are true -/
def ct (xs : List Bool) : Int := (xs.map oneIf).sum
theorem bi_b (b : Bool) : 0 ≤ oneIf b ∧ oneIf b ≤ 1 := by cases b <;> decide
theorem ct_nil : ct [] = 0 := rfl
theorem ct_cons (x : Bool) (xs : List Bool) : ct (x :: xs) = oneIf x + ct xs := by simp [ct]
theorem ct_append (xs ys : List Bool) : ct (xs ++ ys) = ct xs + ct ys := by simp [ct]
theorem ct_b : ∀ xs : List Bool, 0 ≤ ct xs ∧ ct xs ≤ (xs.length : Int)
  | [] => by simp [ct_nil]
  | x :: xs => by
    have := ct_b xs
    have := bi_b x
    rw [ct_cons, List.length_cons]
    omega
theorem cnt_b (xs : List Bool) : cntD (xs.map .bool) (.bool true) = some (.int (ct xs)) := by
  have h : SeqAt.shaped (.list (xs.map .bool)) = true := (Shd.lst (n := 0) fun d hd => by obtain ⟨b, _, rfl⟩ := List.mem_map.mp hd; exact .bl b).sh (by decide)
  unfold cntD
  rw [if_pos ⟨h, sh_bl _⟩]
  congr 2
  induction xs with
  | nil => rfl
  | cons x xs ih =>
    have h2 : SeqAt.shaped (.list (xs.map .bool)) = true := (Shd.lst (n := 0) fun d hd => by obtain ⟨b, _, rfl⟩ := List.mem_map.mp hd; exact .bl b).sh (by decide)
    have ih := ih h2
    rw [List.map_cons, List.countP_cons, ct_cons, eqv_bl]
    cases x
    · simpa [oneIf] using ih
    · simp [oneIf]; simp at ih; omega
theorem sum_b (g : TgD) (vs : List Nat) (mt : MT) (me : ME) (e : En) (xs : List Bool) (hl : xs.length ≤ 1000000) (h : ∀ x ∈ xs, item vs g mt me (.bool x) e = .ok (some (.int (oneIf x))) e) : sumG vs g mt me 0 (xs.map .bool) e = .ok (ct xs) e := by
  rw [sg_all (F := oneIf) 1 0 h (fun x _ => by have := bi_b x; omega) (by simp; omega), Int.zero_add]
  rfl
theorem winner_eq (r : Int) (ks : List Bool) (h : 1 ≤ r) (h2 : r ≤ 5) (hl : ks.length ≤ 1000) : den_winner_of [.sh (.int r), .sh (.tuple (ks.map .bool))] = .ok (.d (.int (oneIf (decide (ct (evs ks) < ct (ods ks)))))) [none, none] := by
  refine fn_eq rfl ?_
  unfold m_winner_of
  have e1 := see_ok h h2
  have l1 := evs_len ks
  have l2 := ods_len ks
  simp_all! [e1]
  rw [sum_b _ _ _ _ _ (ods ks) (by omega) (fun x hx => by simp_arith)]
  simp_all!
  rw [sum_b _ _ _ _ _ (evs ks) (by omega) (fun x hx => by simp_arith)]
  simp_all!
/-- the law's word on kicks -/
def lover (r : Int) (ks : List Bool) : Bool := if 2 * r < (ks.length : Int) then (((evs ks).length : Int) == ((ods ks).length : Int)) && !(ct (evs ks) == ct (ods ks)) else decide (ct (ods ks) + r - ((ods ks).length : Int) < ct (evs ks)) || decide (ct (evs ks) + r - ((evs ks).length : Int) < ct (ods ks))
theorem over_eq (r : Int) (ks : List Bool) (h : 1 ≤ r) (h2 : r ≤ 5) (hl : ks.length ≤ 1000) : den__law_over [.sh (.int r), .sh (.tuple (ks.map .bool))] = .ok (.d (.bool (lover r ks))) [none, none] := by
  refine fn_eq rfl ?_
  unfold m__law_over
  have l1 := evs_len ks
  have l2 := ods_len ks
  have c1 := cnt_b (evs ks)
  have c2 := cnt_b (ods ks)
  simp_all! [gCntT, c1, c2]
  unfold lover
  rw [l1, l2]
  split <;> rfl
end K91

set_option Elab.async false
set_option linter.all false
set_option maxRecDepth 100000
set_option maxHeartbeats 4000000
namespace K91
open PySem PySem.Spec PyProof.Rows L2 PV
/-- the first number of kicks behind which it is over -/
def aft (r : Int) (ks : List Bool) : Option Int := ((rngI 1 ks.length).filter fun k => lover r (ks.take k.toNat)).head?
def oI : Option Int → D
  | none => .none
  | some n => .int n
theorem after_eq (r : Int) (ks : List Bool) (h : 1 ≤ r) (h2 : r ≤ 5) (hl : ks.length ≤ 1000) : den__law_after [.sh (.int r), .sh (.tuple (ks.map .bool))] = .ok (.d (oI (aft r ks))) [none, none] := by
  refine fn_eq rfl ?_
  unfold m__law_after
  simp_all!
  have e0 : ((ks.length : Int) + 1 - 1).toNat = ks.length := by omega
  rw [e0, lc_if (F := PyData.int) (p := fun k => lover r (ks.take k.toNat)) (fun k hk => by
    have hk := rngI_mem hk
    have e1 := over_eq r (ks.take k.toNat) h h2 (by rw [List.length_take]; omega)
    simp_arith [e1]) (by simp [rngI]; omega)]
  have hz : ((rngI 1 ks.length).filter fun k => lover r (ks.take k.toNat)).length ≤ 1000 := Nat.le_trans (List.length_filter_le ..) (by simp [rngI]; omega)
  unfold aft
  generalize (rngI 1 ks.length).filter (fun k => lover r (ks.take k.toNat)) = l at hz
  cases l with
  | nil => simp_all!; simp [oI]
  | cons x l =>
    rw [List.length_cons] at hz
    simp_all!
    simp [oI]
/-- n over k, as the law counts it -/
def cho (n : Int) (k : Nat) : Int := (rngI 0 k).foldl (fun f one => f * (n - one) / (one + 1)) 1
theorem choices_eq (n : Int) (k : Nat) (hn : 0 ≤ n) (hn2 : n ≤ 100) (hk : k ≤ 100) (hb : ∀ j ≤ k, (cho n j).natAbs < 2 ^ 60) : den__law_choices [.sh (.int n), .sh (.int k)] = .ok (.d (.int (cho n k))) [none, none] := by
  refine fn_eq rfl ?_
  unfold m__law_choices
  simp_all!
  refine loop_rng (fun i e => ∃ o, e = [Slot.sh (.int n), Slot.sh (.int k), .sh (.int (cho n i)), jk o]) ?_ ?_ ⟨none, rfl⟩
  · rintro i e hi ⟨o, rfl⟩
    dsimp!
    have hb1 := hb i (by omega)
    have e1 : cho n (i + 1) = cho n i * (n - (0 + (i : Int))) / (0 + (i : Int) + 1) := by
      unfold cho
      rw [rngI_succ, List.foldl_append]
      rfl
    rw [e1]
    generalize cho n i = f at hb1
    simp_all!
    exact ⟨some _, rfl⟩
  · rintro e ⟨o, rfl⟩
    simp_all!
end K91

set_option Elab.async false
set_option linter.all false
set_option maxRecDepth 100000
set_option maxHeartbeats 4000000
namespace K91
open PySem PySem.Spec PyProof.Rows L2 PV
abbrev Rw := List ((Int × Int) × Int)
def gsn (kick : Int) (p : Int × Int) (goal : Int) : Int × Int := if kick % 2 = 1 then (p.1 + goal, p.2) else (p.1, p.2 + goal)
def cstep (r kick : Int) (p : (Int × Int) × Int) (st : Int × Rw) (goal : Int) : Int × Rw :=
  if over r kick (gsn kick p.1 goal).1 (gsn kick p.1 goal).2 = true then (st.1 + p.2, st.2)
  else (st.1, aput st.2 (gsn kick p.1 goal) ((aget st.2 (gsn kick p.1 goal)).getD 0 + p.2))
def crow (r kick : Int) (rows : Rw) : Int × Rw := rows.foldl (fun st p => cstep r kick p (cstep r kick p st 0) 1) (0, [])
def cnt (r : Int) : Nat → Int × Rw
  | 0 => (0, [((0, 0), 1)])
  | i + 1 => crow r (i + 1) (cnt r i).2
abbrev eD (l : Rw) : D := .dict (encP encIP PyData.int l)
theorem gset_ip (l : Rw) (x y v : Int) (h : l.length < 16777216) : gSetD (eD l) (.tuple [.int x, .int y]) (.int v) = some (eD (aput l (x, y) v)) := pairKey.gset l (x, y) v h
theorem gget_ip (l : Rw) (x y v : Int) : gGet (eD l) [.tuple [.int x, .int y], .int v] = some (.int ((aget l (x, y)).getD v)) := pairKey.gget l (x, y) v
theorem items_ip (l : Rw) : itemsD (encP encIP PyData.int l) = l.map fun p => .tuple [.tuple [.int p.1.1, .int p.1.2], .int p.2] := by
  unfold itemsD encP
  rw [List.map_map]
  rfl
theorem is_over_t' (r k a b : Int) (h : 1 ≤ r) (h2 : r ≤ 5) : den_is_over [.sh (.int r), .sh (.int k), .sh (.tuple [.int a, .int b])] = .ok (.d (.bool (over r k a b))) [none, none, none] := is_over_t r k a b h h2
theorem cstep_len (r kick : Int) (p : (Int × Int) × Int) (st : Int × Rw) (goal : Int) : (cstep r kick p st goal).2.length ≤ st.2.length + 1 := by
  unfold cstep
  split
  · exact Nat.le_succ _
  · exact aput_len ..
theorem count_eq (r : Int) (n : Nat) (h : 1 ≤ r) (h2 : r ≤ 5) (hn : 1 ≤ n) (hn2 : n ≤ 40) (hz : ∀ i ≤ n, (cnt r i).2.length ≤ 1000) : den_count_shootouts [.sh (.int r), .sh (.int n)] = .ok (.d (.int (cnt r n).1)) [none, none] := by
  refine fn_eq rfl ?_
  unfold m_count_shootouts
  have e1 := see_ok h h2
  have e2 := is_number_int (n : Int) 1 40
  rw [decide_eq_true (show (1 : Int) ≤ (n : Int) by omega), decide_eq_true (show (n : Int) ≤ 40 by omega)] at e2
  have e3 : dStore [] [(PyData.tuple [.int 0, .int 0], PyData.int 1)] = some (encP encIP PyData.int [((0, 0), 1)]) := by
    rw [dStore_cons, if_pos ⟨pairKey.ok (vv := PyData.int) [] (0, 0), by rw [sizeLine_eq]; decide⟩]
    rfl
  simp_all! [e1, e2, e3]
  have e0 : ((n : Int) + 1 - 1).toNat = n := by omega
  rw [e0]
  refine loop_rng (fun i e => ∃ s2 o4 o5 o6 o7 o8 o9 o10, (s2 = Slot.ow false (eD (cnt r i).2) ∨ s2 = .sh (eD (cnt r i).2)) ∧ e = [Slot.sh (.int r), Slot.sh (.int n), s2, .sh (.int (cnt r i).1), jk o4, jk o5, jk o6, jk o7, jk o8, jk o9, jk o10]) ?_ ?_ ⟨_, none, none, none, none, none, none, none, .inl rfl, rfl⟩
  · rintro i e hi ⟨s2, o4, o5, o6, o7, o8, o9, o10, hs, rfl⟩
    dsimp!
    have hz0 := hz i (by omega)
    have hi1 : (1 + (i : Int)) = ((i + 1 : Nat) : Int) := by omega
    rw [hi1]
    have items : ∀ a b c d f g h k l m, iItemsD (mVar 2) [a, b, s2, c, d, f, g, h, k, l, m] = .ok ((cnt r i).2.map fun p => .tuple [.tuple [.int p.1.1, .int p.1.2], .int p.2], none) [a, b, .sh (eD (cnt r i).2), c, d, f, g, h, k, l, m] := fun a b c d f g h k l m => by
      rcases hs with rfl | rfl <;> simp_arith [items_ip]
    refine sat_seq_eq (e1 := [Slot.sh (.int r), Slot.sh (.int n), s2, .sh (.int (cnt r i).1), .sh (.int ((i + 1 : Nat) : Int)), .ow false (eD []), jk o6, jk o7, jk o8, jk o9, jk o10]) (by simp_arith [dStore_nil]; rfl) ?_
    refine sat_seq_eq (e1 := [Slot.sh (.int r), Slot.sh (.int n), s2, .sh (.int 0), .sh (.int ((i + 1 : Nat) : Int)), .ow false (eD []), jk o6, jk o7, jk o8, jk o9, jk o10]) (by simp_arith) ?_
    refine sat_seq (sat_for (items ..) ?_)
    generalize hrows : (cnt r i).2 = rows at *
    refine loop_pre (fun (pre : Rw) e => ∃ o6 o7 o8 o9 o10, e = [Slot.sh (.int r), Slot.sh (.int n), .sh (eD rows), .sh (.int (crow r (i + 1 : Nat) pre).1), .sh (.int ((i + 1 : Nat) : Int)), .ow false (eD (crow r (i + 1 : Nat) pre).2), jk o6, jk o7, jk o8, jk o9, jk o10] ∧ (crow r (i + 1 : Nat) pre).2.length ≤ 2 * pre.length) ?_ ?_ ⟨o6, o7, o8, o9, o10, rfl, Nat.le_refl _⟩
    · rintro pre p post e hx ⟨o6, o7, o8, o9, o10, rfl, hl⟩
      dsimp!
      have hp : pre.length ≤ 1000 := by
        have := congrArg List.length hx
        simp at this
        omega
      have hstep : crow r (i + 1 : Nat) (pre ++ [p]) = cstep r (i + 1 : Nat) p (cstep r (i + 1 : Nat) p (crow r (i + 1 : Nat) pre) 0) 1 := by
        unfold crow
        rw [List.foldl_append]
        rfl
      rw [hstep]
      generalize crow r (i + 1 : Nat) pre = st at *
      have rg : ∀ e, iRange (aCons (mC (.int 2)) aNil) e = .ok ((rngI 0 2).map PyData.int, none) e := fun e => by simp_arith
      refine sat_for (rg _) ?_
      refine loop_rng (fun j e => ∃ o7 o10, e = [Slot.sh (.int r), Slot.sh (.int n), .sh (eD rows), .sh (.int ((rngI 0 j).foldl (cstep r (i + 1 : Nat) p) st).1), .sh (.int ((i + 1 : Nat) : Int)), .ow false (eD ((rngI 0 j).foldl (cstep r (i + 1 : Nat) p) st).2), .sh (.int p.2), jk o7, .sh (.int p.1.1), .sh (.int p.1.2), jk o10] ∧ ((rngI 0 j).foldl (cstep r (i + 1 : Nat) p) st).2.length ≤ 2 * pre.length + j) ?_ ?_ ⟨o7, o10, rfl, hl⟩
      · rintro j e hj ⟨o7, o10, rfl, hl⟩
        dsimp!
        have hs1 : (rngI 0 (j + 1)).foldl (cstep r (i + 1 : Nat) p) st = cstep r (i + 1 : Nat) p ((rngI 0 j).foldl (cstep r (i + 1 : Nat) p) st) (0 + (j : Int)) := by rw [rngI_succ, List.foldl_append]; rfl
        rw [hs1]
        generalize (rngI 0 j).foldl (cstep r (i + 1 : Nat) p) st = st at *
        generalize (0 + (j : Int)) = goal at *
        have hl3 := cstep_len r (i + 1 : Nat) p st goal
        have hc : cstep r (i + 1 : Nat) p st goal = if over r (i + 1 : Nat) (gsn (i + 1 : Nat) p.1 goal).1 (gsn (i + 1 : Nat) p.1 goal).2 = true then (st.1 + p.2, st.2) else (st.1, aput st.2 (gsn (i + 1 : Nat) p.1 goal) ((aget st.2 (gsn (i + 1 : Nat) p.1 goal)).getD 0 + p.2)) := rfl
        generalize ((i + 1 : Nat) : Int) = kick at *
        by_cases z : kick % 2 = 1
        · have e4 := is_over_t r kick (p.1.1 + goal) p.1.2 h h2
          have e5 : gsn kick p.1 goal = (p.1.1 + goal, p.1.2) := if_pos z
          rw [e5] at hc
          simp_all! [beq_iff_eq, z, e4]
          by_cases ho : over r kick (p.1.1 + goal) p.1.2 = true
          · rw [if_pos ho] at hc ⊢
            simp_all!
            exact ⟨some _, some _, by rw [hc]; rfl, by omega⟩
          · rw [if_neg ho] at hc ⊢
            simp_all! [gget_ip, gset_ip]
            exact ⟨some _, some _, by rw [hc]; rfl, by omega⟩
        · have e4 := is_over_t r kick p.1.1 (p.1.2 + goal) h h2
          have e5 : gsn kick p.1 goal = (p.1.1, p.1.2 + goal) := if_neg z
          rw [e5] at hc
          simp_all! [beq_iff_eq, z, e4]
          by_cases ho : over r kick p.1.1 (p.1.2 + goal) = true
          · rw [if_pos ho] at hc ⊢
            simp_all!
            exact ⟨some _, some _, by rw [hc]; rfl, by omega⟩
          · rw [if_neg ho] at hc ⊢
            simp_all! [gget_ip, gset_ip]
            exact ⟨some _, some _, by rw [hc]; rfl, by omega⟩
      · rintro e ⟨o7, o10, rfl, hl⟩
        rw [lpp_nx]
        have hl' : (cstep r (i + 1 : Nat) p (cstep r (i + 1 : Nat) p st 0) 1).2.length ≤ 2 * pre.length + 2 := hl
        refine ⟨some _, o7, some _, some _, o10, rfl, ?_⟩
        rw [List.length_append, List.length_cons, List.length_nil]
        omega
    · rintro e ⟨o6, o7, o8, o9, o10, rfl, hl⟩
      simp_all!
      have e7 : cnt r (i + 1) = crow r (i + 1 : Nat) rows := by rw [← hrows]; rfl
      rw [e7]
      exact ⟨_, some _, some _, o6, o7, o8, o9, o10, .inr rfl, rfl⟩
  · rintro e ⟨s2, o4, o5, o6, o7, o8, o9, o10, hs, rfl⟩
    simp_all!
end K91

set_option Elab.async false
set_option linter.all false
set_option maxRecDepth 100000
set_option maxHeartbeats 4000000
namespace K91
open PySem PySem.Spec PyProof.Rows L2 PV
def sweep (P : Nat → Int × Rw → Bool) (r : Int) : Nat → Nat → Int × Rw → Bool
  | 0, i, st => P i st
  | f + 1, i, st => P i st && sweep P r f (i + 1) (crow r ((i + 1 : Nat) : Int) st.2)
theorem sweep_ok {P : Nat → Int × Rw → Bool} {r : Int} : ∀ (f i : Nat), sweep P r f i (cnt r i) = true → ∀ j, i ≤ j → j ≤ i + f → P j (cnt r j) = true
  | 0, i, h, j, h1, h2 => by
    obtain rfl : j = i := by omega
    exact h
  | f + 1, i, h, j, h1, h2 => by
    unfold sweep at h
    rw [Bool.and_eq_true] at h
    by_cases z : j = i
    · subst z; exact h.1
    · exact sweep_ok f (i + 1) h.2 j (by omega) (by omega)
/-- all rows of k kicks: those not over, those over at last -/
def rowsL (edge : List (List Bool)) : List (List Bool) := edge.flatMap fun row => [row ++ [true], row ++ [false]]
def edg (r : Int) : Nat → List (List Bool)
  | 0 => [[]]
  | k + 1 => (rowsL (edg r k)).filter fun x => !lover r x
def don (r : Int) (k : Nat) : List (List Bool) := (rowsL (edg r k)).filter (lover r)
def swB (r : Int) : Nat → Nat → List (List Bool) → Int × Rw → Bool
  | 0, _, _, _ => true
  | f + 1, k, ed, st =>
    let later := rowsL ed
    let st2 := crow r ((k + 1 : Nat) : Int) st.2
    (decide (((later.filter (lover r)).length : Int) = st2.1) && decide (later.length ≤ 1000)) && swB r f (k + 1) (later.filter fun x => !lover r x) st2
theorem swB_ok {r : Int} : ∀ (f k : Nat), swB r f k (edg r k) (cnt r k) = true → ∀ j, k ≤ j → j < k + f → ((don r j).length : Int) = (cnt r (j + 1)).1 ∧ (rowsL (edg r j)).length ≤ 1000
  | 0, k, h, j, h1, h2 => by omega
  | f + 1, k, h, j, h1, h2 => by
    unfold swB at h
    simp only [Bool.and_eq_true, decide_eq_true_eq] at h
    by_cases z : j = k
    · subst z; exact h.1
    · exact swB_ok f (k + 1) h.2 j (by omega) (by omega)
/-- the number that is due from 2 r + 2 kicks on -/
def dueC (r i : Nat) : Int := if i % 2 = 1 then 0 else 2 * cho (2 * r) r * 2 ^ (i / 2 - r - 1)
theorem fact (r : Nat) (h : 1 ≤ r) (h2 : r ≤ 5) : (∀ i ≤ 40, (cnt r i).2.length ≤ 1000) ∧ (∀ i, 2 * r + 2 ≤ i → i ≤ 40 → (cnt r i).1 = dueC r i) ∧ (∀ k < 9, ((don r k).length : Int) = (cnt r (k + 1)).1 ∧ (rowsL (edg r k)).length ≤ 1000) := by
  have key : sweep (fun i st => decide (st.2.length ≤ 1000) && (decide (i < 2 * r + 2) || decide (st.1 = dueC r i))) r 40 0 (cnt r 0) = true ∧ swB r 9 0 (edg r 0) (cnt r 0) = true := by
    have : r = 1 ∨ r = 2 ∨ r = 3 ∨ r = 4 ∨ r = 5 := by omega
    rcases this with rfl | rfl | rfl | rfl | rfl <;> decide +kernel
  have k1 := sweep_ok 40 0 key.1
  refine ⟨fun i hi => ?_, fun i hi hi2 => ?_, fun k hk => swB_ok 9 0 key.2 k (by omega) (by omega)⟩
  · have := k1 i (by omega) (by omega)
    simp only [Bool.and_eq_true, decide_eq_true_eq] at this
    exact this.1
  · have := k1 i (by omega) (by omega)
    simp only [Bool.and_eq_true, Bool.or_eq_true, decide_eq_true_eq] at this
    rcases this.2 with z | z
    · omega
    · exact z
theorem cho_small (r : Nat) (h : 1 ≤ r) (h2 : r ≤ 5) : ∀ j ≤ r, (cho (2 * r) j).natAbs < 2 ^ 60 := by
  have : r = 1 ∨ r = 2 ∨ r = 3 ∨ r = 4 ∨ r = 5 := by omega
  rcases this with rfl | rfl | rfl | rfl | rfl <;> decide +kernel
end K91

set_option Elab.async false
set_option linter.all false
set_option maxRecDepth 100000
set_option maxHeartbeats 4000000
namespace K91
open PySem PySem.Spec PyProof.Rows L2 PV
theorem told0 (r : Int) (ks : List Bool) (h : 1 ≤ r) (h2 : r ≤ 5) : den__law_told [.sh (.int 0), .sh (.int r), .sh (.tuple (ks.map .bool))] = .ok (.d (oi (dec r ks.zipIdx 0 0))) [none, none, none] := by
  unfold den__law_told
  unfold m__law_told
  have e1 := decided_eq r ks h h2
  simp_arith [e1]
theorem told1 (r : Int) (ks : List Bool) (h : 1 ≤ r) (h2 : r ≤ 5) : den__law_told [.sh (.int 1), .sh (.int r), .sh (.tuple (ks.map .bool))] = .ok (.d (.bool (shoot r ks))) [none, none, none] := by
  unfold den__law_told
  unfold m__law_told
  have e1 := shootout_eq r ks h h2
  simp_arith [e1]
theorem told2 (r : Int) (ks : List Bool) (h : 1 ≤ r) (h2 : r ≤ 5) (hl : ks.length ≤ 1000) : den__law_told [.sh (.int 2), .sh (.int r), .sh (.tuple (ks.map .bool))] = .ok (.d (.int (oneIf (decide (ct (evs ks) < ct (ods ks)))))) [none, none, none] := by
  unfold den__law_told
  unfold m__law_told
  have e1 := winner_eq r ks h h2 hl
  simp_arith [e1]
theorem told3 (r n : Nat) (h : 1 ≤ r) (h2 : r ≤ 5) (hn : 1 ≤ n) (hn2 : n ≤ 40) : den__law_told [.sh (.int 3), .sh (.int r), .sh (.int n)] = .ok (.d (.int (cnt r n).1)) [none, none, none] := by
  unfold den__law_told
  unfold m__law_told
  have e1 := count_eq r n (by omega) (by omega) hn hn2 fun i hi => (fact r h h2).1 i (by omega)
  simp_arith [e1]
theorem see_no (r : Int) (h : ¬ (1 ≤ r ∧ r ≤ 5)) : den_see_rounds [.sh (.int r)] = .exc 1 [none] := by rw [see_rounds_eq, if_neg h]
def rng : D := .str "range"
theorem told_no (w r : Int) (d : D) (hw : w = 0 ∨ w = 1 ∨ w = 2 ∨ w = 3) (h : ¬ (1 ≤ r ∧ r ≤ 5)) : den__law_told [.sh (.int w), .sh (.int r), .sh d] = .ok (.d rng) [none, none, none] := by
  have e0 := see_no r h
  have f0 : den_decided_after [.sh (.int r), .sh d] = .exc 1 [none, none] := by
    unfold den_decided_after; unfold m_decided_after; simp_arith [e0]
  have f1 : den_is_shootout [.sh (.int r), .sh d] = .exc 1 [none, none] := by
    unfold den_is_shootout; unfold m_is_shootout; simp_arith [e0]
  have f2 : den_winner_of [.sh (.int r), .sh d] = .exc 1 [none, none] := by
    unfold den_winner_of; unfold m_winner_of; simp_arith [e0]
  have f3 : den_count_shootouts [.sh (.int r), .sh d] = .exc 1 [none, none] := by
    unfold den_count_shootouts; unfold m_count_shootouts; simp_arith [e0]
  unfold den__law_told
  unfold m__law_told
  have r1 : res__law_told 1 = some rng := rfl
  rcases hw with rfl | rfl | rfl | rfl <;> simp_arith [f0, f1, f2, f3, r1]
theorem told_n (r n : Int) (h : 1 ≤ r) (h2 : r ≤ 5) (hn : ¬ (1 ≤ n ∧ n ≤ 40)) : den__law_told [.sh (.int 3), .sh (.int r), .sh (.int n)] = .ok (.d rng) [none, none, none] := by
  have e0 := see_ok h h2
  have e2 := is_number_int n 1 40
  have e3 : (decide (1 ≤ n) && decide (n ≤ 40)) = false := by
    by_cases a : 1 ≤ n
    · rw [decide_eq_false (show ¬ n ≤ 40 by omega), Bool.and_false]
    · rw [decide_eq_false a, Bool.false_and]
  rw [e3] at e2
  have f3 : den_count_shootouts [.sh (.int r), .sh (.int n)] = .exc 1 [none, none] := by
    unfold den_count_shootouts; unfold m_count_shootouts; simp_arith [e0, e2]
  unfold den__law_told
  unfold m__law_told
  have r1 : res__law_told 1 = some rng := rfl
  simp_arith [f3, r1]
theorem over_flip (r : Int) (ks : List Bool) : lover r (ks.map fun x => !x) = lover r ks := by
  have e1 : ∀ xs : List Bool, ct (xs.map fun x => !x) = (xs.length : Int) - ct xs := fun xs => by
    induction xs with
    | nil => rfl
    | cons x xs ih =>
      rw [List.map_cons, ct_cons, ct_cons, ih, List.length_cons]
      cases x <;> simp [oneIf] <;> omega
  unfold lover
  rw [evs_map, ods_map, e1, e1, List.length_map, List.length_map, List.length_map]
  have l1 := evs_len ks
  have l2 := ods_len ks
  by_cases h : 2 * r < (ks.length : Int)
  · rw [if_pos h, if_pos h, Bool.eq_iff_iff]
    simp only [Bool.and_eq_true, beq_iff_eq, Bool.not_eq_true', beq_eq_false_iff_ne, ne_eq]
    constructor
    · rintro ⟨a, b⟩; exact ⟨a, by omega⟩
    · rintro ⟨a, b⟩; exact ⟨a, by omega⟩
  · rw [if_neg h, if_neg h, Bool.eq_iff_iff]
    simp only [Bool.or_eq_true, decide_eq_true_eq]
    omega
theorem aft_flip (r : Int) (ks : List Bool) : aft r (ks.map fun x => !x) = aft r ks := by
  unfold aft
  rw [List.length_map]
  congr 2
  funext k
  rw [← List.map_take, over_flip]
/-- over by the counts -/
theorem lover_over (r : Int) (ks : List Bool) : lover r ks = over r (ks.length : Int) (ct (evs ks)) (ct (ods ks)) := by
  unfold lover over
  have l1 := evs_len ks
  have l2 := ods_len ks
  by_cases h : 2 * r < (ks.length : Int)
  · rw [if_pos h, if_pos h, Bool.eq_iff_iff]
    simp only [Bool.and_eq_true, beq_iff_eq]
    constructor
    · rintro ⟨a, b⟩; exact ⟨by omega, b⟩
    · rintro ⟨a, b⟩; exact ⟨by omega, b⟩
  · rw [if_neg h, if_neg h, Bool.eq_iff_iff]
    simp only [Bool.or_eq_true, decide_eq_true_eq]
    omega
theorem dec_aft (r : Int) (ks : List Bool) : oi (dec r ks.zipIdx 0 0) = oI (aft r ks) := by
  have key : ∀ (post pre : List Bool), ks = pre ++ post → oi (dec r (post.zipIdx pre.length) (ct (evs pre)) (ct (ods pre))) = oI (((rngI (1 + (pre.length : Int)) post.length).filter fun k => lover r (ks.take k.toNat)).head?) := by
    intro post
    induction post with
    | nil => intro pre _; rfl
    | cons g post ih =>
      intro pre hk
      have ih := ih (pre ++ [g]) (by rw [hk]; simp)
      have ht : ks.take (pre.length + 1) = pre ++ [g] := by
        rw [hk, show pre ++ g :: post = (pre ++ [g]) ++ post by simp]
        exact List.take_left' (by simp)
      have hr : rngI (1 + (pre.length : Int)) (post.length + 1) = (1 + (pre.length : Int)) :: rngI (1 + ((pre ++ [g]).length : Int)) post.length := by
        unfold rngI
        rw [List.range_succ_eq_map, List.map_cons, List.map_map]
        refine congr (congrArg List.cons (by omega)) (List.map_congr_left fun i _ => ?_)
        simp only [Function.comp, List.length_append, List.length_cons, List.length_nil]
        omega
      rw [List.length_cons, hr, List.zipIdx_cons, dec_cons, List.filter_cons]
      have el : (pre ++ [g]).length = pre.length + 1 := by simp
      rw [el]
      rw [show (1 + (pre.length : Int)).toNat = pre.length + 1 by omega, ht]
      rw [el] at ih
      have ho := lover_over r (pre ++ [g])
      rw [el, evs_snoc, ods_snoc] at ho
      by_cases z : pre.length % 2 = 0
      · rw [if_pos z, if_pos z, ct_append, ct_cons, ct_nil, Int.add_zero] at ho
        rw [if_pos z, ho]
        rw [evs_snoc, ods_snoc, if_pos z, if_pos z, ct_append, ct_cons, ct_nil, Int.add_zero] at ih
        rw [show ((pre.length + 1 : Nat) : Int) = (pre.length : Int) + 1 by omega]
        by_cases o : over r ((pre.length : Int) + 1) (ct (evs pre) + oneIf g) (ct (ods pre)) = true
        · rw [if_pos o, if_pos o]
          simp [oi, oI]
          omega
        · rw [if_neg o, if_neg o]
          exact ih
      · rw [if_neg z, if_neg z, ct_append, ct_cons, ct_nil, Int.add_zero] at ho
        rw [if_neg z, ho]
        rw [evs_snoc, ods_snoc, if_neg z, if_neg z, ct_append, ct_cons, ct_nil, Int.add_zero] at ih
        rw [show ((pre.length + 1 : Nat) : Int) = (pre.length : Int) + 1 by omega]
        by_cases o : over r ((pre.length : Int) + 1) (ct (evs pre)) (ct (ods pre) + oneIf g) = true
        · rw [if_pos o, if_pos o]
          simp [oi, oI]
          omega
        · rw [if_neg o, if_neg o]
          exact ih
  have := key ks [] rfl
  simpa [aft, evs, ods, ct_nil] using this
end K91

set_option Elab.async false
set_option linter.all false
set_option maxRecDepth 100000
set_option maxHeartbeats 4000000
namespace K91
open PySem PySem.Spec PyProof.Rows L2 PV
theorem take91 (ds : List Int) {b : Int} (h : 0 < b) : den__law_take [.ow (.list (ds.map .int)), .sh (.int b)] = .ok (.d (.int (tk ds b).1)) [some (.list ((tk ds b).2.map .int)), none] := take_ok ds h
theorem same91 (d : D) (h : Okd 3 d) : den__law_same fuel__law_same [.sh d, .sh d] = .ok (.d (.bool true)) [none, none] := same_refl 3 10 d h (by decide)
theorem same91o (ds : List D) (hz : ds.length ≤ 1000000) (h : ∀ x ∈ ds, Okd 3 x) : den__law_same fuel__law_same [.sh (.list ds), .ow (.list ds)] = .ok (.d (.bool true)) [none, some (.list ds)] := same_refl_ow 3 10 ds hz h (by decide)
/-- kicks as data -/
def kB (ks : List Bool) : D := .tuple (ks.map .bool)
theorem rowsL_len (ed : List (List Bool)) : (rowsL ed).length = 2 * ed.length := by
  unfold rowsL
  induction ed with
  | nil => rfl
  | cons x r ih => rw [List.flatMap_cons, List.length_append, ih, List.length_cons]; simp; omega
theorem rowsL_snoc (ed : List (List Bool)) (x : List Bool) : rowsL (ed ++ [x]) = rowsL ed ++ [x ++ [true], x ++ [false]] := by simp [rowsL]
theorem edg_mem (r : Int) : ∀ (k : Nat) (x : List Bool), x ∈ edg r k → x.length = k
  | 0, x, h => by simp [edg] at h; subst h; rfl
  | k + 1, x, h => by
    unfold edg rowsL at h
    have h := (List.mem_filter.mp h).1
    obtain ⟨y, h1, h2⟩ := List.mem_flatMap.mp h
    have := edg_mem r k y h1
    simp at h2
    rcases h2 with rfl | rfl <;> simp [this]
theorem rowsL_mem (r : Int) (k : Nat) (x : List Bool) (h : x ∈ rowsL (edg r k)) : x.length = k + 1 := by
  unfold rowsL at h
  obtain ⟨y, h1, h2⟩ := List.mem_flatMap.mp h
  have := edg_mem r k y h1
  simp at h2
  rcases h2 with rfl | rfl <;> simp [this]
/-- all rows that are over, of at most k kicks -/
def allD (r : Int) : Nat → List (List Bool)
  | 0 => []
  | k + 1 => allD r k ++ don r k
theorem allD_mem (r : Int) : ∀ (k : Nat) (x : List Bool), x ∈ allD r k → 1 ≤ x.length ∧ x.length ≤ k
  | k + 1, x, h => by
    unfold allD at h
    rcases List.mem_append.mp h with h | h
    · have := allD_mem r k x h; omega
    · have := rowsL_mem r k x (List.mem_filter.mp h).1; omega
theorem body1 (r k : Nat) (S : Slot) (ds : List D) (s2 s3 s4 s5 s6 s7 s8 s9 s11 s14 s16 s18 s19 s20 s21 s22 s23 s24 s25 : Slot) (o15 o17 : Option D) (h : 1 ≤ r) (h2 : r ≤ 5) (hk : k < 9) (ha : (allD r k).length ≤ 9000)
    (h14 : okSl s14 = true) (h16 : okSl s16 = true) (P : Fl → En → Prop)
    (hP : ∀ s14' s16' o15', okSl s14' = true → okSl s16' = true → P .nx [S, .ow false (.list ds), .sh (.int k), s3, s4, s5, s6, s7, s8, s9, .sh (.int r), s11, .ow false (.list ((allD r (k + 1)).map kB)), .ow false (.list ((edg r (k + 1)).map kB)), s14', jk o15', s16', jk o17, s18, s19, s20, s21, s22, s23, s24, s25]) :
    Sat ((mSeq (mSet 14 (mLst (aNil))) (mSeq (mFor (iSeq (mVar 13)) (gNm 15) (mSet 14 (mBin gAdd (mVar 14) (mLc [17] (iSeq (mTup (aCons (mC (.bool true)) (aCons (mC (.bool false)) (aNil))))) (gNm 17) (mYes) (mBin gAdd (mVar 15) (mTup (aCons (mVar 17) (aNil)))))))) (mSeq (mSet 16 (mLc [15] (iSeq (mVar 14)) (gNm 15) (mTru (mCall den__law_over (aCons (mVar 10) (aCons (mVar 15) (aNil))))) (mVar 15))) (mSeq (mSet 13 (mLc [15] (iSeq (mVar 14)) (gNm 15) (mNot (mTru (mCall den__law_over (aCons (mVar 10) (aCons (mVar 15) (aNil)))))) (mVar 15))) (mSeq (mIfS (mNot (mTru (mCall (den__law_same fuel__law_same) (aCons (mCall den__law_told (aCons (mC (.int 3)) (aCons (mVar 10) (aCons (mBin gAdd (mVar 2) (mC (.int 1))) (aNil))))) (aCons (mCallB (g1 gLenD) (aCons (mVar 16) (aNil))) (aNil)))))) (mRet (mC (.bool false))) (sNx)) (mSet 12 (mBin gAdd (mVar 12) (mVar 16)))))))) [S, .ow false (.list ds), .sh (.int k), s3, s4, s5, s6, s7, s8, s9, .sh (.int r), s11, .ow false (.list ((allD r k).map kB)), .ow false (.list ((edg r k).map kB)), s14, jk o15, s16, jk o17, s18, s19, s20, s21, s22, s23, s24, s25]) P := by
  have f3 := (fact r h h2).2.2 k hk
  have hl := rowsL_len (edg r k)
  refine sat_seq_eq (e1 := [S, .ow false (.list ds), .sh (.int k), s3, s4, s5, s6, s7, s8, s9, .sh (.int r), s11, .ow false (.list ((allD r k).map kB)), .ow false (.list ((edg r k).map kB)), .ow false (.list []), jk o15, s16, jk o17, s18, s19, s20, s21, s22, s23, s24, s25]) (by simp_arith [h14]) ?_
  refine sat_seq (sat_forL (i := 13) (by simp_arith; rfl) rfl ?_)
  simp_arith
  refine loop_pre (fun (pre : List (List Bool)) e => ∃ o15, e = [S, .ow false (.list ds), .sh (.int k), s3, s4, s5, s6, s7, s8, s9, .sh (.int r), s11, .ow false (.list ((allD r k).map kB)), .lk false (.list ((edg r k).map kB)), .ow false (.list ((rowsL pre).map kB)), jk o15, s16, jk o17, s18, s19, s20, s21, s22, s23, s24, s25]) ?_ ?_ ⟨o15, rfl⟩
  · rintro pre x post e hx ⟨o15, rfl⟩
    dsimp!
    have hx1 : x.length = k := edg_mem r k x (by rw [hx]; simp)
    have hp : pre.length ≤ (edg r k).length := by rw [hx]; simp
    have hr := rowsL_len pre
    simp_all! [kB]
    refine ⟨some (kB x), ?_⟩
    rw [rowsL_snoc]
    simp [kB, jk]
  · rintro e ⟨o15, rfl⟩
    simp_all!
    rw [lc_if (F := kB) (p := lover r) (fun x hx => by
      have hx1 := rowsL_mem r k x hx
      have e1 := over_eq r x (by omega) (by omega) (by omega)
      simp_arith [kB, e1]) (by omega)]
    simp_all! [h16]
    rw [lc_if (F := kB) (p := fun x => !lover r x) (fun x hx => by
      have hx1 := rowsL_mem r k x hx
      have e1 := over_eq r x (by omega) (by omega) (by omega)
      simp_arith [kB, e1]) (by omega)]
    have e2 := told3 r (k + 1) h h2 (by omega) (by omega)
    have e3 := same91 (.int (cnt r (k + 1)).1) ((Okd.i _).up (by decide))
    have e4 : (((rowsL (edg r k)).filter (lover r)).length : Int) = (cnt r (k + 1)).1 := f3.1
    have e5 : ((k + 1 : Nat) : Int) = (k : Int) + 1 := by omega
    rw [e5] at e2
    have e6 : ((rowsL (edg r k)).filter (lover r)).length ≤ (rowsL (edg r k)).length := List.length_filter_le ..
    simp_all! [e2, e3, e4]
    rw [← List.map_append]
    exact hP _ _ _ rfl rfl
end K91

set_option Elab.async false
set_option linter.all false
set_option maxRecDepth 100000
set_option maxHeartbeats 4000000
namespace K91
open PySem PySem.Spec PyProof.Rows L2 PV

def p0 : MS := mSet 1 (mCall den__law_draws (aCons (mVar 0) (aNil)))
def p1 : MS := mAsgT (gTp 2 (gCn (gNm 10) (gCn (gNm 11) (gNl)))) (mTup (aCons (mBin gAdd (mC (.int 1)) (mCall den__law_take (aCons (mVar 1) (aCons (mC (.int 5)) (aNil))))) (aCons (mBin gAdd (mC (.int 1)) (mCall den__law_take (aCons (mVar 1) (aCons (mC (.int 4)) (aNil))))) (aNil))))
def p2 : MS := mPar2 12 13 (mLst (aNil)) (mLst (aCons (mTup (aNil)) (aNil)))
def p3 : MS := mFor (iRange (aCons (mBin gIx (mLst (aCons (mC (.int 7)) (aCons (mC (.int 9)) (aNil)))) (mCallB (g1 gIntD) (aCons (mBin gEq (mCall den__law_take (aCons (mVar 1) (aCons (mC (.int 5)) (aNil)))) (mC (.int 0))) (aNil)))) (aNil))) (gNm 2) (mSeq (mSet 14 (mLst (aNil))) (mSeq (mFor (iSeq (mVar 13)) (gNm 15) (mSet 14 (mBin gAdd (mVar 14) (mLc [17] (iSeq (mTup (aCons (mC (.bool true)) (aCons (mC (.bool false)) (aNil))))) (gNm 17) (mYes) (mBin gAdd (mVar 15) (mTup (aCons (mVar 17) (aNil)))))))) (mSeq (mSet 16 (mLc [15] (iSeq (mVar 14)) (gNm 15) (mTru (mCall den__law_over (aCons (mVar 10) (aCons (mVar 15) (aNil))))) (mVar 15))) (mSeq (mSet 13 (mLc [15] (iSeq (mVar 14)) (gNm 15) (mNot (mTru (mCall den__law_over (aCons (mVar 10) (aCons (mVar 15) (aNil)))))) (mVar 15))) (mSeq (mIfS (mNot (mTru (mCall (den__law_same fuel__law_same) (aCons (mCall den__law_told (aCons (mC (.int 3)) (aCons (mVar 10) (aCons (mBin gAdd (mVar 2) (mC (.int 1))) (aNil))))) (aCons (mCallB (g1 gLenD) (aCons (mVar 16) (aNil))) (aNil)))))) (mRet (mC (.bool false))) (sNx)) (mSet 12 (mBin gAdd (mVar 12) (mVar 16))))))))
def p4 : MS := mSet 3 (mIf (mTB (mBin gNe (mVar 12) (mLst (aNil)))) (mLst (aCons (mBin gIx (mVar 12) (mCall den__law_take (aCons (mVar 1) (aCons (mCallB (g1 gLenD) (aCons (mVar 12) (aNil))) (aNil))))) (aNil))) (mLst (aNil)))
def p5 : MS := mFor (iRange (aCons (mC (.int 4)) (aNil))) (gNm 4) (mSeq (mSet 6 (mTup (aNil))) (mSeq (mWhile fuel_law_0 (mAnd (mTB (mBin gLt (mCallB (g1 gLenD) (aCons (mVar 6) (aNil))) (mC (.int 40)))) (mNot (mTru (mCall den__law_over (aCons (mVar 10) (aCons (mVar 6) (aNil))))))) (mSet 6 (mBin gAdd (mVar 6) (mTup (aCons (mBin gGt (mCall den__law_take (aCons (mVar 1) (aCons (mBin gAdd (mVar 11) (mC (.int 1))) (aNil)))) (mC (.int 0))) (aNil)))))) (mExp (mMut 3 "list" gAppend (aCons (mVar 6) (aNil))))))
def p6 : MS := mSet 5 (mTup (aNil))
def p7 : MS := mWhile fuel_law_1 (mTB (mBin gLt (mCallB (g1 gLenD) (aCons (mVar 5) (aNil))) (mC (.int 38)))) (mSeq (mSet 17 (mBin gEq (mCall den__law_take (aCons (mVar 1) (aCons (mC (.int 2)) (aNil)))) (mC (.int 0)))) (mSet 5 (mBin gAdd (mVar 5) (mTup (aCons (mVar 17) (aCons (mVar 17) (aNil)))))))
def p8 : MS := mSet 3 (mBin gAdd (mVar 3) (mLst (aCons (mBin gAdd (mVar 5) (mTup (aCons (mC (.bool true)) (aCons (mC (.bool false)) (aNil))))) (aCons (mBin gAdd (mVar 5) (mTup (aCons (mC (.bool false)) (aCons (mC (.bool true)) (aNil))))) (aCons (mBin gMul (mTup (aCons (mC (.bool true)) (aCons (mC (.bool false)) (aNil)))) (mVar 10)) (aCons (mBin gMul (mTup (aCons (mC (.bool false)) (aNil))) (mC (.int 40))) (aNil)))))))
def p9 : MS := mFor (iSeq (mVar 3)) (gNm 6) (mSeq (mSet 18 (mCall den__law_after (aCons (mVar 10) (aCons (mVar 6) (aNil))))) (mSeq (mSet 19 (mBin gEq (mVar 18) (mCallB (g1 gLenD) (aCons (mVar 6) (aNil))))) (mSeq (mSet 20 (mCallB (g1 gTupleD) (aCons (mLc [17] (iSeq (mVar 6)) (gNm 17) (mYes) (mNotV (mVar 17))) (aNil)))) (mSeq (mIfS (mNot (mTru (mCall (den__law_same fuel__law_same) (aCons (mLst (aCons (mCall den__law_told (aCons (mC (.int 0)) (aCons (mVar 10) (aCons (mVar 6) (aNil))))) (aCons (mCall den__law_told (aCons (mC (.int 1)) (aCons (mVar 10) (aCons (mVar 6) (aNil))))) (aCons (mCall den__law_told (aCons (mC (.int 1)) (aCons (mVar 10) (aCons (mVar 20) (aNil))))) (aNil))))) (aCons (mLst (aCons (mVar 18) (aCons (mVar 19) (aCons (mVar 19) (aNil))))) (aNil)))))) (mRet (mC (.bool false))) (sNx)) (mSeq (mIfS (mTru (mVar 19)) (mSeq (mSet 23 (mCallB (g1 gIntD) (aCons (mBin gGt (mRead "tuple" gCntT (mSl3 (mVar 6) (oSo (mC (.int 1))) (oNo) (oSo (mC (.int 2)))) (aCons (mC (.bool true)) (aNil))) (mRead "tuple" gCntT (mSl3 (mVar 6) (oNo) (oNo) (oSo (mC (.int 2)))) (aCons (mC (.bool true)) (aNil)))) (aNil)))) (mIfS (mNot (mTru (mCall (den__law_same fuel__law_same) (aCons (mLst (aCons (mCall den__law_told (aCons (mC (.int 2)) (aCons (mVar 10) (aCons (mVar 6) (aNil))))) (aCons (mCall den__law_told (aCons (mC (.int 2)) (aCons (mVar 10) (aCons (mVar 20) (aNil))))) (aNil)))) (aCons (mLst (aCons (mVar 23) (aCons (mBin gSub (mC (.int 1)) (mVar 23)) (aNil)))) (aNil)))))) (mRet (mC (.bool false))) (sNx))) (sNx)) (mSeq (mSet 21 (mSl (mVar 6) (oNo) (oSo (mCall den__law_take (aCons (mVar 1) (aCons (mCallB (g1 gLenD) (aCons (mVar 6) (aNil))) (aNil))))))) (mSeq (mSet 22 (mBin gAdd (mSl (mVar 6) (oNo) (oSo (mC (.int 39)))) (mTup (aCons (mBin gEq (mCall den__law_take (aCons (mVar 1) (aCons (mC (.int 2)) (aNil)))) (mC (.int 0))) (aNil))))) (mSeq (mSet 18 (mLst (aCons (mAndV (mBin gNe (mVar 21) (mTup (aNil))) (mBin gEq (mCall den__law_after (aCons (mVar 10) (aCons (mVar 21) (aNil)))) (mCallB (g1 gLenD) (aCons (mVar 21) (aNil))))) (aCons (mBin gEq (mCall den__law_after (aCons (mVar 10) (aCons (mVar 22) (aNil)))) (mCallB (g1 gLenD) (aCons (mVar 22) (aNil)))) (aCons (mCall den__law_after (aCons (mVar 10) (aCons (mVar 22) (aNil)))) (aNil)))))) (mIfS (mNot (mTru (mCall (den__law_same fuel__law_same) (aCons (mLst (aCons (mCall den__law_told (aCons (mC (.int 1)) (aCons (mVar 10) (aCons (mVar 21) (aNil))))) (aCons (mCall den__law_told (aCons (mC (.int 1)) (aCons (mVar 10) (aCons (mVar 22) (aNil))))) (aCons (mCall den__law_told (aCons (mC (.int 0)) (aCons (mVar 10) (aCons (mVar 22) (aNil))))) (aNil))))) (aCons (mVar 18) (aNil)))))) (mRet (mC (.bool false))) (sNx))))))))))
def p10 : MS := mFor (iSeq (mLst (aCons (mC (.int 1)) (aCons (mBin gAdd (mC (.int 1)) (mCall den__law_take (aCons (mVar 1) (aCons (mBin gSub (mC (.int 20)) (mVar 10)) (aNil))))) (aCons (mBin gSub (mC (.int 20)) (mVar 10)) (aNil)))))) (gNm 7) (mIfS (mOr (mNot (mTru (mCall (den__law_same fuel__law_same) (aCons (mCall den__law_told (aCons (mC (.int 3)) (aCons (mVar 10) (aCons (mBin gMul (mC (.int 2)) (mBin gAdd (mVar 10) (mVar 7))) (aNil))))) (aCons (mBin gMul (mBin gMul (mC (.int 2)) (mCall den__law_choices (aCons (mBin gMul (mC (.int 2)) (mVar 10)) (aCons (mVar 10) (aNil))))) (mBin gShl (mC (.int 1)) (mBin gSub (mVar 7) (mC (.int 1))))) (aNil)))))) (mAnd (mTB (mBin gLt (mVar 7) (mBin gSub (mC (.int 20)) (mVar 10)))) (mTB (mBin gNe (mCall den__law_told (aCons (mC (.int 3)) (aCons (mVar 10) (aCons (mBin gAdd (mBin gMul (mC (.int 2)) (mBin gAdd (mVar 10) (mVar 7))) (mC (.int 1))) (aNil))))) (mC (.int 0)))))) (mRet (mC (.bool false))) (sNx))
def p11 : MS := mSet 8 (mBin gAdd (mLc [24] (iRange (aCons (mC (.int 3)) (aNil))) (gNm 24) (mYes) (mCall den__law_told (aCons (mVar 24) (aCons (mC (.int 0)) (aCons (mTup (aCons (mC (.bool true)) (aNil))) (aNil)))))) (mLc [24] (iRange (aCons (mC (.int 3)) (aNil))) (gNm 24) (mYes) (mCall den__law_told (aCons (mVar 24) (aCons (mC (.int 6)) (aCons (mTup (aCons (mC (.bool true)) (aNil))) (aNil)))))))
def p12 : MS := mIfS (mTB (mBin gNe (mBin gAdd (mVar 8) (mLst (aCons (mCall den__law_told (aCons (mC (.int 3)) (aCons (mC (.int 0)) (aCons (mC (.int 5)) (aNil))))) (aCons (mCall den__law_told (aCons (mC (.int 3)) (aCons (mC (.int 6)) (aCons (mC (.int 5)) (aNil))))) (aCons (mCall den__law_told (aCons (mC (.int 3)) (aCons (mC (.int 5)) (aCons (mC (.int 0)) (aNil))))) (aCons (mCall den__law_told (aCons (mC (.int 3)) (aCons (mC (.int 5)) (aCons (mC (.int 41)) (aNil))))) (aNil))))))) (mBin gMul (mLst (aCons (mC (.str "range")) (aNil))) (mC (.int 10))))) (mRet (mC (.bool false))) (sNx)
def p13 : MS := mSet 9 (mLst (aCons (mTup (aNil)) (aCons (mLst (aCons (mC (.bool true)) (aCons (mC (.bool false)) (aNil)))) (aCons (mTup (aCons (mC (.int 1)) (aCons (mC (.int 0)) (aNil)))) (aCons (mTup (aCons (mC .none) (aNil))) (aCons (mTup (aCons (mC (.str "x")) (aNil))) (aCons (mBin gMul (mTup (aCons (mC (.bool true)) (aCons (mC (.bool false)) (aNil)))) (mC (.int 21))) (aCons (mC .none) (aCons (mC (.str "kicks")) (aNil))))))))))
def p14 : MS := mRet (mBin gEq (mLc [25] (iSeq (mVar 9)) (gNm 25) (mTB (mBin gIsNot (mCall den_is_shootout (aCons (mC (.int 1)) (aCons (mVar 25) (aNil)))) (mC (.bool false)))) (mVar 25)) (mLst (aNil)))
theorem law_parts : m_law = mSeq p0 (mSeq p1 (mSeq p2 (mSeq p3 (mSeq p4 (mSeq p5 (mSeq p6 (mSeq p7 (mSeq p8 (mSeq p9 (mSeq p10 (mSeq p11 (mSeq p12 (mSeq p13 (p14)))))))))))))) := rfl
theorem ph0 (a : PV.Arg) (S : Slot) (ns : List Int) (ha : (a = .sh (.list (ns.map .int)) ∧ S = .sh (.list (ns.map .int))) ∨ (a = .lk (.list (ns.map .int)) ∧ S = .lk true (.list (ns.map .int)))) (hl : ns.length ≤ 63) (N : Nat) (hN : N ≤ 100000000) (hN1 : 31 ≤ N) (hb : ∀ n ∈ ns, n.natAbs < 2 ^ N) : ∃ ds : List Int, p0 [S, .un, .un, .un, .un, .un, .un, .un, .un, .un, .un, .un, .un, .un, .un, .un, .un, .un, .un, .un, .un, .un, .un, .un, .un, .un] = .ok .nx [S, .ow false (.list (ds.map .int)), .un, .un, .un, .un, .un, .un, .un, .un, .un, .un, .un, .un, .un, .un, .un, .un, .un, .un, .un, .un, .un, .un, .un, .un] := by
  obtain ⟨ds, hd⟩ := draws_ok a ns (by rcases ha with ⟨h, _⟩ | ⟨h, _⟩ <;> simp [h]) (by omega) N hN hN1 hb
  have hd : den__law_draws [a] = .ok (.nw (.list (ds.map .int))) [none] := hd
  refine ⟨ds, ?_⟩
  unfold p0
  rcases ha with ⟨rfl, rfl⟩ | ⟨rfl, rfl⟩ <;> simp_arith [hd]
theorem ph1 (S : Slot) (ds : List Int) : ∃ (ds' : List Int) (r share : Nat), 1 ≤ r ∧ r ≤ 5 ∧ 1 ≤ share ∧ share ≤ 4 ∧ p1 [S, .ow false (.list (ds.map .int)), .un, .un, .un, .un, .un, .un, .un, .un, .un, .un, .un, .un, .un, .un, .un, .un, .un, .un, .un, .un, .un, .un, .un, .un] = .ok .nx [S, .ow false (.list (ds'.map .int)), .un, .un, .un, .un, .un, .un, .un, .un, .sh (.int r), .sh (.int share), .un, .un, .un, .un, .un, .un, .un, .un, .un, .un, .un, .un, .un, .un] := by
  have h1 := tk_lt ds (b := 5) (by decide)
  have h2 := tk_lt (tk ds 5).2 (b := 4) (by decide)
  refine ⟨(tk (tk ds 5).2 4).2, (1 + (tk ds 5).1).toNat, (1 + (tk (tk ds 5).2 4).1).toNat, by omega, by omega, by omega, by omega, ?_⟩
  have e1 : (((1 + (tk ds 5).1).toNat : Nat) : Int) = 1 + (tk ds 5).1 := by omega
  have e2 : (((1 + (tk (tk ds 5).2 4).1).toNat : Nat) : Int) = 1 + (tk (tk ds 5).2 4).1 := by omega
  unfold p1
  rw [e1, e2]
  simp_arith [take91]
theorem ph2 (S : Slot) (ds : List Int) (r share : Nat) : p2 [S, .ow false (.list (ds.map .int)), .un, .un, .un, .un, .un, .un, .un, .un, .sh (.int r), .sh (.int share), .un, .un, .un, .un, .un, .un, .un, .un, .un, .un, .un, .un, .un, .un] = .ok .nx [S, .ow false (.list (ds.map .int)), .un, .un, .un, .un, .un, .un, .un, .un, .sh (.int r), .sh (.int share), .ow false (.list []), .ow false (.list [kB []]), .un, .un, .un, .un, .un, .un, .un, .un, .un, .un, .un, .un] := by
  unfold p2
  simp_arith [kB]
theorem ph3 (S : Slot) (ds : List Int) (r share : Nat) (h : 1 ≤ r) (h2 : r ≤ 5) : Sat (p3 [S, .ow false (.list (ds.map .int)), .un, .un, .un, .un, .un, .un, .un, .un, .sh (.int r), .sh (.int share), .ow false (.list []), .ow false (.list [kB []]), .un, .un, .un, .un, .un, .un, .un, .un, .un, .un, .un, .un]) (fun fl e => fl = .nx ∧ ∃ (ds' : List Int) (o2 o15 : Option D) (s13 s14 s16 : Slot) (rows : List (List Bool)), e = [S, .ow false (.list (ds'.map .int)), jk o2, .un, .un, .un, .un, .un, .un, .un, .sh (.int r), .sh (.int share), .ow false (.list (rows.map kB)), s13, s14, jk o15, s16, .un, .un, .un, .un, .un, .un, .un, .un, .un] ∧ rows.length ≤ 9000 ∧ ∀ x ∈ rows, 1 ≤ x.length ∧ x.length ≤ 9) := by
  obtain ⟨N, hN, ds', hr⟩ : ∃ N : Nat, N ≤ 9 ∧ ∃ ds' : List Int, iRange (aCons (mBin gIx (mLst (aCons (mC (.int 7)) (aCons (mC (.int 9)) (aNil)))) (mCallB (g1 gIntD) (aCons (mBin gEq (mCall den__law_take (aCons (mVar 1) (aCons (mC (.int 5)) (aNil)))) (mC (.int 0))) (aNil)))) (aNil)) [S, .ow false (.list (ds.map .int)), .un, .un, .un, .un, .un, .un, .un, .un, .sh (.int r), .sh (.int share), .ow false (.list []), .ow false (.list [kB []]), .un, .un, .un, .un, .un, .un, .un, .un, .un, .un, .un, .un] = .ok ((rngI 0 N).map .int, none) [S, .ow false (.list (ds'.map .int)), .un, .un, .un, .un, .un, .un, .un, .un, .sh (.int r), .sh (.int share), .ow false (.list []), .ow false (.list [kB []]), .un, .un, .un, .un, .un, .un, .un, .un, .un, .un, .un, .un] := by
    have e0 : L2.atI [PyData.int 7, PyData.int 9] (oneIf ((tk ds 5).1 == 0)) = some (if ((tk ds 5).1 == 0) = true then .int 9 else .int 7) := by
      cases (tk ds 5).1 == 0 <;> rfl
    by_cases z : ((tk ds 5).1 == 0) = true
    · refine ⟨9, by decide, (tk ds 5).2, ?_⟩
      rw [if_pos z] at e0
      simp_arith [take91, e0]
    · refine ⟨7, by decide, (tk ds 5).2, ?_⟩
      rw [if_neg z] at e0
      simp_arith [take91, e0]
  unfold p3
  refine sat_for hr ?_
  have ha : ∀ i, i ≤ 9 → (allD r i).length ≤ 1000 * i := fun i => by
    induction i with
    | zero => intro _; simp [allD]
    | succ i ih =>
      intro hi
      have a := ih (by omega)
      have b := ((fact r h h2).2.2 i (by omega)).2
      have c : (don r i).length ≤ (rowsL (edg r i)).length := List.length_filter_le ..
      unfold allD
      rw [List.length_append]
      omega
  refine loop_rng (fun i e => ∃ (o2 o15 : Option D) (s14 s16 : Slot), e = [S, .ow false (.list (ds'.map .int)), jk o2, .un, .un, .un, .un, .un, .un, .un, .sh (.int r), .sh (.int share), .ow false (.list ((allD r i).map kB)), .ow false (.list ((edg r i).map kB)), s14, jk o15, s16, .un, .un, .un, .un, .un, .un, .un, .un, .un] ∧ okSl s14 = true ∧ okSl s16 = true) ?_ ?_ ⟨none, none, .un, .un, rfl, rfl, rfl⟩
  · rintro i e hi ⟨o2, o15, s14, s16, rfl, h14, h16⟩
    rw [Int.zero_add]
    dsimp!
    have ai := ha i (by omega)
    refine body1 r i S (ds'.map .int) .un .un .un .un .un .un .un .un (.sh (.int share)) s14 s16 .un .un .un .un .un .un .un .un o15 none h h2 (by omega) (by omega) h14 h16 _ fun s14' s16' o15' a b => ?_
    exact ⟨some _, o15', s14', s16', rfl, a, b⟩
  · rintro e ⟨o2, o15, s14, s16, rfl, h14, h16⟩
    have ai := ha N hN
    exact ⟨rfl, ds', o2, o15, _, s14, s16, allD r N, rfl, by omega, fun x hx => by have := allD_mem r N x hx; omega⟩
end K91

set_option Elab.async false
set_option linter.all false
set_option maxRecDepth 100000
set_option maxHeartbeats 4000000
namespace K91
open PySem PySem.Spec PyProof.Rows L2 PV

/-- good kicks -/
def gk (ks : List Bool) : Prop := 1 ≤ ks.length ∧ ks.length ≤ 40
theorem sh_kBs (xs : List (List Bool)) : SeqAt.shaped (.list (xs.map kB)) = true := by
  refine (Shd.lst (n := 1) fun d hd => ?_).sh (by decide)
  obtain ⟨x, _, rfl⟩ := List.mem_map.mp hd
  exact Shd.tup (n := 0) fun d hd => by obtain ⟨b, _, rfl⟩ := List.mem_map.mp hd; exact .bl b
theorem sh_kB (x : List Bool) : SeqAt.shaped (kB x) = true := (Shd.tup (n := 0) fun d hd => by obtain ⟨b, _, rfl⟩ := List.mem_map.mp hd; exact .bl b).sh (by decide)
theorem sh_nilL : SeqAt.shaped (.list []) = true := by decide
theorem sh_nilT : SeqAt.shaped (.tuple []) = true := by decide
theorem ph4 (S : Slot) (ds : List Int) (rows : List (List Bool)) (s2 s4 s5 s6 s7 s8 s9 s10 s11 s13 s14 s15 s16 s17 s18 s19 s20 s21 s22 s23 s24 s25 : Slot) (hz : rows.length ≤ 9000) (hr : ∀ x ∈ rows, 1 ≤ x.length ∧ x.length ≤ 9) : ∃ (ds' : List Int) (sm : List (List Bool)), p4 [S, .ow false (.list (ds.map .int)), s2, .un, s4, s5, s6, s7, s8, s9, s10, s11, .ow false (.list (rows.map kB)), s13, s14, s15, s16, s17, s18, s19, s20, s21, s22, s23, s24, s25] = .ok .nx [S, .ow false (.list (ds'.map .int)), s2, .ow false (.list (sm.map kB)), s4, s5, s6, s7, s8, s9, s10, s11, .ow false (.list (rows.map kB)), s13, s14, s15, s16, s17, s18, s19, s20, s21, s22, s23, s24, s25] ∧ sm.length ≤ 1 ∧ ∀ x ∈ sm, gk x := by
  unfold p4
  cases rows with
  | nil =>
    refine ⟨ds, [], ?_, by simp, by simp⟩
    simp_arith [sh_nilL, eqv_ll, eqvAll_nil]
  | cons x xs =>
    have e1 : SeqAt.shaped (.list ((x :: xs).map kB)) = true := sh_kBs _
    have l0 : (0 : Int) < ((x :: xs).map kB).length := by simp <;> omega
    have h1 := tk_lt ds l0
    obtain ⟨y, hy⟩ : ∃ y, (x :: xs)[(tk ds ((x :: xs).map kB).length).1.toNat]? = some y := ⟨_, List.getElem?_eq_getElem (by have a := h1.1; have b := h1.2; simp only [List.length_map] at a b ⊢ <;> omega)⟩
    have hm := hr y (List.mem_of_getElem? hy)
    refine ⟨(tk ds ((x :: xs).map kB).length).2, [y], ?_, by simp, fun z hz => by simp at hz; subst hz; exact ⟨hm.1, by omega⟩⟩
    have e2 := take91 ds l0
    have e3 : L2.atI ((x :: xs).map kB) (tk ds ((x :: xs).map kB).length).1 = some (kB y) := by
      rw [atI_at h1.1 h1.2, List.getElem?_map, hy]; rfl
    generalize hL : (x :: xs).map kB = Lx at *
    have e4 : Lx = kB x :: xs.map kB := by rw [← hL]; rfl
    have e5 : PyData.eqvAll Lx [] = false := by rw [e4, eqvAll_cn]
    simp_arith [e1, sh_nilL, eqv_ll, e5, e2, e3]
theorem lover_nil (r : Nat) (h : 1 ≤ r) : lover r [] = false := by
  unfold lover
  simp [evs, ods, ct_nil]
theorem ph5 (S : Slot) (ds : List Int) (sm : List (List Bool)) (r share : Nat) (s2 s5 s7 s8 s9 s12 s13 s14 s15 s16 s17 s18 s19 s20 s21 s22 s23 s24 s25 : Slot) (h : 1 ≤ r) (h2 : r ≤ 5) (hz : sm.length ≤ 1) (hr : ∀ x ∈ sm, gk x) : Sat (p5 [S, .ow false (.list (ds.map .int)), s2, .ow false (.list (sm.map kB)), .un, s5, .un, s7, s8, s9, .sh (.int r), .sh (.int share), s12, s13, s14, s15, s16, s17, s18, s19, s20, s21, s22, s23, s24, s25]) (fun fl e => fl = .nx ∧ ∃ (ds : List Int) (o4 o6 : Option D) (sm : List (List Bool)), e = [S, .ow false (.list (ds.map .int)), s2, .ow false (.list (sm.map kB)), jk o4, s5, jk o6, s7, s8, s9, .sh (.int r), .sh (.int share), s12, s13, s14, s15, s16, s17, s18, s19, s20, s21, s22, s23, s24, s25] ∧ sm.length ≤ 5 ∧ ∀ x ∈ sm, gk x) := by
  unfold p5
  have rg : ∀ e, iRange (aCons (mC (.int 4)) aNil) e = .ok ((rngI 0 4).map .int, none) e := fun e => by simp_arith
  refine sat_for (rg _) ?_
  refine loop_rng (fun i e => ∃ (ds : List Int) (o4 o6 : Option D) (sm : List (List Bool)), e = [S, .ow false (.list (ds.map .int)), s2, .ow false (.list (sm.map kB)), jk o4, s5, jk o6, s7, s8, s9, .sh (.int r), .sh (.int share), s12, s13, s14, s15, s16, s17, s18, s19, s20, s21, s22, s23, s24, s25] ∧ sm.length ≤ 1 + i ∧ ∀ x ∈ sm, gk x) ?_ ?_ ⟨ds, none, none, sm, rfl, hz, hr⟩
  · rintro i e hi ⟨ds, o4, o6, sm0, rfl, hz, hr⟩
    dsimp!
    rw [show Slot.sh (.int (0 + (i : Int))) = jk (some (.int (0 + (i : Int)))) from rfl]
    generalize (Option.some (PyData.int (0 + (i : Int)))) = o4
    refine sat_seq_eq (e1 := [S, .ow false (.list (ds.map .int)), s2, .ow false (.list (sm0.map kB)), jk o4, s5, .sh (kB []), s7, s8, s9, .sh (.int r), .sh (.int share), s12, s13, s14, s15, s16, s17, s18, s19, s20, s21, s22, s23, s24, s25]) (by simp_arith [kB] <;> rfl) ?_
    refine sat_seq (sat_while (fun n e => ∃ (ds : List Int) (ks : List Bool), e = [S, .ow false (.list (ds.map .int)), s2, .ow false (.list (sm0.map kB)), jk o4, s5, .sh (kB ks), s7, s8, s9, .sh (.int r), .sh (.int share), s12, s13, s14, s15, s16, s17, s18, s19, s20, s21, s22, s23, s24, s25] ∧ ks.length ≤ 40 ∧ n = 40 - ks.length) ?_ 40 ⟨ds, [], rfl, by simp, by simp⟩ (by unfold fuel_law_0; omega))
    · rintro n e ⟨ds, ks, rfl, hk, hn⟩
      have eo := over_eq r ks (by omega) (by omega) (by omega)
      refine ⟨decide ((ks.length : Int) < 40) && !lover r ks, [S, .ow false (.list (ds.map .int)), s2, .ow false (.list (sm0.map kB)), jk o4, s5, .sh (kB ks), s7, s8, s9, .sh (.int r), .sh (.int share), s12, s13, s14, s15, s16, s17, s18, s19, s20, s21, s22, s23, s24, s25], ?_, ?_, ?_⟩
      · by_cases z : (ks.length : Int) < 40
        · simp_arith [kB, eo]
        · simp_arith [kB, eo]
      · intro hc
        rw [thn_nx]
        have hg : gk ks := by
          refine ⟨?_, hk⟩
          cases ks with
          | nil => rw [lover_nil r h] at hc; simp at hc
          | cons x xs => simp
        simp_all! [kB]
        refine ⟨ds, o4, Option.some (kB ks), sm0 ++ [ks], by simp [kB, jk], by simp; omega, fun x hx => ?_⟩
        rcases List.mem_append.mp hx with hx | hx
        · exact hr x hx
        · simp at hx; subst hx; exact hg
      · intro hc
        rw [Bool.and_eq_true, decide_eq_true_eq] at hc
        refine ⟨n - 1, by omega, ?_⟩
        have t1 := tk_lt ds (b := (share : Int) + 1) (by omega)
        simp_all! [kB, take91]
        exact ⟨(tk ds ((share : Int) + 1)).2, ks ++ [decide (0 < (tk ds ((share : Int) + 1)).1)], by simp [kB], by simp; omega, by simp; omega⟩
  · rintro e ⟨ds, o4, o6, sm, rfl, hz, hr⟩
    exact ⟨rfl, ds, o4, o6, sm, rfl, by omega, hr⟩
end K91

set_option Elab.async false
set_option linter.all false
set_option maxRecDepth 100000
set_option maxHeartbeats 4000000
namespace K91
open PySem PySem.Spec PyProof.Rows L2 PV

theorem ph6 (S : Slot) (ds : List Int) (s2 s3 s4 s6 s7 s8 s9 s10 s11 s12 s13 s14 s15 s16 s18 s19 s20 s21 s22 s23 s24 s25 : Slot) : p6 [S, .ow false (.list (ds.map .int)), s2, s3, s4, .un, s6, s7, s8, s9, s10, s11, s12, s13, s14, s15, s16, .un, s18, s19, s20, s21, s22, s23, s24, s25] = .ok .nx [S, .ow false (.list (ds.map .int)), s2, s3, s4, .sh (kB []), s6, s7, s8, s9, s10, s11, s12, s13, s14, s15, s16, .un, s18, s19, s20, s21, s22, s23, s24, s25] := by
  unfold p6
  simp_arith [kB]
theorem ph7 (S : Slot) (ds : List Int) (s2 s3 s4 s6 s7 s8 s9 s10 s11 s12 s13 s14 s15 s16 s18 s19 s20 s21 s22 s23 s24 s25 : Slot) : Sat (p7 [S, .ow false (.list (ds.map .int)), s2, s3, s4, .sh (kB []), s6, s7, s8, s9, s10, s11, s12, s13, s14, s15, s16, .un, s18, s19, s20, s21, s22, s23, s24, s25]) (fun fl e => fl = .nx ∧ ∃ (ds' : List Int) (ks : List Bool) (o17 : Option D), e = [S, .ow false (.list (ds'.map .int)), s2, s3, s4, .sh (kB ks), s6, s7, s8, s9, s10, s11, s12, s13, s14, s15, s16, jk o17, s18, s19, s20, s21, s22, s23, s24, s25] ∧ ks.length = 38) := by
  unfold p7
  refine sat_while (fun n e => ∃ (ds : List Int) (ks : List Bool) (o17 : Option D), e = [S, .ow false (.list (ds.map .int)), s2, s3, s4, .sh (kB ks), s6, s7, s8, s9, s10, s11, s12, s13, s14, s15, s16, jk o17, s18, s19, s20, s21, s22, s23, s24, s25] ∧ ks.length ≤ 38 ∧ ks.length % 2 = 0 ∧ n = 20 - ks.length / 2) ?_ 20 ⟨ds, [], none, rfl, by simp, by simp, by simp⟩ (by unfold fuel_law_1; omega)
  rintro n e ⟨ds, ks, o17, rfl, hk, h2, hn⟩
  refine ⟨decide ((ks.length : Int) < 38), [S, .ow false (.list (ds.map .int)), s2, s3, s4, .sh (kB ks), s6, s7, s8, s9, s10, s11, s12, s13, s14, s15, s16, jk o17, s18, s19, s20, s21, s22, s23, s24, s25], by simp_arith [kB], fun hc => ?_, fun hc => ?_⟩
  · simp only [decide_eq_false_iff_not] at hc
    exact ⟨rfl, ds, ks, o17, rfl, by omega⟩
  · rw [decide_eq_true_eq] at hc
    refine ⟨n - 1, by omega, ?_⟩
    simp_all! [kB, take91]
    exact ⟨(tk ds 2).2, ks ++ [(tk ds 2).1 == 0, (tk ds 2).1 == 0], some (.bool ((tk ds 2).1 == 0)), by simp [kB, jk], by simp; omega, by simp; omega, by simp; omega⟩
theorem ph8 (S : Slot) (r : Nat) (sm : List (List Bool)) (ks : List Bool) (s1 s2 s4 s6 s7 s8 s9 s11 s12 s13 s14 s15 s16 s17 s18 s19 s20 s21 s22 s23 s24 s25 : Slot) (h : 1 ≤ r) (h2 : r ≤ 5) (hz : sm.length ≤ 5) (hr : ∀ x ∈ sm, gk x) (hk : ks.length = 38) : ∃ sm' : List (List Bool), p8 [S, s1, s2, .ow false (.list (sm.map kB)), s4, .sh (kB ks), s6, s7, s8, s9, .sh (.int r), s11, s12, s13, s14, s15, s16, s17, s18, s19, s20, s21, s22, s23, s24, s25] = .ok .nx [S, s1, s2, .ow false (.list (sm'.map kB)), s4, .sh (kB ks), s6, s7, s8, s9, .sh (.int r), s11, s12, s13, s14, s15, s16, s17, s18, s19, s20, s21, s22, s23, s24, s25] ∧ sm'.length ≤ 9 ∧ ∀ x ∈ sm', gk x := by
  have m1 : gMul (.tuple [.bool true, .bool false]) (.int r) = some (.d (kB (List.replicate r [true, false]).flatten)) := by
    rw [gMul_tup (by omega) (by omega) (by simp)]
    simp [kB]
  have m2 : gMul (.tuple [.bool false]) (.int 40) = some (.d (kB (List.replicate 40 false))) := by
    rw [gMul_tup (by omega) (by omega) (by simp)]
    rfl
  have l1 : (List.replicate r [true, false]).flatten.length = 2 * r := by simp; omega
  refine ⟨sm ++ [ks ++ [true, false], ks ++ [false, true], (List.replicate r [true, false]).flatten, List.replicate 40 false], ?_, by simp; omega, fun x hx => ?_⟩
  · unfold p8
    have e1 : ∀ a b : Bool, gAdd (kB ks) (.tuple [.bool a, .bool b]) = some (.d (kB (ks ++ [a, b]))) := fun a b => by
      unfold kB
      rw [gAdd_tt (by simp; omega)]
      simp
    generalize hk1 : kB (List.replicate r [true, false]).flatten = K1 at m1
    generalize hk2 : kB (List.replicate 40 false) = K2 at m2
    generalize hk3 : kB ks = K3 at e1
    simp_arith [e1, m1, m2]
    rw [← hk1, ← hk2]
    simp
  · rcases List.mem_append.mp hx with hx | hx
    · exact hr x hx
    · simp at hx
      unfold gk
      rcases hx with rfl | rfl | rfl | rfl
      · simp; omega
      · simp; omega
      · rw [l1]; omega
      · simp
end K91

set_option Elab.async false
set_option linter.all false
set_option maxRecDepth 100000
set_option maxHeartbeats 4000000
namespace K91
open PySem PySem.Spec PyProof.Rows L2 PV

theorem oi_inj {a b : Option Nat} (h : oi a = oi b) : a = b := by
  cases a with
  | none => cases b with
    | none => rfl
    | some m => simp [oi] at h
  | some n => cases b with
    | none => simp [oi] at h
    | some m => simp only [oi, PyData.int.injEq, Int.ofNat_inj] at h; rw [h]
theorem dec_flip (r : Int) (ks : List Bool) : dec r (ks.map fun x => !x).zipIdx 0 0 = dec r ks.zipIdx 0 0 := oi_inj (by rw [dec_aft, dec_aft, aft_flip])
/-- it is over just behind the last one -/
def rt (r : Int) (ks : List Bool) : Bool := dec r ks.zipIdx 0 0 == some ks.length
theorem rt_flip (r : Int) (ks : List Bool) : rt r (ks.map fun x => !x) = rt r ks := by
  unfold rt
  rw [dec_flip, List.length_map]
theorem shoot_gk (r : Int) (ks : List Bool) (h : gk ks) : shoot r ks = rt r ks := by
  unfold shoot rt
  rw [decide_eq_true h.1, decide_eq_true h.2]
  simp
theorem gk_flip {ks : List Bool} (h : gk ks) : gk (ks.map fun x => !x) := by
  unfold gk
  rw [List.length_map]
  exact h
theorem rt_over {r : Int} {ks : List Bool} (h : rt r ks = true) : lover r ks = true := by
  unfold rt at h
  have h := eq_of_beq h
  have e := dec_aft r ks
  rw [h] at e
  unfold aft at e
  cases z : ((rngI 1 ks.length).filter fun k => lover r (ks.take k.toNat)).head? with
  | none => rw [z] at e; simp [oi, oI] at e
  | some k =>
    rw [z] at e
    simp [oi, oI] at e
    have := (List.mem_filter.mp (List.mem_of_mem_head? z)).2
    rw [show k.toNat = ks.length by omega, List.take_length] at this
    exact this
theorem win_flip {r : Int} {ks : List Bool} (h1 : 1 ≤ r) (h : lover r ks = true) : oneIf (decide (ct (evs (ks.map fun x => !x)) < ct (ods (ks.map fun x => !x)))) = 1 - oneIf (decide (ct (evs ks) < ct (ods ks))) := by
  have e1 : ∀ xs : List Bool, ct (xs.map fun x => !x) = (xs.length : Int) - ct xs := fun xs => by
    induction xs with
    | nil => rfl
    | cons x xs ih =>
      rw [List.map_cons, ct_cons, ct_cons, ih, List.length_cons]
      cases x <;> simp [oneIf] <;> omega
  rw [evs_map, ods_map, e1, e1]
  have l1 := evs_len ks
  have l2 := ods_len ks
  have key : decide (((evs ks).length : Int) - ct (evs ks) < ((ods ks).length : Int) - ct (ods ks)) = !decide (ct (evs ks) < ct (ods ks)) := by
    rw [Bool.eq_iff_iff]
    simp only [decide_eq_true_eq, Bool.not_eq_true', decide_eq_false_iff_not]
    unfold lover at h
    by_cases z : 2 * r < (ks.length : Int)
    · rw [if_pos z] at h
      simp only [Bool.and_eq_true, beq_iff_eq, Bool.not_eq_true', beq_eq_false_iff_ne, ne_eq] at h
      omega
    · rw [if_neg z] at h
      simp only [Bool.or_eq_true, decide_eq_true_eq] at h
      omega
  rw [key]
  cases decide (ct (evs ks) < ct (ods ks)) <;> rfl
theorem after' (r : Int) (ks : List Bool) (h : 1 ≤ r) (h2 : r ≤ 5) (hl : ks.length ≤ 1000) : den__law_after [.sh (.int r), .sh (kB ks)] = .ok (.d (oi (dec r ks.zipIdx 0 0))) [none, none] := by
  rw [dec_aft]
  exact after_eq r ks h h2 hl
theorem okd_oi (o : Option Nat) : Okd 0 (oi o) := by cases o <;> trivial
theorem eqv_tn (x : List Bool) : PyData.eqv (kB x) (.tuple []) = x.isEmpty := by
  unfold kB
  rw [eqv_tt]
  cases x with
  | nil => rw [List.map_nil, eqvAll_nil]; rfl
  | cons x xs => rw [List.map_cons, eqvAll_cn]; rfl
theorem shoot_cut (r : Int) (ks : List Bool) (h : ks.length ≤ 40) : shoot r ks = (!ks.isEmpty && rt r ks) := by
  unfold shoot rt
  rw [decide_eq_true h]
  cases ks with
  | nil => rfl
  | cons x xs => simp
theorem jk_some (d : D) : jk (some d) = .sh d := (rfl)
theorem gsl_od (ks : List Bool) (h : ks.length ≤ 40) : gSl3 (kB ks) (some 1) none (some 2) = some (.d (kB (ods ks))) := by
  unfold kB
  rw [gSl3_od (by rw [List.length_map]; omega), ods_map]
theorem gsl_ev (ks : List Bool) (h : ks.length ≤ 40) : gSl3 (kB ks) none none (some 2) = some (.d (kB (evs ks))) := by
  unfold kB
  rw [gSl3_ev (by rw [List.length_map]; omega), evs_map]
theorem ty_kB (ks : List Bool) : tyO "tuple" (some (kB ks)) = true := tyO_t _
theorem cnt_kB (ks : List Bool) : gCntT (kB ks) [.bool true] = some (.int (ct ks)) := cnt_b ks
theorem sl_kB (ks : List Bool) {i : Int} (h : 0 ≤ i) : gSl (kB ks) none (some i) = some (.d (kB (ks.take i.toNat))) := by
  unfold kB
  rw [gSl_t, cut_hi h, take_map']
theorem add_kB (ks : List Bool) (b : Bool) (h : ks.length ≤ 100) : gAdd (kB ks) (.tuple [.bool b]) = some (.d (kB (ks ++ [b]))) := by
  unfold kB
  rw [gAdd_tt (by simp; omega)]
  simp
def b9 : MS := mSeq (mSet 18 (mCall den__law_after (aCons (mVar 10) (aCons (mVar 6) (aNil))))) (mSeq (mSet 19 (mBin gEq (mVar 18) (mCallB (g1 gLenD) (aCons (mVar 6) (aNil))))) (mSeq (mSet 20 (mCallB (g1 gTupleD) (aCons (mLc [17] (iSeq (mVar 6)) (gNm 17) (mYes) (mNotV (mVar 17))) (aNil)))) (mSeq (mIfS (mNot (mTru (mCall (den__law_same fuel__law_same) (aCons (mLst (aCons (mCall den__law_told (aCons (mC (.int 0)) (aCons (mVar 10) (aCons (mVar 6) (aNil))))) (aCons (mCall den__law_told (aCons (mC (.int 1)) (aCons (mVar 10) (aCons (mVar 6) (aNil))))) (aCons (mCall den__law_told (aCons (mC (.int 1)) (aCons (mVar 10) (aCons (mVar 20) (aNil))))) (aNil))))) (aCons (mLst (aCons (mVar 18) (aCons (mVar 19) (aCons (mVar 19) (aNil))))) (aNil)))))) (mRet (mC (.bool false))) (sNx)) (mSeq (mIfS (mTru (mVar 19)) (mSeq (mSet 23 (mCallB (g1 gIntD) (aCons (mBin gGt (mRead "tuple" gCntT (mSl3 (mVar 6) (oSo (mC (.int 1))) (oNo) (oSo (mC (.int 2)))) (aCons (mC (.bool true)) (aNil))) (mRead "tuple" gCntT (mSl3 (mVar 6) (oNo) (oNo) (oSo (mC (.int 2)))) (aCons (mC (.bool true)) (aNil)))) (aNil)))) (mIfS (mNot (mTru (mCall (den__law_same fuel__law_same) (aCons (mLst (aCons (mCall den__law_told (aCons (mC (.int 2)) (aCons (mVar 10) (aCons (mVar 6) (aNil))))) (aCons (mCall den__law_told (aCons (mC (.int 2)) (aCons (mVar 10) (aCons (mVar 20) (aNil))))) (aNil)))) (aCons (mLst (aCons (mVar 23) (aCons (mBin gSub (mC (.int 1)) (mVar 23)) (aNil)))) (aNil)))))) (mRet (mC (.bool false))) (sNx))) (sNx)) (mSeq (mSet 21 (mSl (mVar 6) (oNo) (oSo (mCall den__law_take (aCons (mVar 1) (aCons (mCallB (g1 gLenD) (aCons (mVar 6) (aNil))) (aNil))))))) (mSeq (mSet 22 (mBin gAdd (mSl (mVar 6) (oNo) (oSo (mC (.int 39)))) (mTup (aCons (mBin gEq (mCall den__law_take (aCons (mVar 1) (aCons (mC (.int 2)) (aNil)))) (mC (.int 0))) (aNil))))) (mSeq (mSet 18 (mLst (aCons (mAndV (mBin gNe (mVar 21) (mTup (aNil))) (mBin gEq (mCall den__law_after (aCons (mVar 10) (aCons (mVar 21) (aNil)))) (mCallB (g1 gLenD) (aCons (mVar 21) (aNil))))) (aCons (mBin gEq (mCall den__law_after (aCons (mVar 10) (aCons (mVar 22) (aNil)))) (mCallB (g1 gLenD) (aCons (mVar 22) (aNil)))) (aCons (mCall den__law_after (aCons (mVar 10) (aCons (mVar 22) (aNil)))) (aNil)))))) (mIfS (mNot (mTru (mCall (den__law_same fuel__law_same) (aCons (mLst (aCons (mCall den__law_told (aCons (mC (.int 1)) (aCons (mVar 10) (aCons (mVar 21) (aNil))))) (aCons (mCall den__law_told (aCons (mC (.int 1)) (aCons (mVar 10) (aCons (mVar 22) (aNil))))) (aCons (mCall den__law_told (aCons (mC (.int 0)) (aCons (mVar 10) (aCons (mVar 22) (aNil))))) (aNil))))) (aCons (mVar 18) (aNil)))))) (mRet (mC (.bool false))) (sNx)))))))))
theorem p9_eq : p9 = mFor (iSeq (mVar 3)) (gNm 6) b9 := rfl
theorem body9 (S : Slot) (ds : List Int) (r : Nat) (ks : List Bool) (s2 s3 s4 s5 s7 s8 s9 s11 s12 s13 s14 s15 s16 s24 s25 : Slot) (o17 o19 o20 o21 o22 o23 : Option D) (s18 : Slot) (h18 : okSl s18 = true) (h : 1 ≤ r) (h2 : r ≤ 5) (hg : gk ks) : Sat (b9 [S, .ow false (.list (ds.map .int)), s2, s3, s4, s5, .sh (kB ks), s7, s8, s9, .sh (.int r), s11, s12, s13, s14, s15, s16, jk o17, s18, jk o19, jk o20, jk o21, jk o22, jk o23, s24, s25]) (fun fl e => fl = .nx ∧ ∃ (ds : List Int) (o17 o19 o20 o21 o22 o23 : Option D) (s18 : Slot), okSl s18 = true ∧ e = [S, .ow false (.list (ds.map .int)), s2, s3, s4, s5, .sh (kB ks), s7, s8, s9, .sh (.int r), s11, s12, s13, s14, s15, s16, jk o17, s18, jk o19, jk o20, jk o21, jk o22, jk o23, s24, s25]) := by
  have hl : ks.length ≤ 40 := hg.2
  have ea := after' r ks (by omega) (by omega) (by omega)
  have t0 := told0 r ks (by omega) (by omega)
  have t1 := told1 r ks (by omega) (by omega)
  have t1' := told1 r (ks.map fun x => !x) (by omega) (by omega)
  rw [shoot_gk r ks hg] at t1
  rw [shoot_gk r _ (gk_flip hg), rt_flip] at t1'
  change den__law_told [.sh (.int 0), .sh (.int r), .sh (kB ks)] = _ at t0
  change den__law_told [.sh (.int 1), .sh (.int r), .sh (kB ks)] = _ at t1
  change den__law_told [.sh (.int 1), .sh (.int r), .sh (kB (ks.map fun x => !x))] = _ at t1'
  have s1 := same91 (.list [oi (dec r ks.zipIdx 0 0), .bool (rt r ks), .bool (rt r ks)]) (Okd.up (n := 1) (Okd.l (by simp) (by simp [okd_oi, Okd.b])) (by decide))
  have lenk : gLenD (kB ks) = some (.d (.int ks.length)) := by simp [kB, gLenD]
  have right : PyData.eqv (oi (dec r ks.zipIdx 0 0)) (.int (ks.length : Int)) = rt r ks := eqv_oi _ _
  have wk : ∀ e, iSeq (mVar 6) e = (mVar 6 e).bind kW := fun e => ap_iSeq _ e
  have seqk : walk (.d (kB ks)) = fun e => some (ks.map PyData.bool, none) := rfl
  have tupk : ∀ (l : List Bool), gTupleD (.list (l.map PyData.bool)) = some (.d (kB l)) := fun l => rfl
  unfold b9
  refine sat_seq_eq (e1 := [S, .ow false (.list (ds.map .int)), s2, s3, s4, s5, .sh (kB ks), s7, s8, s9, .sh (.int r), s11, s12, s13, s14, s15, s16, jk o17, .sh (oi (dec r ks.zipIdx 0 0)), jk o19, jk o20, jk o21, jk o22, jk o23, s24, s25]) (by simp_arith [ea, h18]) ?_
  refine sat_seq_eq (e1 := [S, .ow false (.list (ds.map .int)), s2, s3, s4, s5, .sh (kB ks), s7, s8, s9, .sh (.int r), s11, s12, s13, s14, s15, s16, jk o17, .sh (oi (dec r ks.zipIdx 0 0)), .sh (.bool (rt r ks)), jk o20, jk o21, jk o22, jk o23, s24, s25]) (by simp_arith [lenk, sh_oi, right]) ?_
  refine sat_seq_eq (e1 := [S, .ow false (.list (ds.map .int)), s2, s3, s4, s5, .sh (kB ks), s7, s8, s9, .sh (.int r), s11, s12, s13, s14, s15, s16, jk o17, .sh (oi (dec r ks.zipIdx 0 0)), .sh (.bool (rt r ks)), .sh (kB (ks.map fun x => !x)), jk o21, jk o22, jk o23, s24, s25]) ?_ ?_
  · simp_arith [seqk]
    rw [lc_all (F := fun b => .bool (!b)) (fun x hx => by simp_arith) (by omega), show (ks.map fun b => PyData.bool (!b)) = (ks.map fun x => !x).map PyData.bool by simp]
    simp_arith [tupk]
  refine sat_seq_eq (e1 := [S, .ow false (.list (ds.map .int)), s2, s3, s4, s5, .sh (kB ks), s7, s8, s9, .sh (.int r), s11, s12, s13, s14, s15, s16, jk o17, .sh (oi (dec r ks.zipIdx 0 0)), .sh (.bool (rt r ks)), .sh (kB (ks.map fun x => !x)), jk o21, jk o22, jk o23, s24, s25]) (by simp_arith [t0, t1, t1', s1]) ?_
  obtain ⟨o23', e23⟩ : ∃ o23' : Option D, (mIfS (mTru (mVar 19)) (mSeq (mSet 23 (mCallB (g1 gIntD) (aCons (mBin gGt (mRead "tuple" gCntT (mSl3 (mVar 6) (oSo (mC (.int 1))) (oNo) (oSo (mC (.int 2)))) (aCons (mC (.bool true)) (aNil))) (mRead "tuple" gCntT (mSl3 (mVar 6) (oNo) (oNo) (oSo (mC (.int 2)))) (aCons (mC (.bool true)) (aNil)))) (aNil)))) (mIfS (mNot (mTru (mCall (den__law_same fuel__law_same) (aCons (mLst (aCons (mCall den__law_told (aCons (mC (.int 2)) (aCons (mVar 10) (aCons (mVar 6) (aNil))))) (aCons (mCall den__law_told (aCons (mC (.int 2)) (aCons (mVar 10) (aCons (mVar 20) (aNil))))) (aNil)))) (aCons (mLst (aCons (mVar 23) (aCons (mBin gSub (mC (.int 1)) (mVar 23)) (aNil)))) (aNil)))))) (mRet (mC (.bool false))) (sNx))) (sNx)) [S, .ow false (.list (ds.map .int)), s2, s3, s4, s5, .sh (kB ks), s7, s8, s9, .sh (.int r), s11, s12, s13, s14, s15, s16, jk o17, .sh (oi (dec r ks.zipIdx 0 0)), .sh (.bool (rt r ks)), .sh (kB (ks.map fun x => !x)), jk o21, jk o22, jk o23, s24, s25] = .ok .nx [S, .ow false (.list (ds.map .int)), s2, s3, s4, s5, .sh (kB ks), s7, s8, s9, .sh (.int r), s11, s12, s13, s14, s15, s16, jk o17, .sh (oi (dec r ks.zipIdx 0 0)), .sh (.bool (rt r ks)), .sh (kB (ks.map fun x => !x)), jk o21, jk o22, jk o23', s24, s25] := by
    by_cases z : rt r ks = true
    · have t2 := told2 r ks (by omega) (by omega) (by omega)
      have t2' := told2 r (ks.map fun x => !x) (by omega) (by omega) (by rw [List.length_map]; omega)
      rw [win_flip (by omega) (rt_over z)] at t2'
      change den__law_told [.sh (.int 2), .sh (.int r), .sh (kB ks)] = _ at t2
      change den__law_told [.sh (.int 2), .sh (.int r), .sh (kB (ks.map fun x => !x))] = _ at t2'
      have s2 := same91 (.list [.int (oneIf (decide (ct (evs ks) < ct (ods ks)))), .int (1 - oneIf (decide (ct (evs ks) < ct (ods ks))))]) (Okd.up (n := 1) (Okd.l (by simp) (by simp [Okd.i])) (by decide))
      refine ⟨some (.int (oneIf (decide (ct (evs ks) < ct (ods ks))))), ?_⟩
      simp_arith [z, gsl_od ks hl, gsl_ev ks hl, ty_kB, cnt_kB, t2, t2', s2, jk_some]
    · rw [Bool.not_eq_true] at z
      exact ⟨o23, by simp_arith [z]⟩
  refine sat_seq_eq e23 ?_
  have hpos : (0 : Int) < (ks.length : Int) := by have := hg.1; omega
  have b1 := tk_lt ds hpos
  have c1 := take91 ds hpos
  refine sat_seq_eq (e1 := [S, .ow false (.list ((tk ds (ks.length : Int)).2.map .int)), s2, s3, s4, s5, .sh (kB ks), s7, s8, s9, .sh (.int r), s11, s12, s13, s14, s15, s16, jk o17, .sh (oi (dec r ks.zipIdx 0 0)), .sh (.bool (rt r ks)), .sh (kB (ks.map fun x => !x)), .sh (kB (ks.take (tk ds (ks.length : Int)).1.toNat)), jk o22, jk o23', s24, s25]) (by simp_arith [lenk, c1, sl_kB ks b1.1]) ?_
  generalize (tk ds (ks.length : Int)).2 = ds at *
  generalize hcut : ks.take (tk _ (ks.length : Int)).1.toNat = cut
  have lcut : cut.length ≤ 39 := by rw [← hcut, List.length_take]; omega
  have c2 := take91 ds (b := 2) (by decide)
  have s39 := sl_kB ks (i := 39) (by decide)
  have ad := add_kB (ks.take 39) ((tk ds 2).1 == 0) (by rw [List.length_take]; omega)
  refine sat_seq_eq (e1 := [S, .ow false (.list ((tk ds 2).2.map .int)), s2, s3, s4, s5, .sh (kB ks), s7, s8, s9, .sh (.int r), s11, s12, s13, s14, s15, s16, jk o17, .sh (oi (dec r ks.zipIdx 0 0)), .sh (.bool (rt r ks)), .sh (kB (ks.map fun x => !x)), .sh (kB cut), .sh (kB (ks.take 39 ++ [(tk ds 2).1 == 0])), jk o23', s24, s25]) (by simp_arith [c2, s39, show (39 : Int).toNat = 39 from rfl, ad]) ?_
  generalize (tk ds 2).2 = ds'' at *
  generalize hmore : ks.take 39 ++ [(tk ds 2).1 == 0] = more
  have gmore : gk more := by rw [← hmore]; unfold gk; simp; omega
  have lm : more.length ≤ 40 := gmore.2
  have ac := after' r cut (by omega) (by omega) (by omega)
  have am := after' r more (by omega) (by omega) (by omega)
  have tc := told1 r cut (by omega) (by omega)
  have tm := told1 r more (by omega) (by omega)
  have tm0 := told0 r more (by omega) (by omega)
  rw [shoot_gk r more gmore] at tm
  change den__law_told [.sh (.int 1), .sh (.int r), .sh (kB cut)] = _ at tc
  change den__law_told [.sh (.int 1), .sh (.int r), .sh (kB more)] = _ at tm
  change den__law_told [.sh (.int 0), .sh (.int r), .sh (kB more)] = _ at tm0
  have lenc : gLenD (kB cut) = some (.d (.int cut.length)) := by simp [kB, gLenD]
  have lenm : gLenD (kB more) = some (.d (.int more.length)) := by simp [kB, gLenD]
  have rc : PyData.eqv (oi (dec r cut.zipIdx 0 0)) (.int (cut.length : Int)) = rt r cut := eqv_oi _ _
  have rm : PyData.eqv (oi (dec r more.zipIdx 0 0)) (.int (more.length : Int)) = rt r more := eqv_oi _ _
  have hsc := shoot_cut r cut (by omega)
  refine sat_seq_eq (e1 := [S, .ow false (.list (ds''.map .int)), s2, s3, s4, s5, .sh (kB ks), s7, s8, s9, .sh (.int r), s11, s12, s13, s14, s15, s16, jk o17, .ow false (.list [.bool (shoot r cut), .bool (rt r more), oi (dec r more.zipIdx 0 0)]), .sh (.bool (rt r ks)), .sh (kB (ks.map fun x => !x)), .sh (kB cut), .sh (kB more), jk o23', s24, s25]) ?_ ?_
  · rw [hsc]
    cases hz : cut.isEmpty with
    | true => simp_arith [sh_kB, sh_nilT, eqv_tn, hz, ac, am, lenc, lenm, sh_oi, rc, rm]
    | false => simp_arith [sh_kB, sh_nilT, eqv_tn, hz, ac, am, lenc, lenm, sh_oi, rc, rm]
  have s3 := same91o [.bool (shoot r cut), .bool (rt r more), oi (dec r more.zipIdx 0 0)] (by simp) (by
    intro x hx
    simp at hx
    rcases hx with rfl | rfl | rfl
    · exact (Okd.b _).up (by decide)
    · exact (Okd.b _).up (by decide)
    · exact (okd_oi _).up (by decide))
  simp_all! [tc, tm, tm0, s3]
  exact ⟨ds'', o17, some _, some _, some _, some _, o23', _, rfl, rfl⟩
end K91

set_option Elab.async false
set_option linter.all false
set_option maxRecDepth 100000
set_option maxHeartbeats 4000000
namespace K91
open PySem PySem.Spec PyProof.Rows L2 PV

theorem ph9 (S : Slot) (ds : List Int) (r : Nat) (sm : List (List Bool)) (s2 s4 s5 s7 s8 s9 s11 s12 s13 s14 s15 s16 s24 s25 : Slot) (o6 o17 o19 o20 o21 o22 o23 : Option D) (s18 : Slot) (h18 : okSl s18 = true) (h : 1 ≤ r) (h2 : r ≤ 5) (hg : ∀ x ∈ sm, gk x) : Sat (p9 [S, .ow false (.list (ds.map .int)), s2, .ow false (.list (sm.map kB)), s4, s5, jk o6, s7, s8, s9, .sh (.int r), s11, s12, s13, s14, s15, s16, jk o17, s18, jk o19, jk o20, jk o21, jk o22, jk o23, s24, s25]) (fun fl e => fl = .nx ∧ ∃ (ds : List Int) (o6 o17 o19 o20 o21 o22 o23 : Option D) (s18 : Slot), okSl s18 = true ∧ e = [S, .ow false (.list (ds.map .int)), s2, .ow false (.list (sm.map kB)), s4, s5, jk o6, s7, s8, s9, .sh (.int r), s11, s12, s13, s14, s15, s16, jk o17, s18, jk o19, jk o20, jk o21, jk o22, jk o23, s24, s25]) := by
  rw [p9_eq]
  refine sat_forL (i := 3) (b := false) (d := .list (sm.map kB)) (ds := sm.map kB) (e1 := [S, .ow false (.list (ds.map .int)), s2, .ow false (.list (sm.map kB)), s4, s5, jk o6, s7, s8, s9, .sh (.int r), s11, s12, s13, s14, s15, s16, jk o17, s18, jk o19, jk o20, jk o21, jk o22, jk o23, s24, s25]) (by simp_arith) rfl ?_
  simp_arith
  refine loop_pre (fun (pre : List (List Bool)) e => ∃ (ds : List Int) (o6 o17 o19 o20 o21 o22 o23 : Option D) (s18 : Slot), okSl s18 = true ∧ e = [S, .ow false (.list (ds.map .int)), s2, .lk false (.list (sm.map kB)), s4, s5, jk o6, s7, s8, s9, .sh (.int r), s11, s12, s13, s14, s15, s16, jk o17, s18, jk o19, jk o20, jk o21, jk o22, jk o23, s24, s25]) ?_ ?_ ⟨ds, o6, o17, o19, o20, o21, o22, o23, s18, h18, rfl⟩
  · rintro pre x post e hx ⟨ds, o6, o17, o19, o20, o21, o22, o23, s18, h18, rfl⟩
    dsimp!
    refine (body9 S ds r x s2 (.lk false (.list (sm.map kB))) s4 s5 s7 s8 s9 s11 s12 s13 s14 s15 s16 s24 s25 o17 o19 o20 o21 o22 o23 s18 h18 h h2 (hg x (by rw [hx]; simp))).mono ?_
    rintro fl e ⟨rfl, ds, o17, o19, o20, o21, o22, o23, s18, h18, rfl⟩
    exact ⟨ds, some _, o17, o19, o20, o21, o22, o23, s18, h18, rfl⟩
  · rintro e ⟨ds, o6, o17, o19, o20, o21, o22, o23, s18, h18, rfl⟩
    exact ⟨rfl, ds, o6, o17, o19, o20, o21, o22, o23, s18, h18, by simp_arith⟩
def b10 : MS := mIfS (mOr (mNot (mTru (mCall (den__law_same fuel__law_same) (aCons (mCall den__law_told (aCons (mC (.int 3)) (aCons (mVar 10) (aCons (mBin gMul (mC (.int 2)) (mBin gAdd (mVar 10) (mVar 7))) (aNil))))) (aCons (mBin gMul (mBin gMul (mC (.int 2)) (mCall den__law_choices (aCons (mBin gMul (mC (.int 2)) (mVar 10)) (aCons (mVar 10) (aNil))))) (mBin gShl (mC (.int 1)) (mBin gSub (mVar 7) (mC (.int 1))))) (aNil)))))) (mAnd (mTB (mBin gLt (mVar 7) (mBin gSub (mC (.int 20)) (mVar 10)))) (mTB (mBin gNe (mCall den__law_told (aCons (mC (.int 3)) (aCons (mVar 10) (aCons (mBin gAdd (mBin gMul (mC (.int 2)) (mBin gAdd (mVar 10) (mVar 7))) (mC (.int 1))) (aNil))))) (mC (.int 0)))))) (mRet (mC (.bool false))) (sNx)
def i10 : MI := iSeq (mLst (aCons (mC (.int 1)) (aCons (mBin gAdd (mC (.int 1)) (mCall den__law_take (aCons (mVar 1) (aCons (mBin gSub (mC (.int 20)) (mVar 10)) (aNil))))) (aCons (mBin gSub (mC (.int 20)) (mVar 10)) (aNil)))))
theorem p10_eq : p10 = mFor i10 (gNm 7) b10 := rfl
theorem cho_b (r : Nat) (h : 1 ≤ r) (h2 : r ≤ 5) : 0 ≤ cho (2 * r) r ∧ cho (2 * r) r ≤ 1000 := by
  have : r = 1 ∨ r = 2 ∨ r = 3 ∨ r = 4 ∨ r = 5 := by omega
  rcases this with rfl | rfl | rfl | rfl | rfl <;> decide +kernel
theorem body10 (S : Slot) (ds : List Int) (r f : Nat) (s2 s3 s4 s5 s6 s8 s9 s11 s12 s13 s14 s15 s16 s17 s18 s19 s20 s21 s22 s23 s24 s25 : Slot) (h : 1 ≤ r) (h2 : r ≤ 5) (hf : 1 ≤ f) (hf2 : f ≤ 20 - r) : Sat (b10 [S, .ow false (.list (ds.map .int)), s2, s3, s4, s5, s6, .sh (.int f), s8, s9, .sh (.int r), s11, s12, s13, s14, s15, s16, s17, s18, s19, s20, s21, s22, s23, s24, s25]) (fun fl e => fl = .nx ∧ e = [S, .ow false (.list (ds.map .int)), s2, s3, s4, s5, s6, .sh (.int f), s8, s9, .sh (.int r), s11, s12, s13, s14, s15, s16, s17, s18, s19, s20, s21, s22, s23, s24, s25]) := by
  have c0 := choices_eq (2 * r) r (by omega) (by omega) (by omega) (cho_small r h h2)
  have cb := cho_b r h h2
  have t1 := told3 r (2 * (r + f)) h h2 (by omega) (by omega)
  have d1 := (fact r h h2).2.1 (2 * (r + f)) (by omega) (by omega)
  have du : dueC r (2 * (r + f)) = 2 * cho (2 * r) r * (1 * 2 ^ ((f : Int) - 1).toNat) := by
    unfold dueC
    rw [if_neg (by omega), show 2 * (r + f) / 2 - r - 1 = f - 1 by omega, show ((f : Int) - 1).toNat = f - 1 by omega, Int.one_mul]
  rw [d1, du] at t1
  have n1 : ((2 * (r + f) : Nat) : Int) = 2 * ((r : Int) + (f : Int)) := by omega
  rw [n1] at t1
  have pb : (1 : Int) ≤ 2 ^ ((f : Int) - 1).toNat ∧ (2 : Int) ^ ((f : Int) - 1).toNat ≤ 524288 := by
    have e1 : ((f : Int) - 1).toNat ≤ 19 := by omega
    generalize ((f : Int) - 1).toNat = m at e1
    have a : (2 : Nat) ^ m ≤ 2 ^ 19 := Nat.pow_le_pow_right (by decide) e1
    have b : 1 ≤ (2 : Nat) ^ m := Nat.one_le_two_pow
    have c : ((2 ^ m : Nat) : Int) = (2 : Int) ^ m := by simp
    omega
  have s1 := same91 (.int (2 * cho (2 * r) r * (1 * 2 ^ ((f : Int) - 1).toNat))) ((Okd.i _).up (by decide))
  unfold b10
  by_cases z : (f : Int) < 20 - (r : Int)
  · have t2 := told3 r (2 * (r + f) + 1) h h2 (by omega) (by omega)
    have d2 := (fact r h h2).2.1 (2 * (r + f) + 1) (by omega) (by omega)
    have du2 : dueC r (2 * (r + f) + 1) = 0 := by
      unfold dueC
      rw [if_pos (by omega)]
    rw [d2, du2] at t2
    have n2 : ((2 * (r + f) + 1 : Nat) : Int) = 2 * ((r : Int) + (f : Int)) + 1 := by omega
    rw [n2] at t2
    simp_all! [t1, c0, s1, t2, z]
  · simp_all! [t1, c0, s1, z]
theorem ph10 (S : Slot) (ds : List Int) (r : Nat) (s2 s3 s4 s5 s6 s8 s9 s11 s12 s13 s14 s15 s16 s17 s18 s19 s20 s21 s22 s23 s24 s25 : Slot) (o7 : Option D) (h : 1 ≤ r) (h2 : r ≤ 5) : Sat (p10 [S, .ow false (.list (ds.map .int)), s2, s3, s4, s5, s6, jk o7, s8, s9, .sh (.int r), s11, s12, s13, s14, s15, s16, s17, s18, s19, s20, s21, s22, s23, s24, s25]) (fun fl e => fl = .nx ∧ ∃ (ds : List Int) (o7 : Option D), e = [S, .ow false (.list (ds.map .int)), s2, s3, s4, s5, s6, jk o7, s8, s9, .sh (.int r), s11, s12, s13, s14, s15, s16, s17, s18, s19, s20, s21, s22, s23, s24, s25]) := by
  rw [p10_eq]
  have l0 : (0 : Int) < 20 - (r : Int) := by omega
  have b1 := tk_lt ds l0
  have c1 := take91 ds l0
  refine sat_for (ds := [1, 1 + (tk ds (20 - (r : Int))).1, 20 - (r : Int)].map PyData.int) (e1 := [S, .ow false (.list ((tk ds (20 - (r : Int))).2.map .int)), s2, s3, s4, s5, s6, jk o7, s8, s9, .sh (.int r), s11, s12, s13, s14, s15, s16, s17, s18, s19, s20, s21, s22, s23, s24, s25]) (by unfold i10; simp_arith [c1]) ?_
  generalize (tk ds (20 - (r : Int))).2 = ds
  generalize (tk _ (20 - (r : Int))).1 = t at b1
  refine loop_rest (fun (rest : List Int) e => (∀ x ∈ rest, 1 ≤ x ∧ x ≤ 20 - (r : Int)) ∧ ∃ o7, e = [S, .ow false (.list (ds.map .int)), s2, s3, s4, s5, s6, jk o7, s8, s9, .sh (.int r), s11, s12, s13, s14, s15, s16, s17, s18, s19, s20, s21, s22, s23, s24, s25]) ?_ ?_ _ _ ⟨?_, o7, rfl⟩
  · rintro x xs e ⟨hx, o7, rfl⟩
    have hx1 := hx x (List.mem_cons_self ..)
    obtain ⟨f, rfl⟩ : ∃ f : Nat, x = f := ⟨x.toNat, by omega⟩
    dsimp!
    refine (body10 S ds r f s2 s3 s4 s5 s6 s8 s9 s11 s12 s13 s14 s15 s16 s17 s18 s19 s20 s21 s22 s23 s24 s25 h h2 (by omega) (by omega)).mono ?_
    rintro fl e ⟨rfl, rfl⟩
    exact ⟨fun y hy => hx y (List.mem_cons_of_mem _ hy), some _, rfl⟩
  · rintro e ⟨_, o7, rfl⟩
    exact ⟨rfl, ds, o7, rfl⟩
  · intro x hx
    simp at hx
    rcases hx with rfl | rfl | rfl <;> omega
def t42 : D := .tuple (List.replicate 21 [PyData.bool true, .bool false]).flatten
def wr : List D := [.tuple [], .list [.bool true, .bool false], .tuple [.int 1, .int 0], .tuple [.none], .tuple [.str "x"], t42, .none, .str "kicks"]
theorem ph11 (S : Slot) (s1 s2 s3 s4 s5 s6 s7 s10 s11 s12 s13 s14 s15 s16 s17 s18 s19 s20 s21 s22 s23 : Slot) : p11 [S, s1, s2, s3, s4, s5, s6, s7, .un, .un, s10, s11, s12, s13, s14, s15, s16, s17, s18, s19, s20, s21, s22, s23, .un, .un] = .ok .nx [S, s1, s2, s3, s4, s5, s6, s7, .ow false (.list [rng, rng, rng, rng, rng, rng]), .un, s10, s11, s12, s13, s14, s15, s16, s17, s18, s19, s20, s21, s22, s23, .un, .un] := by
  have t0 : ∀ x ∈ rngI 0 3, den__law_told [.sh (.int x), .sh (.int 0), .sh (.tuple [.bool true])] = .ok (.d rng) [none, none, none] := fun x hx => told_no x 0 _ (by have := rngI_mem hx; omega) (by omega)
  have t6 : ∀ x ∈ rngI 0 3, den__law_told [.sh (.int x), .sh (.int 6), .sh (.tuple [.bool true])] = .ok (.d rng) [none, none, none] := fun x hx => told_no x 6 _ (by have := rngI_mem hx; omega) (by omega)
  unfold p11
  simp_arith
  rw [lc_all (F := fun _ => rng) (fun x hx => by simp_arith [t0 x hx]) (by simp [rngI])]
  simp_arith
  rw [lc_all (F := fun _ => rng) (fun x hx => by simp_arith [t6 x hx]) (by simp [rngI])]
  rw [show (rngI 0 3).map (fun _ => rng) = [rng, rng, rng] from rfl]
  simp_arith
theorem ph12 (S : Slot) (s1 s2 s3 s4 s5 s6 s7 s10 s11 s12 s13 s14 s15 s16 s17 s18 s19 s20 s21 s22 s23 : Slot) : p12 [S, s1, s2, s3, s4, s5, s6, s7, .ow false (.list [rng, rng, rng, rng, rng, rng]), .un, s10, s11, s12, s13, s14, s15, s16, s17, s18, s19, s20, s21, s22, s23, .un, .un] = .ok .nx [S, s1, s2, s3, s4, s5, s6, s7, .ow false (.list [rng, rng, rng, rng, rng, rng]), .un, s10, s11, s12, s13, s14, s15, s16, s17, s18, s19, s20, s21, s22, s23, .un, .un] := by
  have t1 := told_no 3 0 (.int 5) (by omega) (by omega)
  have t2 := told_no 3 6 (.int 5) (by omega) (by omega)
  have t3 := told_n 5 0 (by omega) (by omega) (by omega)
  have t4 := told_n 5 41 (by omega) (by omega) (by omega)
  have m1 : gMul (.list [.str "range"]) (.int 10) = some (.nw (.list [rng, rng, rng, rng, rng, rng, rng, rng, rng, rng])) := by
    rw [gMul_lst (by omega) (by omega) (by simp)]
    rfl
  have sh1 : SeqAt.shaped (.list [rng, rng, rng, rng, rng, rng, rng, rng, rng, rng]) = true := (Shd.lst (n := 0) fun d hd => by simp at hd; subst hd; exact .str (by decide +kernel)).sh (by decide)
  have eq1 : PyData.eqv (.list [rng, rng, rng, rng, rng, rng, rng, rng, rng, rng]) (.list [rng, rng, rng, rng, rng, rng, rng, rng, rng, rng]) = true := by
    simp only [eqv_ll, eqvAll_cons, eqvAll_nil, rng, eqv_str, beq_self_eq_true, Bool.and_true]
  unfold p12
  simp_arith [t1, t2, t3, t4, m1, sh1, eq1]
theorem ph13 (S : Slot) (s8 s1 s2 s3 s4 s5 s6 s7 s10 s11 s12 s13 s14 s15 s16 s17 s18 s19 s20 s21 s22 s23 : Slot) : p13 [S, s1, s2, s3, s4, s5, s6, s7, s8, .un, s10, s11, s12, s13, s14, s15, s16, s17, s18, s19, s20, s21, s22, s23, .un, .un] = .ok .nx [S, s1, s2, s3, s4, s5, s6, s7, s8, .ow false (.list wr), s10, s11, s12, s13, s14, s15, s16, s17, s18, s19, s20, s21, s22, s23, .un, .un] := by
  have m1 : gMul (.tuple [.bool true, .bool false]) (.int 21) = some (.d t42) := by
    rw [gMul_tup (by omega) (by omega) (by simp)]
    rfl
  unfold p13 wr
  simp_arith [m1]
theorem wrong_no : ∀ x ∈ wr, den_is_shootout [.sh (.int 1), .sh x] = .ok (.d (.bool false)) [none, none] := by
  have e1 := see_ok (r := 1) (by omega) (by omega)
  have l42 : gLenD t42 = some (.d (.int 42)) := rfl
  have i42 : tyN t42 = "tuple" := rfl
  intro x hx
  refine fn_eq rfl ?_
  unfold m_is_shootout
  unfold wr at hx
  simp only [List.mem_cons, List.not_mem_nil, or_false] at hx
  rcases hx with rfl | rfl | rfl | rfl | rfl | rfl | rfl | rfl
  · simp_all! [e1]
  · simp_all! [e1]
  · simp_all! [e1]
  · simp_all! [e1]
  · simp_all! [e1]
  · simp_all! [e1, l42, i42]
  · simp_all! [e1]
  · simp_all! [e1]
theorem ph14 (S : Slot) (s1 s2 s3 s4 s5 s6 s7 s8 s10 s11 s12 s13 s14 s15 s16 s17 s18 s19 s20 s21 s22 s23 : Slot) : p14 [S, s1, s2, s3, s4, s5, s6, s7, s8, .ow false (.list wr), s10, s11, s12, s13, s14, s15, s16, s17, s18, s19, s20, s21, s22, s23, .un, .un] = .ok (.rt (.d (.bool true))) [S, s1, s2, s3, s4, s5, s6, s7, s8, .ow false (.list wr), s10, s11, s12, s13, s14, s15, s16, s17, s18, s19, s20, s21, s22, s23, .un, .un] := by
  unfold p14
  simp_arith
  rw [show wr = wr.map id by simp, lc_map (F := fun _ => none) [] (fun x hx => by simp_arith [wrong_no x hx, id]) (by decide)]
  rw [show wr.filterMap (fun _ => (none : Option D)) = [] by simp]
  have eq1 : PyData.eqv (.list []) (.list []) = true := by decide
  rw [show wr.map id = wr by simp]
  simp_arith [sh_nilL, eq1]
end K91

set_option Elab.async false
set_option linter.all false
set_option maxRecDepth 100000
set_option maxHeartbeats 4000000
namespace K91
open PySem PySem.Spec PyProof.Rows L2 PV
theorem law_true (a : PV.Arg) (ns : List Int) (ha : a = .sh (.list (ns.map .int)) ∨ a = .lk (.list (ns.map .int))) (hl : ns.length ≤ 63) (N : Nat) (hN : N ≤ 100000000) (hN1 : 31 ≤ N) (hb : ∀ n ∈ ns, n.natAbs < 2 ^ N) : ∃ os, den_law [a] = .ok (.d (.bool true)) os := by
  have key : ∃ v os, den_law [a] = .ok v os ∧ v = .d (.bool true) := by
    refine fn_sat (P := fun v _ => v = .d (.bool true)) rfl ?_
    obtain ⟨S, hS, h0⟩ : ∃ S, a.slot = S ∧ ((a = .sh (.list (ns.map .int)) ∧ S = .sh (.list (ns.map .int))) ∨ (a = .lk (.list (ns.map .int)) ∧ S = .lk true (.list (ns.map .int)))) := by
      rcases ha with rfl | rfl
      · exact ⟨_, rfl, .inl ⟨rfl, rfl⟩⟩
      · exact ⟨_, rfl, .inr ⟨rfl, rfl⟩⟩
    have e0 : env0 26 [a] = [S, .un, .un, .un, .un, .un, .un, .un, .un, .un, .un, .un, .un, .un, .un, .un, .un, .un, .un, .un, .un, .un, .un, .un, .un, .un] := by rw [← hS]; rfl
    change Sat (m_law (env0 26 [a])) _
    rw [e0, law_parts]
    obtain ⟨ds, q0⟩ := ph0 a S ns h0 hl N hN hN1 hb
    refine sat_seq_eq q0 ?_
    obtain ⟨ds, r, share, h, h2, h3, h4, q1⟩ := ph1 S ds
    refine sat_seq_eq q1 ?_
    refine sat_seq_eq (ph2 S ds r share) ?_
    refine sat_seq ((ph3 S ds r share h h2).mono ?_)
    rintro fl e ⟨rfl, ds, o2, o15, s13, s14, s16, rows, rfl, hz, hr⟩
    rw [thn_nx]
    obtain ⟨ds, sm, q4, hs, hg⟩ := ph4 S ds rows _ _ _ _ _ _ _ _ _ _ _ _ _ _ _ _ _ _ _ _ _ _ hz hr
    refine sat_seq_eq q4 ?_
    refine sat_seq ((ph5 S ds sm r share _ _ _ _ _ _ _ _ _ _ _ _ _ _ _ _ _ _ _ h h2 hs hg).mono ?_)
    rintro fl e ⟨rfl, ds, o4, o6, sm, rfl, hs, hg⟩
    rw [thn_nx]
    refine sat_seq_eq (ph6 S ds _ _ _ _ _ _ _ _ _ _ _ _ _ _ _ _ _ _ _ _ _ _) ?_
    refine sat_seq ((ph7 S ds _ _ _ _ _ _ _ _ _ _ _ _ _ _ _ _ _ _ _ _ _ _).mono ?_)
    rintro fl e ⟨rfl, ds, ks, o17, rfl, hk⟩
    rw [thn_nx]
    obtain ⟨sm, q8, hs, hg⟩ := ph8 S r sm ks _ _ _ _ _ _ _ _ _ _ _ _ _ _ _ _ _ _ _ _ _ _ h h2 hs hg hk
    refine sat_seq_eq q8 ?_
    refine sat_seq ((ph9 S ds r sm _ _ _ _ _ _ _ _ _ _ _ _ _ _ o6 o17 none none none none none .un rfl h h2 hg).mono ?_)
    rintro fl e ⟨rfl, ds, o6, o17, o19, o20, o21, o22, o23, s18, h18, rfl⟩
    rw [thn_nx]
    refine sat_seq ((ph10 S ds r _ _ _ _ _ _ _ _ _ _ _ _ _ _ _ _ _ _ _ _ _ _ none h h2).mono ?_)
    rintro fl e ⟨rfl, ds, o7, rfl⟩
    rw [thn_nx]
    refine sat_seq_eq (ph11 S _ _ _ _ _ _ _ _ _ _ _ _ _ _ _ _ _ _ _ _ _) ?_
    refine sat_seq_eq (ph12 S _ _ _ _ _ _ _ _ _ _ _ _ _ _ _ _ _ _ _ _ _) ?_
    refine sat_seq_eq (ph13 S _ _ _ _ _ _ _ _ _ _ _ _ _ _ _ _ _ _ _ _ _ _) ?_
    exact .of (ph14 S _ _ _ _ _ _ _ _ _ _ _ _ _ _ _ _ _ _ _ _ _ _) ⟨_, rfl, rfl⟩
  obtain ⟨v, os, h, rfl⟩ := key
  exact ⟨os, h⟩
end K91

set_option Elab.async false
set_option linter.all false
set_option maxRecDepth 100000
set_option maxHeartbeats 0
namespace K91
open PySem PySem.Spec PyProof.Rows L2
abbrev prg : Program := PySem.Challenge.pw_sportsheld_k91_whole_penalty_kicks
def top (i : Nat) : Stmt := prg.main.body.getD i (.Pass ⟨0, 0, 0, 0⟩)
def dd (x : Str) (i : Nat) : He.DefD := ⟨(x, none), x, x, defArgs (top i), defBody (top i), defScope (top i), [], []⟩
def fn : List He.DefD := [dd "is_number" 4, dd "see_rounds" 8, dd "is_over" 9, dd "decided_after" 10, dd "is_shootout" 11, dd "winner_of" 12, dd "count_shootouts" 13, dd "_law_draws" 15, dd "_law_take" 16, dd "_law_same" 17, dd "_law_told" 18, dd "_law_over" 19, dd "_law_after" 20, dd "_law_choices" 21, dd "law" 22]
def fa : List He.Fa := [.glo "is_number", .glo "see_rounds", .glo "is_over", .glo "decided_after", .glo "is_shootout", .glo "winner_of", .glo "count_shootouts", .glo "_law_draws",
  .glo "_law_take", .glo "_law_same", .glo "_law_told", .glo "_law_over", .glo "_law_after", .glo "_law_choices", .glo "law", .glo "SportError",
  .glo "OutOfRange", .exc "OutOfRange", .exm "OutOfRange" "SportError" true, .int "MOST_ROUNDS" 5, .int "MOST_KICKS" 40, .free "abs", .free "all", .free "bool",
  .free "enumerate", .free "int", .free "isinstance", .free "len", .free "list", .free "range", .free "reversed", .free "str",
  .free "sum", .free "tuple"]
def tf : List He.Defn := [("is_shootout", none), ("winner_of", none)]
def exB : PySem.W.Frag → Bool := fun K => PV.excCB K (He.ga K "OutOfRange") && (PV.kitB1 K (He.ga K "OutOfRange") (He.ga K "OutOfRange") true)
abbrev R : PySem.W.OpenRow := PySem.W.OpenLaw.row PySem.Challenge.rw_sportsheld_k91_whole_penalty_kicks
abbrev hk : PySem.W.Hook := He.hookX 4 fa fn [] tf exB
def ob (s : PySem.W.SharedT) : He.AlX := He.obsX 4 fa fn [] tf exB (HandSHeadRun.getT s)
theorem ob_eq (s : PySem.W.SharedT) : ob s = hk.obs s.abs := He.obsX_eq (HandSHeadRun.getT_eq s)
def names0 : List Str := ["SportError", "OutOfRange", "is_number", "MOST_ROUNDS", "MOST_KICKS", "see_rounds", "is_over", "decided_after", "is_shootout", "winner_of", "count_shootouts", "_law_draws", "_law_take", "_law_same", "_law_told", "_law_over", "_law_after", "_law_choices"]
abbrev names : List Str := names0
theorem run (w : World) : HandSHeadRun.RunEq R (PySem.W.view R.prog [22]) hk ob 1500 names w := by
  intro os
  kernel_rfl
open PV
section
variable {P : Program} {w : World} {K : PySem.W.Frag} {mg : Str → Option Value} {base : Heap} {cl : Nat → Addr} {T : List Addr}
structure Zf (P : Program) (w : World) (K : PySem.W.Frag) (mg : Str → Option Value) (base : Heap) (cl : Nat → Addr) (T : List Addr) : Prop where
  z_abs : mg "abs" = none
  z_all : mg "all" = none
  z_bool : mg "bool" = none
  z_enumerate : mg "enumerate" = none
  z_int : mg "int" = none
  z_isinstance : mg "isinstance" = none
  z_len : mg "len" = none
  z_list : mg "list" = none
  z_range : mg "range" = none
  z_reversed : mg "reversed" = none
  z_str : mg "str" = none
  z_sum : mg "sum" = none
  z_tuple : mg "tuple" = none
  i_MOST_ROUNDS : ∃ t, mg "MOST_ROUNDS" = some (.int 5 t)
  i_MOST_KICKS : ∃ t, mg "MOST_KICKS" = some (.int 40 t)
  m_SportError : mg "SportError" = some (.ref (He.ga K "SportError"))
  m_OutOfRange : mg "OutOfRange" = some (.ref (He.ga K "OutOfRange"))
  r_OutOfRange : ExF K mg cl 1 "OutOfRange"
  x__law_told : ∀ c, PySem.W.exmOne K (.ref (cl c)) (.ref (He.ga K "SportError")) = some (res__law_told c).isSome
  u__law_told : ∀ c d, res__law_told c = some d → d = .str "range" ∧ ExcC K (cl c) ∧ PySem.W.kitOne K (.ref (cl c)) (.ref (He.ga K "OutOfRange")) = some true
theorem sc_is_number : FnScope ["value", "least", "most"] ["value", "least", "most"] (defScope (top 4)) := ⟨rfl, rfl, rfl, by decide +kernel, rfl, by decide +kernel, by decide +kernel⟩
theorem ok_is_number {fd : FuncData} (F : FnD K "is_number" (top 4) (He.fAd K ("is_number", none)) fd) (hm : mg "is_number" = some (.ref (He.fAd K ("is_number", none)))) (Z : Zf P w K mg base cl T) : Callee P w K mg base cl T "is_number" 1 den_is_number := by
  have nd := (sc_is_number).nd
  have hb : Binds K fd ["value", "least", "most"] [] := FunD.bindsN F fun _ _ _ _ _ _ us hl => match us, hl with | [_, _, _], _ => rfl
  exact callee_ofD (k := 0) (m := m_is_number) F sc_is_number hb hm fun A outer s H E hr => (s_one (s_ret (e_and (b_isi (e_var (pv 0)) rfl Z.z_isinstance rfl Z.z_int (by decide +kernel)) (e_and (e_not (b_isi (e_var (pv 0)) rfl Z.z_isinstance rfl Z.z_bool (by decide +kernel))) (e_one (b_chain le_ok le_ok (e_var (pv 1)) (e_var (pv 0)) (e_var (pv 2))))))))
theorem sc_see_rounds : FnScope ["r"] ["r"] (defScope (top 8)) := ⟨rfl, rfl, rfl, by decide +kernel, rfl, by decide +kernel, by decide +kernel⟩
theorem ok_see_rounds {fd : FuncData} (F : FnD K "see_rounds" (top 8) (He.fAd K ("see_rounds", none)) fd) (hm : mg "see_rounds" = some (.ref (He.fAd K ("see_rounds", none)))) (Z : Zf P w K mg base cl T) (C_is_number : Callee P w K mg base cl T "is_number" 1 den_is_number) : Callee P w K mg base cl T "see_rounds" 2 den_see_rounds := by
  have nd := (sc_see_rounds).nd
  have hb : Binds K fd ["r"] [] := FunD.bindsN F fun _ _ _ _ _ _ us hl => match us, hl with | [_], _ => rfl
  exact callee_ofD (k := 1) (m := m_see_rounds) F sc_see_rounds hb hm fun A outer s H E hr => (s_one (s_if (t_not (t_tru (e_call (C_is_number.mono (by first | decide | omega)) hr (takes_of rfl rfl rfl rfl) rfl (a_cons (e_var (pv 0)) (a_cons e_int (a_cons (e_gint rfl Z.i_MOST_ROUNDS) a_nil)))))) (s_one (s_raiseD 1 rfl (takes_of rfl rfl rfl rfl) rfl Z.r_OutOfRange)) s_nil))
theorem sc_is_over : FnScope ["r", "kicks", "goals", "left", "first", "second"] ["r", "kicks", "goals"] (defScope (top 9)) := ⟨rfl, rfl, rfl, by decide +kernel, rfl, by decide +kernel, by decide +kernel⟩
theorem ok_is_over {fd : FuncData} (F : FnD K "is_over" (top 9) (He.fAd K ("is_over", none)) fd) (hm : mg "is_over" = some (.ref (He.fAd K ("is_over", none)))) (Z : Zf P w K mg base cl T) : Callee P w K mg base cl T "is_over" 1 den_is_over := by
  have nd := (sc_is_over).nd
  have hb : Binds K fd ["r", "kicks", "goals"] [] := FunD.bindsN F fun _ _ _ _ _ _ us hl => match us, hl with | [_, _, _], _ => rfl
  exact callee_ofD (k := 0) (m := m_is_over) F sc_is_over hb hm fun A outer s H E hr => (s_cons (s_asgT (e_var (pv 2)) (g_tupD rfl (gs_cons (g_name 4 nd rfl (by first | exact .inl rfl | exact .inr rfl)) (gs_cons (g_name 5 nd rfl (by first | exact .inl rfl | exact .inr rfl)) gs_nil))))
    (s_cons (s_if (b_cmpT gt_ok (e_var (pv 1)) (b_bin mul_ok e_int (e_var (pv 0)))) (s_one (s_ret (e_and (b_cmp (eq_ok (un64 hr)) (b_bin mod_ok (e_var (pv 1)) e_int) e_int) (e_one (b_cmp (ne_ok (un64 hr)) (e_var (pv 4)) (e_var (pv 5))))))) s_nil)
    (s_cons (s_set 3 nd rfl (by first | exact .inl rfl | exact .inr rfl) (b_bin sub_ok (b_bin mul_ok e_int (e_var (pv 0))) (e_var (pv 1))))
    (s_one (s_ret (e_or (b_cmp gt_ok (e_var (pv 4)) (b_bin add_ok (e_var (pv 5)) (b_bin div_ok (b_bin add_ok (e_var (pv 3)) e_int) e_int))) (e_one (b_cmp gt_ok (e_var (pv 5)) (b_bin add_ok (e_var (pv 4)) (b_bin div_ok (e_var (pv 3)) e_int))))))))))
theorem sc_decided_after : FnScope ["r", "kicks", "goals", "place", "goal"] ["r", "kicks"] (defScope (top 10)) := ⟨rfl, rfl, rfl, by decide +kernel, rfl, by decide +kernel, by decide +kernel⟩
theorem ok_decided_after {fd : FuncData} (F : FnD K "decided_after" (top 10) (He.fAd K ("decided_after", none)) fd) (hm : mg "decided_after" = some (.ref (He.fAd K ("decided_after", none)))) (Z : Zf P w K mg base cl T) (C_is_over : Callee P w K mg base cl T "is_over" 1 den_is_over) (C_see_rounds : Callee P w K mg base cl T "see_rounds" 2 den_see_rounds) : Callee P w K mg base cl T "decided_after" 3 den_decided_after := by
  have nd := (sc_decided_after).nd
  have hb : Binds K fd ["r", "kicks"] [] := FunD.bindsN F fun _ _ _ _ _ _ us hl => match us, hl with | [_, _], _ => rfl
  exact callee_ofD (k := 2) (m := m_decided_after) F sc_decided_after hb hm fun A outer s H E hr => (s_cons (s_expr (e_call (C_see_rounds.mono (by first | decide | omega)) hr (takes_of rfl rfl rfl rfl) rfl (a_cons (e_var (pv 0)) a_nil)))
    (s_cons (s_set 2 nd rfl (by first | exact .inl rfl | exact .inr rfl) (b_lst (a_cons e_int (a_cons e_int a_nil))))
    (s_cons (s_for (passes_of rfl) rfl (i_enum rfl Z.z_enumerate (e_var (pv 1))) (g_tup rfl (gs_cons (g_name 3 nd rfl (by first | exact .inl rfl | exact .inr rfl)) (gs_cons (g_name 4 nd rfl (by first | exact .inl rfl | exact .inr rfl)) gs_nil))) (s_cons (s_augIx getL_ok iadd_ok setL_ok (pv 2) (b_bin mod_ok (e_var (pv 3)) e_int) (b_callTy int_ok rfl Z.z_int (by decide +kernel) (a_cons (e_var (pv 4)) a_nil)))
    (s_one (s_if (t_tru (e_call (C_is_over.mono (by first | decide | omega)) hr (takes_of rfl rfl rfl rfl) rfl (a_cons (e_var (pv 0)) (a_cons (b_bin add_ok (e_var (pv 3)) e_int) (a_cons (e_var (pv 2)) a_nil))))) (s_one (s_ret (b_bin add_ok (e_var (pv 3)) e_int))) s_nil))))
    (s_one (s_ret e_non)))))
theorem sc_is_shootout : FnScope ["r", "value", "one"] ["r", "value"] (defScope (top 11)) := ⟨rfl, rfl, rfl, by decide +kernel, rfl, by decide +kernel, by decide +kernel⟩
theorem ok_is_shootout {fd : FuncData} (F : FnD K "is_shootout" (top 11) (He.fAd K ("is_shootout", none)) fd) (hm : mg "is_shootout" = some (.ref (He.fAd K ("is_shootout", none)))) (Z : Zf P w K mg base cl T) (C_decided_after : Callee P w K mg base cl T "decided_after" 3 den_decided_after) (C_see_rounds : Callee P w K mg base cl T "see_rounds" 2 den_see_rounds) (TB : GxR.TabB base mg (He.cT K ("is_shootout", none)).1 (He.cT K ("is_shootout", none)).2) (tm : (He.cT K ("is_shootout", none)).2 ∈ T) : Callee P w K mg base cl T "is_shootout" 4 den_is_shootout := by
  have nd := (sc_is_shootout).nd
  have hb : Binds K fd ["r", "value"] [] := FunD.bindsN F fun _ _ _ _ _ _ us hl => match us, hl with | [_, _], _ => rfl
  have TC : ∀ (A : Around) (outer : List Env) (s : Shared) (H : Hp) (E : XK), TabC (cxB P w K mg base ["r", "value", "one"] "is_shootout" (top 11) (He.fAd K ("is_shootout", none)) fd.code A outer s H E) ⟨cl, T, H⟩ (He.cT K ("is_shootout", none)).1 (He.cT K ("is_shootout", none)).2 := fun A outer s H E => ⟨TB, code_at F, tm⟩
  exact callee_ofD (k := 3) (m := m_is_shootout) F sc_is_shootout hb hm fun A outer s H E hr => by
    have TC := TC A outer s H E
    exact (s_cons (s_expr (e_call (C_see_rounds.mono (by first | decide | omega)) hr (takes_of rfl rfl rfl rfl) rfl (a_cons (e_var (pv 0)) a_nil)))
    (s_cons (s_if (L2.PW.pt (w_or (t_not (t_tru (b_isi (e_var (pv 1)) rfl Z.z_isinstance rfl Z.z_tuple (by decide +kernel)))) (w_or1 (t_not (t_chain le_ok le_ok e_int (b_callB len_ok rfl Z.z_len (by decide +kernel) (a_cons (e_var (pv 1)) a_nil)) (e_gint rfl Z.i_MOST_KICKS)))))) (s_one (s_ret e_bl)) s_nil)
    (s_one (s_ret (e_and (b_allG (own := [("one", 2)]) hr rfl Z.z_all rfl nd TC (i_seq (e_var (pv 1))) (by exact gen_by (by kernel_rfl)) rfl (fun A s H c cl code fp pn hr1 => (gv_name 2 (by decide) nd rfl (.inl rfl) (.inr rfl))) (fun A s H c cl code fp pn hr1 => ts_nil) (fun A s H c cl code fp pn hr1 => (b_isi (e_var (pv 2)) rfl Z.z_isinstance rfl Z.z_bool (by decide +kernel)))) (e_one (b_cmp (eq_ok (un64 hr)) (e_call (C_decided_after.mono (by first | decide | omega)) hr (takes_of rfl rfl rfl rfl) rfl (a_cons (e_var (pv 0)) (a_cons (e_var (pv 1)) a_nil))) (b_callB len_ok rfl Z.z_len (by decide +kernel) (a_cons (e_var (pv 1)) a_nil)))))))))
theorem sc_winner_of : FnScope ["r", "shootout", "goal"] ["r", "shootout"] (defScope (top 12)) := ⟨rfl, rfl, rfl, by decide +kernel, rfl, by decide +kernel, by decide +kernel⟩
theorem ok_winner_of {fd : FuncData} (F : FnD K "winner_of" (top 12) (He.fAd K ("winner_of", none)) fd) (hm : mg "winner_of" = some (.ref (He.fAd K ("winner_of", none)))) (Z : Zf P w K mg base cl T) (C_see_rounds : Callee P w K mg base cl T "see_rounds" 2 den_see_rounds) (TB : GxR.TabB base mg (He.cT K ("winner_of", none)).1 (He.cT K ("winner_of", none)).2) (tm : (He.cT K ("winner_of", none)).2 ∈ T) : Callee P w K mg base cl T "winner_of" 3 den_winner_of := by
  have nd := (sc_winner_of).nd
  have hb : Binds K fd ["r", "shootout"] [] := FunD.bindsN F fun _ _ _ _ _ _ us hl => match us, hl with | [_, _], _ => rfl
  have TC : ∀ (A : Around) (outer : List Env) (s : Shared) (H : Hp) (E : XK), TabC (cxB P w K mg base ["r", "shootout", "goal"] "winner_of" (top 12) (He.fAd K ("winner_of", none)) fd.code A outer s H E) ⟨cl, T, H⟩ (He.cT K ("winner_of", none)).1 (He.cT K ("winner_of", none)).2 := fun A outer s H E => ⟨TB, code_at F, tm⟩
  exact callee_ofD (k := 2) (m := m_winner_of) F sc_winner_of hb hm fun A outer s H E hr => by
    have TC := TC A outer s H E
    exact (s_cons (s_expr (e_call (C_see_rounds.mono (by first | decide | omega)) hr (takes_of rfl rfl rfl rfl) rfl (a_cons (e_var (pv 0)) a_nil)))
    (s_one (s_ret (b_callTy int_ok rfl Z.z_int (by decide +kernel) (a_cons (b_cmp gt_ok (b_sumG (own := [("goal", 2)]) hr rfl Z.z_sum PyProof.Rows.boot_sum rfl nd TC (i_seq (b_sl3 (e_var (pv 1)) (o_so e_int) o_no (o_so e_int))) (by exact gen_by (by kernel_rfl)) rfl (fun A s H c cl code fp pn hr1 => (gv_name 2 (by decide) nd rfl (.inl rfl) (.inr rfl))) (fun A s H c cl code fp pn hr1 => ts_nil) (fun A s H c cl code fp pn hr1 => (b_callTy int_ok rfl Z.z_int (by decide +kernel) (a_cons (e_var (pv 2)) a_nil)))) (b_sumG (own := [("goal", 2)]) hr rfl Z.z_sum PyProof.Rows.boot_sum rfl nd TC (i_seq (b_sl3 (e_var (pv 1)) o_no o_no (o_so e_int))) (by exact gen_by (by kernel_rfl)) rfl (fun A s H c cl code fp pn hr1 => (gv_name 2 (by decide) nd rfl (.inl rfl) (.inr rfl))) (fun A s H c cl code fp pn hr1 => ts_nil) (fun A s H c cl code fp pn hr1 => (b_callTy int_ok rfl Z.z_int (by decide +kernel) (a_cons (e_var (pv 2)) a_nil))))) a_nil)))))
theorem sc_count_shootouts : FnScope ["r", "n", "rows", "found", "kick", "later", "many", "goal", "first", "second", "goals"] ["r", "n"] (defScope (top 13)) := ⟨rfl, rfl, rfl, by decide +kernel, rfl, by decide +kernel, by decide +kernel⟩
theorem ok_count_shootouts {fd : FuncData} (F : FnD K "count_shootouts" (top 13) (He.fAd K ("count_shootouts", none)) fd) (hm : mg "count_shootouts" = some (.ref (He.fAd K ("count_shootouts", none)))) (Z : Zf P w K mg base cl T) (C_is_number : Callee P w K mg base cl T "is_number" 1 den_is_number) (C_is_over : Callee P w K mg base cl T "is_over" 1 den_is_over) (C_see_rounds : Callee P w K mg base cl T "see_rounds" 2 den_see_rounds) : Callee P w K mg base cl T "count_shootouts" 3 den_count_shootouts := by
  have nd := (sc_count_shootouts).nd
  have hb : Binds K fd ["r", "n"] [] := FunD.bindsN F fun _ _ _ _ _ _ us hl => match us, hl with | [_, _], _ => rfl
  exact callee_ofD (k := 2) (m := m_count_shootouts) F sc_count_shootouts hb hm fun A outer s H E hr => (s_cons (s_expr (e_call (C_see_rounds.mono (by first | decide | omega)) hr (takes_of rfl rfl rfl rfl) rfl (a_cons (e_var (pv 0)) a_nil)))
    (s_cons (s_if (t_not (t_tru (e_call (C_is_number.mono (by first | decide | omega)) hr (takes_of rfl rfl rfl rfl) rfl (a_cons (e_var (pv 1)) (a_cons e_int (a_cons (e_gint rfl Z.i_MOST_KICKS) a_nil)))))) (s_one (s_raiseD 1 rfl (takes_of rfl rfl rfl rfl) rfl Z.r_OutOfRange)) s_nil)
    (s_cons (s_set 2 nd rfl (by first | exact .inl rfl | exact .inr rfl) (b_dict (un64 hr) (p_cons (b_tup (a_cons e_int (a_cons e_int a_nil))) e_int p_nil) (List.cons_ne_nil _ _) (Nat.le_of_ble_eq_true rfl)))
    (s_cons (s_set 3 nd rfl (by first | exact .inl rfl | exact .inr rfl) e_int)
    (s_cons (s_for (passes_of rfl) rfl (i_range2 rfl Z.z_range e_int (b_bin add_ok (e_var (pv 1)) e_int)) (g_name 4 nd rfl (by first | exact .inl rfl | exact .inr rfl)) (s_cons (s_set 5 nd rfl (by first | exact .inl rfl | exact .inr rfl) b_dict0)
    (s_cons (s_set 3 nd rfl (by first | exact .inl rfl | exact .inr rfl) e_int)
    (s_cons (s_for (passes_of rfl) rfl (i_items (e_var (pv 2))) (g_tup rfl (gs_cons (g_tup rfl (gs_cons (g_name 8 nd rfl (by first | exact .inl rfl | exact .inr rfl)) (gs_cons (g_name 9 nd rfl (by first | exact .inl rfl | exact .inr rfl)) gs_nil))) (gs_cons (g_name 6 nd rfl (by first | exact .inl rfl | exact .inr rfl)) gs_nil))) (s_one (s_for (passes_of rfl) rfl (i_range1 rfl Z.z_range e_int) (g_name 7 nd rfl (by first | exact .inl rfl | exact .inr rfl)) (s_cons (s_set 10 nd rfl (by first | exact .inl rfl | exact .inr rfl) (e_if (b_cmpT (eq_ok (un64 hr)) (b_bin mod_ok (e_var (pv 4)) e_int) e_int) (b_tup (a_cons (b_bin add_ok (e_var (pv 8)) (e_var (pv 7))) (a_cons (e_var (pv 9)) a_nil))) (b_tup (a_cons (e_var (pv 8)) (a_cons (b_bin add_ok (e_var (pv 9)) (e_var (pv 7))) a_nil)))))
    (s_one (s_if (t_tru (e_call (C_is_over.mono (by first | decide | omega)) hr (takes_of rfl rfl rfl rfl) rfl (a_cons (e_var (pv 0)) (a_cons (e_var (pv 4)) (a_cons (e_var (pv 10)) a_nil))))) (s_one (s_aug 3 iadd_ok nd rfl (by first | exact .inl rfl | exact .inr rfl) (e_var (pv 6)))) (s_one (s_setIx (setD_ok (un64 hr)) (pv 5) (e_var (pv 10)) (b_bin add_ok (b_read (get_ok (un64 hr)) PySem.F.plainAttrs_dict PySem.F.slot_dict_get PySem.F.type_dict_get (e_var (pv 5)) (a_cons (e_var (pv 10)) (a_cons e_int a_nil))) (e_var (pv 6)))))))))))
    (s_one (s_set 2 nd rfl (by first | exact .inl rfl | exact .inr rfl) (e_var (pv 5))))))))
    (s_one (s_ret (e_var (pv 3)))))))))
theorem sc__law_draws : FnScope ["script", "draws", "cell", "seed", "k", "number", "first"] ["script"] (defScope (top 15)) := ⟨rfl, rfl, rfl, by decide +kernel, rfl, by decide +kernel, by decide +kernel⟩
theorem ok__law_draws {fd : FuncData} (F : FnD K "_law_draws" (top 15) (He.fAd K ("_law_draws", none)) fd) (hm : mg "_law_draws" = some (.ref (He.fAd K ("_law_draws", none)))) (Z : Zf P w K mg base cl T) : Callee P w K mg base cl T "_law_draws" 1 den__law_draws := by
  have nd := (sc__law_draws).nd
  have hb : Binds K fd ["script"] [] := FunD.bindsN F fun _ _ _ _ _ _ us hl => match us, hl with | [_], _ => rfl
  exact callee_ofD (k := 0) (m := m__law_draws) F sc__law_draws hb hm fun A outer s H E hr => (s_cons (s_set 1 nd rfl (by first | exact .inl rfl | exact .inr rfl) (b_lst a_nil))
    (s_cons (s_for (passes_of rfl) rfl (i_seq (e_var (pv 0))) (g_name 2 nd rfl (by first | exact .inl rfl | exact .inr rfl)) (s_cons (s_set 5 nd rfl (by first | exact .inl rfl | exact .inr rfl) (b_callB abs_ok rfl Z.z_abs (by decide +kernel) (a_cons (e_var (pv 2)) a_nil)))
    (s_cons (s_if (b_cmpT lt_ok (e_var (pv 5)) (b_bin pow_ok e_int e_int)) (s_cons (s_set 6 nd rfl (by first | exact .inl rfl | exact .inr rfl) (b_bin mod_ok (b_callTy int_ok rfl Z.z_int (by decide +kernel) (a_cons (b_bin add_ok (b_bin mul_ok (e_var (pv 5)) e_int) e_int) a_nil)) e_int))
    (s_cons (s_expr (b_mut append_ok PySem.F.plainAttrs_list PySem.F.slot_list_append PySem.F.type_list_append (pv 1) (a_cons (b_bin mod_ok (b_callTy int_ok rfl Z.z_int (by decide +kernel) (a_cons (b_bin add_ok (b_bin mul_ok (e_var (pv 6)) e_int) (e_var (pv 5))) a_nil)) e_int) a_nil)))
    (s_cons (s_expr (b_mut append_ok PySem.F.plainAttrs_list PySem.F.slot_list_append PySem.F.type_list_append (pv 1) (a_cons (b_bin mod_ok (b_callTy int_ok rfl Z.z_int (by decide +kernel) (a_cons (b_bin add_ok (e_var (pv 6)) (b_bin div_ok (e_var (pv 5)) e_int)) a_nil)) e_int) a_nil)))
    (s_one (s_set 5 nd rfl (by first | exact .inl rfl | exact .inr rfl) e_int))))) s_nil)
    (s_one (s_for (passes_of rfl) rfl (i_range1 rfl Z.z_range e_int) (g_name 4 nd rfl (by first | exact .inl rfl | exact .inr rfl)) (s_one (s_if (b_cmpT gt_ok (e_var (pv 5)) e_int) (s_cons (s_expr (b_mut append_ok PySem.F.plainAttrs_list PySem.F.slot_list_append PySem.F.type_list_append (pv 1) (a_cons (b_bin mod_ok (b_callTy int_ok rfl Z.z_int (by decide +kernel) (a_cons (e_var (pv 5)) a_nil)) e_int) a_nil)))
    (s_one (s_set 5 nd rfl (by first | exact .inl rfl | exact .inr rfl) (b_bin div_ok (e_var (pv 5)) e_int)))) s_nil)))))))
    (s_cons (s_set 3 nd rfl (by first | exact .inl rfl | exact .inr rfl) e_int)
    (s_cons (s_if (b_cmpT gt_ok (b_callB len_ok rfl Z.z_len (by decide +kernel) (a_cons (e_var (pv 0)) a_nil)) e_int) (s_one (s_set 3 nd rfl (by first | exact .inl rfl | exact .inr rfl) (b_bin add_ok e_int (b_callB abs_ok rfl Z.z_abs (by decide +kernel) (a_cons (b_ix ix_ok (e_var (pv 0)) e_int) a_nil))))) s_nil)
    (s_cons (s_for (passes_of rfl) rfl (i_range1 rfl Z.z_range e_int) (g_name 4 nd rfl (by first | exact .inl rfl | exact .inr rfl)) (s_cons (s_set 3 nd rfl (by first | exact .inl rfl | exact .inr rfl) (b_bin mod_ok (b_callTy int_ok rfl Z.z_int (by decide +kernel) (a_cons (b_bin add_ok (b_bin mul_ok (e_var (pv 3)) e_int) e_int) a_nil)) e_int))
    (s_one (s_expr (b_mut append_ok PySem.F.plainAttrs_list PySem.F.slot_list_append PySem.F.type_list_append (pv 1) (a_cons (b_bin div_ok (e_var (pv 3)) e_int) a_nil))))))
    (s_one (s_ret (b_listRev rfl rfl Z.z_list rfl Z.z_reversed (e_var (pv 1))))))))))
theorem sc__law_take : FnScope ["draws", "bound"] ["draws", "bound"] (defScope (top 16)) := ⟨rfl, rfl, rfl, by decide +kernel, rfl, by decide +kernel, by decide +kernel⟩
theorem ok__law_take {fd : FuncData} (F : FnD K "_law_take" (top 16) (He.fAd K ("_law_take", none)) fd) (hm : mg "_law_take" = some (.ref (He.fAd K ("_law_take", none)))) (Z : Zf P w K mg base cl T) : Callee P w K mg base cl T "_law_take" 1 den__law_take := by
  have nd := (sc__law_take).nd
  have hb : Binds K fd ["draws", "bound"] [] := FunD.bindsN F fun _ _ _ _ _ _ us hl => match us, hl with | [_, _], _ => rfl
  exact callee_ofD (k := 0) (m := m__law_take) F sc__law_take hb hm fun A outer s H E hr => (s_cons (s_if (b_cmpT (eq_ok (un64 hr)) (b_callB len_ok rfl Z.z_len (by decide +kernel) (a_cons (e_var (pv 0)) a_nil)) e_int) (s_one (s_ret e_int)) s_nil)
    (s_one (s_ret (b_bin mod_ok (b_callTy int_ok rfl Z.z_int (by decide +kernel) (a_cons (b_mut0 pop_ok PySem.F.plainAttrs_list PySem.F.slot_list_pop PySem.F.type_list_pop (pv 0)) a_nil)) (e_var (pv 1))))))
theorem sc__law_same : FnScope ["actual", "due", "k"] ["actual", "due"] (defScope (top 17)) := ⟨rfl, rfl, rfl, by decide +kernel, rfl, by decide +kernel, by decide +kernel⟩
theorem ok__law_same {fd : FuncData} (F : FnD K "_law_same" (top 17) (He.fAd K ("_law_same", none)) fd) (hm : mg "_law_same" = some (.ref (He.fAd K ("_law_same", none)))) (Z : Zf P w K mg base cl T) : ∀ j : Nat, Callee P w K mg base cl T "_law_same" (j + 1) (den__law_same j)
  | 0 => callee_stuck (n := 0) F sc__law_same (FunD.bindsN F fun _ _ _ _ _ _ us hl => match us, hl with | [_, _], _ => rfl) hm
  | j + 1 => by
    have IH := ok__law_same F hm Z j
    have nd := (sc__law_same).nd
    exact callee_ofD (k := j + 1) (m := m__law_same (den__law_same j)) F sc__law_same (FunD.bindsN F fun _ _ _ _ _ _ us hl => match us, hl with | [_, _], _ => rfl) hm fun A outer s H E hr => (s_cons (s_if (L2.PW.pt (w_or (b_cmpT is_ok (e_var (pv 1)) e_non) (w_or1 (b_cmpT is_ok (e_var (pv 0)) e_non)))) (s_one (s_ret (e_and (b_cmp is_ok (e_var (pv 1)) e_non) (e_one (b_cmp is_ok (e_var (pv 0)) e_non))))) s_nil)
    (s_cons (s_if (L2.PW.pt (w_or (t_tru (b_isi (e_var (pv 1)) rfl Z.z_isinstance rfl Z.z_tuple (by decide +kernel))) (w_or1 (t_tru (b_isi (e_var (pv 1)) rfl Z.z_isinstance rfl Z.z_list (by decide +kernel)))))) (s_cons (s_if (L2.PW.pt (w_or (b_cmpT (ne_ok (un64 hr)) (b_isi (e_var (pv 1)) rfl Z.z_isinstance rfl Z.z_tuple (by decide +kernel)) (b_isi (e_var (pv 0)) rfl Z.z_isinstance rfl Z.z_tuple (by decide +kernel))) (w_or1 (b_cmpT (ne_ok (un64 hr)) (b_isi (e_var (pv 1)) rfl Z.z_isinstance rfl Z.z_list (by decide +kernel)) (b_isi (e_var (pv 0)) rfl Z.z_isinstance rfl Z.z_list (by decide +kernel)))))) (s_one (s_ret e_bl)) s_nil)
    (s_cons (s_if (b_cmpT (ne_ok (un64 hr)) (b_callB len_ok rfl Z.z_len (by decide +kernel) (a_cons (e_var (pv 0)) a_nil)) (b_callB len_ok rfl Z.z_len (by decide +kernel) (a_cons (e_var (pv 1)) a_nil))) (s_one (s_ret e_bl)) s_nil)
    (s_cons (s_for (passes_of rfl) rfl (i_range1 rfl Z.z_range (b_callB len_ok rfl Z.z_len (by decide +kernel) (a_cons (e_var (pv 1)) a_nil))) (g_name 2 nd rfl (by first | exact .inl rfl | exact .inr rfl)) (s_one (s_if (t_not (t_tru (e_call (IH.mono (by omega)) hr (takes_of rfl rfl rfl rfl) rfl (a_cons (b_ix ix_ok (e_var (pv 0)) (e_var (pv 2))) (a_cons (b_ix ix_ok (e_var (pv 1)) (e_var (pv 2))) a_nil))))) (s_one (s_ret e_bl)) s_nil)))
    (s_one (s_ret e_bl))))) s_nil)
    (s_cons (s_if (b_cmpT (ne_ok (un64 hr)) (b_isi (e_var (pv 1)) rfl Z.z_isinstance rfl Z.z_bool (by decide +kernel)) (b_isi (e_var (pv 0)) rfl Z.z_isinstance rfl Z.z_bool (by decide +kernel))) (s_one (s_ret e_bl)) s_nil)
    (s_cons (s_if (L2.PW.pt (w_or (b_cmpT (ne_ok (un64 hr)) (b_isi (e_var (pv 1)) rfl Z.z_isinstance rfl Z.z_int (by decide +kernel)) (b_isi (e_var (pv 0)) rfl Z.z_isinstance rfl Z.z_int (by decide +kernel))) (w_or1 (b_cmpT (ne_ok (un64 hr)) (b_isi (e_var (pv 1)) rfl Z.z_isinstance rfl Z.z_str (by decide +kernel)) (b_isi (e_var (pv 0)) rfl Z.z_isinstance rfl Z.z_str (by decide +kernel)))))) (s_one (s_ret e_bl)) s_nil)
    (s_one (s_ret (b_cmp (eq_ok (un64 hr)) (e_var (pv 0)) (e_var (pv 1)))))))))
theorem sc__law_told : FnScope ["which", "r", "value", "e"] ["which", "r", "value"] (defScope (top 18)) := ⟨rfl, rfl, rfl, by decide +kernel, rfl, by decide +kernel, by decide +kernel⟩
theorem ok__law_told {fd : FuncData} (F : FnD K "_law_told" (top 18) (He.fAd K ("_law_told", none)) fd) (hm : mg "_law_told" = some (.ref (He.fAd K ("_law_told", none)))) (Z : Zf P w K mg base cl T) (C_count_shootouts : Callee P w K mg base cl T "count_shootouts" 3 den_count_shootouts) (C_decided_after : Callee P w K mg base cl T "decided_after" 3 den_decided_after) (C_is_shootout : Callee P w K mg base cl T "is_shootout" 4 den_is_shootout) (C_winner_of : Callee P w K mg base cl T "winner_of" 3 den_winner_of) : Callee P w K mg base cl T "_law_told" 5 den__law_told := by
  have nd := (sc__law_told).nd
  have hb : Binds K fd ["which", "r", "value"] [] := FunD.bindsN F fun _ _ _ _ _ _ us hl => match us, hl with | [_, _, _], _ => rfl
  exact callee_ofD (k := 4) (m := m__law_told) F sc__law_told hb hm fun A outer s H E hr => (s_one (s_try rfl rfl nd rfl rfl ⟨rfl, by decide, .inl Z.m_SportError⟩ (takes_of rfl rfl rfl rfl) Z.x__law_told (fun W pn xe tk po => (s_cons (s_if (b_cmpT (eq_ok (un64 hr)) (e_var (pv 0)) e_int) (s_one (s_ret (e_call (C_decided_after.mono (by first | decide | omega)) hr tk rfl (a_cons (e_var (pv 1)) (a_cons (e_var (pv 2)) a_nil))))) s_nil)
    (s_cons (s_if (b_cmpT (eq_ok (un64 hr)) (e_var (pv 0)) e_int) (s_one (s_ret (e_call (C_is_shootout.mono (by first | decide | omega)) hr tk rfl (a_cons (e_var (pv 1)) (a_cons (e_var (pv 2)) a_nil))))) s_nil)
    (s_cons (s_if (b_cmpT (eq_ok (un64 hr)) (e_var (pv 0)) e_int) (s_one (s_ret (e_call (C_winner_of.mono (by first | decide | omega)) hr tk rfl (a_cons (e_var (pv 1)) (a_cons (e_var (pv 2)) a_nil))))) s_nil)
    (s_one (s_ret (e_call (C_count_shootouts.mono (by first | decide | omega)) hr tk rfl (a_cons (e_var (pv 1)) (a_cons (e_var (pv 2)) a_nil))))))))) (su_pick (n := "e") (y := "OutOfRange") (D' := He.ga K "OutOfRange") rfl (by first | exact Or.inl rfl | exact Or.inr (Or.inl rfl) | exact Or.inr (Or.inr rfl)) (by decide) (by decide) rfl rfl rfl Z.z_int Z.z_isinstance Z.m_OutOfRange (by decide) Z.u__law_told)))
theorem sc__law_over : FnScope ["r", "kicks", "first", "second"] ["r", "kicks"] (defScope (top 19)) := ⟨rfl, rfl, rfl, by decide +kernel, rfl, by decide +kernel, by decide +kernel⟩
theorem ok__law_over {fd : FuncData} (F : FnD K "_law_over" (top 19) (He.fAd K ("_law_over", none)) fd) (hm : mg "_law_over" = some (.ref (He.fAd K ("_law_over", none)))) (Z : Zf P w K mg base cl T) : Callee P w K mg base cl T "_law_over" 1 den__law_over := by
  have nd := (sc__law_over).nd
  have hb : Binds K fd ["r", "kicks"] [] := FunD.bindsN F fun _ _ _ _ _ _ us hl => match us, hl with | [_, _], _ => rfl
  exact callee_ofD (k := 0) (m := m__law_over) F sc__law_over hb hm fun A outer s H E hr => (s_cons (s_par2 2 3 rfl nd rfl rfl (by decide) rfl rfl (b_read (cntT_ok (un65 hr)) PySem.F.plainAttrs_tuple PySem.F.slot_tuple_count PySem.F.type_tuple_count (b_sl3 (e_var (pv 1)) o_no o_no (o_so e_int)) (a_cons e_bl a_nil)) (b_read (cntT_ok (un65 hr)) PySem.F.plainAttrs_tuple PySem.F.slot_tuple_count PySem.F.type_tuple_count (b_sl3 (e_var (pv 1)) (o_so e_int) o_no (o_so e_int)) (a_cons e_bl a_nil)) rfl)
    (s_cons (s_if (b_cmpT gt_ok (b_callB len_ok rfl Z.z_len (by decide +kernel) (a_cons (e_var (pv 1)) a_nil)) (b_bin mul_ok e_int (e_var (pv 0)))) (s_one (s_ret (e_and (b_cmp (eq_ok (un64 hr)) (b_callB len_ok rfl Z.z_len (by decide +kernel) (a_cons (b_sl3 (e_var (pv 1)) o_no o_no (o_so e_int)) a_nil)) (b_callB len_ok rfl Z.z_len (by decide +kernel) (a_cons (b_sl3 (e_var (pv 1)) (o_so e_int) o_no (o_so e_int)) a_nil))) (e_one (b_cmp (ne_ok (un64 hr)) (e_var (pv 2)) (e_var (pv 3))))))) s_nil)
    (s_one (s_ret (e_or (b_cmp lt_ok (b_bin sub_ok (b_bin add_ok (e_var (pv 3)) (e_var (pv 0))) (b_callB len_ok rfl Z.z_len (by decide +kernel) (a_cons (b_sl3 (e_var (pv 1)) (o_so e_int) o_no (o_so e_int)) a_nil))) (e_var (pv 2))) (e_one (b_cmp lt_ok (b_bin sub_ok (b_bin add_ok (e_var (pv 2)) (e_var (pv 0))) (b_callB len_ok rfl Z.z_len (by decide +kernel) (a_cons (b_sl3 (e_var (pv 1)) o_no o_no (o_so e_int)) a_nil))) (e_var (pv 3)))))))))
theorem sc__law_after : FnScope ["r", "kicks", "k"] ["r", "kicks"] (defScope (top 20)) := ⟨rfl, rfl, rfl, by decide +kernel, rfl, by decide +kernel, by decide +kernel⟩
theorem ok__law_after {fd : FuncData} (F : FnD K "_law_after" (top 20) (He.fAd K ("_law_after", none)) fd) (hm : mg "_law_after" = some (.ref (He.fAd K ("_law_after", none)))) (Z : Zf P w K mg base cl T) (C__law_over : Callee P w K mg base cl T "_law_over" 1 den__law_over) : Callee P w K mg base cl T "_law_after" 2 den__law_after := by
  have nd := (sc__law_after).nd
  have hb : Binds K fd ["r", "kicks"] [] := FunD.bindsN F fun _ _ _ _ _ _ us hl => match us, hl with | [_, _], _ => rfl
  exact callee_ofD (k := 1) (m := m__law_after) F sc__law_after hb hm fun A outer s H E hr => (s_one (s_ret (b_ix ix_ok (b_bin add_ok (b_lc (own := [("k", 2)]) rfl nd (i_range2 rfl Z.z_range e_int (b_bin add_ok (b_callB len_ok rfl Z.z_len (by decide +kernel) (a_cons (e_var (pv 1)) a_nil)) e_int)) (by exact blk_by (by kernel_rfl)) rfl (fun s H c cl fp => (gv_name 2 (by decide) nd rfl (by first | exact .inl rfl | exact .inr rfl) (by first | exact .inr rfl | exact .inl rfl))) (fun s H c cl fp => (ts_one (t_tru (e_call (C__law_over.mono (by first | decide | omega)) hr takes0 rfl (a_cons (e_var (pv 0)) (a_cons (b_sl (e_var (pv 1)) o_no (o_so (e_var (pv 2)))) a_nil)))))) (fun s H c cl fp => (e_var (pv 2)))) (b_lst (a_cons e_non a_nil))) e_int)))
theorem sc__law_choices : FnScope ["n", "k", "found", "one"] ["n", "k"] (defScope (top 21)) := ⟨rfl, rfl, rfl, by decide +kernel, rfl, by decide +kernel, by decide +kernel⟩
theorem ok__law_choices {fd : FuncData} (F : FnD K "_law_choices" (top 21) (He.fAd K ("_law_choices", none)) fd) (hm : mg "_law_choices" = some (.ref (He.fAd K ("_law_choices", none)))) (Z : Zf P w K mg base cl T) : Callee P w K mg base cl T "_law_choices" 1 den__law_choices := by
  have nd := (sc__law_choices).nd
  have hb : Binds K fd ["n", "k"] [] := FunD.bindsN F fun _ _ _ _ _ _ us hl => match us, hl with | [_, _], _ => rfl
  exact callee_ofD (k := 0) (m := m__law_choices) F sc__law_choices hb hm fun A outer s H E hr => (s_cons (s_set 2 nd rfl (by first | exact .inl rfl | exact .inr rfl) e_int)
    (s_cons (s_for (passes_of rfl) rfl (i_range1 rfl Z.z_range (e_var (pv 1))) (g_name 3 nd rfl (by first | exact .inl rfl | exact .inr rfl)) (s_one (s_set 2 nd rfl (by first | exact .inl rfl | exact .inr rfl) (b_bin div_ok (b_bin mul_ok (e_var (pv 2)) (b_bin sub_ok (e_var (pv 0)) (e_var (pv 3)))) (b_bin add_ok (e_var (pv 3)) e_int)))))
    (s_one (s_ret (e_var (pv 2))))))
theorem sc_law : FnScope ["script", "draws", "kick", "some", "turn", "long", "kicks", "further", "bad", "wrong", "r", "share", "rows", "edge", "later", "row", "done", "goal", "due", "right", "turned", "cut", "more", "won", "which", "one"] ["script"] (defScope (top 22)) := ⟨rfl, rfl, rfl, by decide +kernel, rfl, by decide +kernel, by decide +kernel⟩
theorem fn_law {fd : FuncData} {fl : Addr} (F : FnD K "law" (top 22) fl fd) (Z : Zf P w K mg base cl T) (C__law_after : Callee P w K mg base cl T "_law_after" 2 den__law_after) (C__law_choices : Callee P w K mg base cl T "_law_choices" 1 den__law_choices) (C__law_draws : Callee P w K mg base cl T "_law_draws" 1 den__law_draws) (C__law_over : Callee P w K mg base cl T "_law_over" 1 den__law_over) (C__law_same : Callee P w K mg base cl T "_law_same" 11 (den__law_same fuel__law_same)) (C__law_take : Callee P w K mg base cl T "_law_take" 1 den__law_take) (C__law_told : Callee P w K mg base cl T "_law_told" 5 den__law_told) (C_is_shootout : Callee P w K mg base cl T "is_shootout" 4 den_is_shootout) : FnOk P w K mg base (L2.CX P w) 12 fl fd ["script"] (spFn cl T ⟨K, w⟩ den_law) := by
  have nd := (sc_law).nd
  exact fnok_ofD (k := 11) (m := m_law) F sc_law fun A outer s H E hr => (s_cons (s_set 1 nd rfl (by first | exact .inl rfl | exact .inr rfl) (e_call (C__law_draws.mono (by first | decide | omega)) hr (takes_of rfl rfl rfl rfl) rfl (a_cons (e_var (pv 0)) a_nil)))
    (s_cons (s_asgT (b_tup (a_cons (b_bin add_ok e_int (e_call (C__law_take.mono (by first | decide | omega)) hr (takes_of rfl rfl rfl rfl) rfl (a_cons (e_var (pv 1)) (a_cons e_int a_nil)))) (a_cons (b_bin add_ok e_int (e_call (C__law_take.mono (by first | decide | omega)) hr (takes_of rfl rfl rfl rfl) rfl (a_cons (e_var (pv 1)) (a_cons e_int a_nil)))) a_nil))) (g_tupD rfl (gs_cons (g_name 10 nd rfl (by first | exact .inl rfl | exact .inr rfl)) (gs_cons (g_name 11 nd rfl (by first | exact .inl rfl | exact .inr rfl)) gs_nil))))
    (s_cons (s_par2 12 13 rfl nd rfl rfl (by decide) rfl rfl (b_lst a_nil) (b_lst (a_cons (b_tup a_nil) a_nil)) rfl)
    (s_cons (s_for (passes_of rfl) rfl (i_range1 rfl Z.z_range (b_ix ix_ok (b_lst (a_cons e_int (a_cons e_int a_nil))) (b_callTy int_ok rfl Z.z_int (by decide +kernel) (a_cons (b_cmp (eq_ok (un64 hr)) (e_call (C__law_take.mono (by first | decide | omega)) hr (takes_of rfl rfl rfl rfl) rfl (a_cons (e_var (pv 1)) (a_cons e_int a_nil))) e_int) a_nil)))) (g_name 2 nd rfl (by first | exact .inl rfl | exact .inr rfl)) (s_cons (s_set 14 nd rfl (by first | exact .inl rfl | exact .inr rfl) (b_lst a_nil))
    (s_cons (s_for (passes_of rfl) rfl (i_seq (e_var (pv 13))) (g_name 15 nd rfl (by first | exact .inl rfl | exact .inr rfl)) (s_one (s_set 14 nd rfl (by first | exact .inl rfl | exact .inr rfl) (b_bin add_ok (e_var (pv 14)) (b_lc (own := [("goal", 17)]) rfl nd (i_seq (b_tup (a_cons e_bl (a_cons e_bl a_nil)))) (by exact blk_by (by kernel_rfl)) rfl (fun s H c cl fp => (gv_name 17 (by decide) nd rfl (by first | exact .inl rfl | exact .inr rfl) (by first | exact .inr rfl | exact .inl rfl))) (fun s H c cl fp => ts_nil) (fun s H c cl fp => (b_bin add_ok (e_var (pv 15)) (b_tup (a_cons (e_var (pv 17)) a_nil)))))))))
    (s_cons (s_setLc 16 (own := [("row", 15)]) rfl nd rfl rfl (sw_true rfl rfl rfl (by decide +kernel)) (i_seq (e_var (pv 14))) (by exact blk_by (by kernel_rfl)) rfl (fun s H c cl fp => (gv_name 15 (by decide) nd rfl (by first | exact .inl rfl | exact .inr rfl) (by first | exact .inr rfl | exact .inl rfl))) (fun s H c cl fp => (ts_one (t_tru (e_call (C__law_over.mono (by first | decide | omega)) hr takes0 rfl (a_cons (e_var (pv 10)) (a_cons (e_var (pv 15)) a_nil)))))) (fun s H c cl fp => (e_var (pv 15))))
    (s_cons (s_setLc 13 (own := [("row", 15)]) rfl nd rfl rfl (sw_true rfl rfl rfl (by decide +kernel)) (i_seq (e_var (pv 14))) (by exact blk_by (by kernel_rfl)) rfl (fun s H c cl fp => (gv_name 15 (by decide) nd rfl (by first | exact .inl rfl | exact .inr rfl) (by first | exact .inr rfl | exact .inl rfl))) (fun s H c cl fp => (ts_one (t_not (t_tru (e_call (C__law_over.mono (by first | decide | omega)) hr takes0 rfl (a_cons (e_var (pv 10)) (a_cons (e_var (pv 15)) a_nil))))))) (fun s H c cl fp => (e_var (pv 15))))
    (s_cons (s_if (t_not (t_tru (e_call (C__law_same.mono (by first | decide | omega)) hr (takes_of rfl rfl rfl rfl) rfl (a_cons (e_call (C__law_told.mono (by first | decide | omega)) hr (takes_of rfl rfl rfl rfl) rfl (a_cons e_int (a_cons (e_var (pv 10)) (a_cons (b_bin add_ok (e_var (pv 2)) e_int) a_nil)))) (a_cons (b_callB len_ok rfl Z.z_len (by decide +kernel) (a_cons (e_var (pv 16)) a_nil)) a_nil))))) (s_one (s_ret e_bl)) s_nil)
    (s_one (s_set 12 nd rfl (by first | exact .inl rfl | exact .inr rfl) (b_bin add_ok (e_var (pv 12)) (e_var (pv 16)))))))))))
    (s_cons (s_set 3 nd rfl (by first | exact .inl rfl | exact .inr rfl) (e_if (b_cmpT (ne_ok (un64 hr)) (e_var (pv 12)) (b_lst a_nil)) (b_lst (a_cons (b_ix ix_ok (e_var (pv 12)) (e_call (C__law_take.mono (by first | decide | omega)) hr (takes_of rfl rfl rfl rfl) rfl (a_cons (e_var (pv 1)) (a_cons (b_callB len_ok rfl Z.z_len (by decide +kernel) (a_cons (e_var (pv 12)) a_nil)) a_nil)))) a_nil)) (b_lst a_nil)))
    (s_cons (s_for (passes_of rfl) rfl (i_range1 rfl Z.z_range e_int) (g_name 4 nd rfl (by first | exact .inl rfl | exact .inr rfl)) (s_cons (s_set 6 nd rfl (by first | exact .inl rfl | exact .inr rfl) (b_tup a_nil))
    (s_cons (s_while fuel_law_0 (passes_of rfl) (L2.PW.pt (w_and (b_cmpT lt_ok (b_callB len_ok rfl Z.z_len (by decide +kernel) (a_cons (e_var (pv 6)) a_nil)) e_int) (w_and1 (t_not (t_tru (e_call (C__law_over.mono (by first | decide | omega)) hr (takes_of rfl rfl rfl rfl) rfl (a_cons (e_var (pv 10)) (a_cons (e_var (pv 6)) a_nil)))))))) (s_one (s_set 6 nd rfl (by first | exact .inl rfl | exact .inr rfl) (b_bin add_ok (e_var (pv 6)) (b_tup (a_cons (b_cmp gt_ok (e_call (C__law_take.mono (by first | decide | omega)) hr (takes_of rfl rfl rfl rfl) rfl (a_cons (e_var (pv 1)) (a_cons (b_bin add_ok (e_var (pv 11)) e_int) a_nil))) e_int) a_nil))))))
    (s_one (s_expr (b_mut append_ok PySem.F.plainAttrs_list PySem.F.slot_list_append PySem.F.type_list_append (pv 3) (a_cons (e_var (pv 6)) a_nil)))))))
    (s_cons (s_set 5 nd rfl (by first | exact .inl rfl | exact .inr rfl) (b_tup a_nil))
    (s_cons (s_while fuel_law_1 (passes_of rfl) (b_cmpT lt_ok (b_callB len_ok rfl Z.z_len (by decide +kernel) (a_cons (e_var (pv 5)) a_nil)) e_int) (s_cons (s_set 17 nd rfl (by first | exact .inl rfl | exact .inr rfl) (b_cmp (eq_ok (un64 hr)) (e_call (C__law_take.mono (by first | decide | omega)) hr (takes_of rfl rfl rfl rfl) rfl (a_cons (e_var (pv 1)) (a_cons e_int a_nil))) e_int))
    (s_one (s_set 5 nd rfl (by first | exact .inl rfl | exact .inr rfl) (b_bin add_ok (e_var (pv 5)) (b_tup (a_cons (e_var (pv 17)) (a_cons (e_var (pv 17)) a_nil))))))))
    (s_cons (s_set 3 nd rfl (by first | exact .inl rfl | exact .inr rfl) (b_bin add_ok (e_var (pv 3)) (b_lst (a_cons (b_bin add_ok (e_var (pv 5)) (b_tup (a_cons e_bl (a_cons e_bl a_nil)))) (a_cons (b_bin add_ok (e_var (pv 5)) (b_tup (a_cons e_bl (a_cons e_bl a_nil)))) (a_cons (b_bin mul_ok (b_tup (a_cons e_bl (a_cons e_bl a_nil))) (e_var (pv 10))) (a_cons (b_bin mul_ok (b_tup (a_cons e_bl a_nil)) e_int) a_nil)))))))
    (s_cons (s_for (passes_of rfl) rfl (i_seq (e_var (pv 3))) (g_name 6 nd rfl (by first | exact .inl rfl | exact .inr rfl)) (s_cons (s_set 18 nd rfl (by first | exact .inl rfl | exact .inr rfl) (e_call (C__law_after.mono (by first | decide | omega)) hr (takes_of rfl rfl rfl rfl) rfl (a_cons (e_var (pv 10)) (a_cons (e_var (pv 6)) a_nil))))
    (s_cons (s_set 19 nd rfl (by first | exact .inl rfl | exact .inr rfl) (b_cmp (eq_ok (un64 hr)) (e_var (pv 18)) (b_callB len_ok rfl Z.z_len (by decide +kernel) (a_cons (e_var (pv 6)) a_nil))))
    (s_cons (s_set 20 nd rfl (by first | exact .inl rfl | exact .inr rfl) (b_callTy tuple_ok rfl Z.z_tuple (by decide +kernel) (a_cons (b_lc (own := [("goal", 17)]) rfl nd (i_seq (e_var (pv 6))) (by exact blk_by (by kernel_rfl)) rfl (fun s H c cl fp => (gv_name 17 (by decide) nd rfl (by first | exact .inl rfl | exact .inr rfl) (by first | exact .inr rfl | exact .inl rfl))) (fun s H c cl fp => ts_nil) (fun s H c cl fp => (e_not (e_var (pv 17))))) a_nil)))
    (s_cons (s_if (t_not (t_tru (e_call (C__law_same.mono (by first | decide | omega)) hr (takes_of rfl rfl rfl rfl) rfl (a_cons (b_lst (a_cons (e_call (C__law_told.mono (by first | decide | omega)) hr (takes_of rfl rfl rfl rfl) rfl (a_cons e_int (a_cons (e_var (pv 10)) (a_cons (e_var (pv 6)) a_nil)))) (a_cons (e_call (C__law_told.mono (by first | decide | omega)) hr (takes_of rfl rfl rfl rfl) rfl (a_cons e_int (a_cons (e_var (pv 10)) (a_cons (e_var (pv 6)) a_nil)))) (a_cons (e_call (C__law_told.mono (by first | decide | omega)) hr (takes_of rfl rfl rfl rfl) rfl (a_cons e_int (a_cons (e_var (pv 10)) (a_cons (e_var (pv 20)) a_nil)))) a_nil)))) (a_cons (b_lst (a_cons (e_var (pv 18)) (a_cons (e_var (pv 19)) (a_cons (e_var (pv 19)) a_nil)))) a_nil))))) (s_one (s_ret e_bl)) s_nil)
    (s_cons (s_if (t_tru (e_var (pv 19))) (s_cons (s_set 23 nd rfl (by first | exact .inl rfl | exact .inr rfl) (b_callTy int_ok rfl Z.z_int (by decide +kernel) (a_cons (b_cmp gt_ok (b_read (cntT_ok (un65 hr)) PySem.F.plainAttrs_tuple PySem.F.slot_tuple_count PySem.F.type_tuple_count (b_sl3 (e_var (pv 6)) (o_so e_int) o_no (o_so e_int)) (a_cons e_bl a_nil)) (b_read (cntT_ok (un65 hr)) PySem.F.plainAttrs_tuple PySem.F.slot_tuple_count PySem.F.type_tuple_count (b_sl3 (e_var (pv 6)) o_no o_no (o_so e_int)) (a_cons e_bl a_nil))) a_nil)))
    (s_one (s_if (t_not (t_tru (e_call (C__law_same.mono (by first | decide | omega)) hr (takes_of rfl rfl rfl rfl) rfl (a_cons (b_lst (a_cons (e_call (C__law_told.mono (by first | decide | omega)) hr (takes_of rfl rfl rfl rfl) rfl (a_cons e_int (a_cons (e_var (pv 10)) (a_cons (e_var (pv 6)) a_nil)))) (a_cons (e_call (C__law_told.mono (by first | decide | omega)) hr (takes_of rfl rfl rfl rfl) rfl (a_cons e_int (a_cons (e_var (pv 10)) (a_cons (e_var (pv 20)) a_nil)))) a_nil))) (a_cons (b_lst (a_cons (e_var (pv 23)) (a_cons (b_bin sub_ok e_int (e_var (pv 23))) a_nil))) a_nil))))) (s_one (s_ret e_bl)) s_nil))) s_nil)
    (s_cons (s_set 21 nd rfl (by first | exact .inl rfl | exact .inr rfl) (b_sl (e_var (pv 6)) o_no (o_so (e_call (C__law_take.mono (by first | decide | omega)) hr (takes_of rfl rfl rfl rfl) rfl (a_cons (e_var (pv 1)) (a_cons (b_callB len_ok rfl Z.z_len (by decide +kernel) (a_cons (e_var (pv 6)) a_nil)) a_nil))))))
    (s_cons (s_set 22 nd rfl (by first | exact .inl rfl | exact .inr rfl) (b_bin add_ok (b_sl (e_var (pv 6)) o_no (o_so e_int)) (b_tup (a_cons (b_cmp (eq_ok (un64 hr)) (e_call (C__law_take.mono (by first | decide | omega)) hr (takes_of rfl rfl rfl rfl) rfl (a_cons (e_var (pv 1)) (a_cons e_int a_nil))) e_int) a_nil))))
    (s_cons (s_set 18 nd rfl (by first | exact .inl rfl | exact .inr rfl) (b_lst (a_cons (e_and (b_cmp (ne_ok (un64 hr)) (e_var (pv 21)) (b_tup a_nil)) (e_one (b_cmp (eq_ok (un64 hr)) (e_call (C__law_after.mono (by first | decide | omega)) hr (takes_of rfl rfl rfl rfl) rfl (a_cons (e_var (pv 10)) (a_cons (e_var (pv 21)) a_nil))) (b_callB len_ok rfl Z.z_len (by decide +kernel) (a_cons (e_var (pv 21)) a_nil))))) (a_cons (b_cmp (eq_ok (un64 hr)) (e_call (C__law_after.mono (by first | decide | omega)) hr (takes_of rfl rfl rfl rfl) rfl (a_cons (e_var (pv 10)) (a_cons (e_var (pv 22)) a_nil))) (b_callB len_ok rfl Z.z_len (by decide +kernel) (a_cons (e_var (pv 22)) a_nil))) (a_cons (e_call (C__law_after.mono (by first | decide | omega)) hr (takes_of rfl rfl rfl rfl) rfl (a_cons (e_var (pv 10)) (a_cons (e_var (pv 22)) a_nil))) a_nil)))))
    (s_one (s_if (t_not (t_tru (e_call (C__law_same.mono (by first | decide | omega)) hr (takes_of rfl rfl rfl rfl) rfl (a_cons (b_lst (a_cons (e_call (C__law_told.mono (by first | decide | omega)) hr (takes_of rfl rfl rfl rfl) rfl (a_cons e_int (a_cons (e_var (pv 10)) (a_cons (e_var (pv 21)) a_nil)))) (a_cons (e_call (C__law_told.mono (by first | decide | omega)) hr (takes_of rfl rfl rfl rfl) rfl (a_cons e_int (a_cons (e_var (pv 10)) (a_cons (e_var (pv 22)) a_nil)))) (a_cons (e_call (C__law_told.mono (by first | decide | omega)) hr (takes_of rfl rfl rfl rfl) rfl (a_cons e_int (a_cons (e_var (pv 10)) (a_cons (e_var (pv 22)) a_nil)))) a_nil)))) (a_cons (e_var (pv 18)) a_nil))))) (s_one (s_ret e_bl)) s_nil)))))))))))
    (s_cons (s_for (passes_of rfl) rfl (i_seq (b_lst (a_cons e_int (a_cons (b_bin add_ok e_int (e_call (C__law_take.mono (by first | decide | omega)) hr (takes_of rfl rfl rfl rfl) rfl (a_cons (e_var (pv 1)) (a_cons (b_bin sub_ok e_int (e_var (pv 10))) a_nil)))) (a_cons (b_bin sub_ok e_int (e_var (pv 10))) a_nil))))) (g_name 7 nd rfl (by first | exact .inl rfl | exact .inr rfl)) (s_one (s_if (L2.PW.pt (w_or (t_not (t_tru (e_call (C__law_same.mono (by first | decide | omega)) hr (takes_of rfl rfl rfl rfl) rfl (a_cons (e_call (C__law_told.mono (by first | decide | omega)) hr (takes_of rfl rfl rfl rfl) rfl (a_cons e_int (a_cons (e_var (pv 10)) (a_cons (b_bin mul_ok e_int (b_bin add_ok (e_var (pv 10)) (e_var (pv 7)))) a_nil)))) (a_cons (b_bin mul_ok (b_bin mul_ok e_int (e_call (C__law_choices.mono (by first | decide | omega)) hr (takes_of rfl rfl rfl rfl) rfl (a_cons (b_bin mul_ok e_int (e_var (pv 10))) (a_cons (e_var (pv 10)) a_nil)))) (b_bin shl_ok e_int (b_bin sub_ok (e_var (pv 7)) e_int))) a_nil))))) (w_or1 (L2.PW.pt (w_and (b_cmpT lt_ok (e_var (pv 7)) (b_bin sub_ok e_int (e_var (pv 10)))) (w_and1 (b_cmpT (ne_ok (un64 hr)) (e_call (C__law_told.mono (by first | decide | omega)) hr (takes_of rfl rfl rfl rfl) rfl (a_cons e_int (a_cons (e_var (pv 10)) (a_cons (b_bin add_ok (b_bin mul_ok e_int (b_bin add_ok (e_var (pv 10)) (e_var (pv 7)))) e_int) a_nil)))) e_int))))))) (s_one (s_ret e_bl)) s_nil)))
    (s_cons (s_set 8 nd rfl (by first | exact .inl rfl | exact .inr rfl) (b_bin add_ok (b_lc (own := [("which", 24)]) rfl nd (i_range1 rfl Z.z_range e_int) (by exact blk_by (by kernel_rfl)) rfl (fun s H c cl fp => (gv_name 24 (by decide) nd rfl (by first | exact .inl rfl | exact .inr rfl) (by first | exact .inr rfl | exact .inl rfl))) (fun s H c cl fp => ts_nil) (fun s H c cl fp => (e_call (C__law_told.mono (by first | decide | omega)) hr takes0 rfl (a_cons (e_var (pv 24)) (a_cons e_int (a_cons (b_tup (a_cons e_bl a_nil)) a_nil)))))) (b_lc (own := [("which", 24)]) rfl nd (i_range1 rfl Z.z_range e_int) (by exact blk_by (by kernel_rfl)) rfl (fun s H c cl fp => (gv_name 24 (by decide) nd rfl (by first | exact .inl rfl | exact .inr rfl) (by first | exact .inr rfl | exact .inl rfl))) (fun s H c cl fp => ts_nil) (fun s H c cl fp => (e_call (C__law_told.mono (by first | decide | omega)) hr takes0 rfl (a_cons (e_var (pv 24)) (a_cons e_int (a_cons (b_tup (a_cons e_bl a_nil)) a_nil))))))))
    (s_cons (s_if (b_cmpT (ne_ok (un64 hr)) (b_bin add_ok (e_var (pv 8)) (b_lst (a_cons (e_call (C__law_told.mono (by first | decide | omega)) hr (takes_of rfl rfl rfl rfl) rfl (a_cons e_int (a_cons e_int (a_cons e_int a_nil)))) (a_cons (e_call (C__law_told.mono (by first | decide | omega)) hr (takes_of rfl rfl rfl rfl) rfl (a_cons e_int (a_cons e_int (a_cons e_int a_nil)))) (a_cons (e_call (C__law_told.mono (by first | decide | omega)) hr (takes_of rfl rfl rfl rfl) rfl (a_cons e_int (a_cons e_int (a_cons e_int a_nil)))) (a_cons (e_call (C__law_told.mono (by first | decide | omega)) hr (takes_of rfl rfl rfl rfl) rfl (a_cons e_int (a_cons e_int (a_cons e_int a_nil)))) a_nil)))))) (b_bin mul_ok (b_lst (a_cons e_str a_nil)) e_int)) (s_one (s_ret e_bl)) s_nil)
    (s_cons (s_set 9 nd rfl (by first | exact .inl rfl | exact .inr rfl) (b_lst (a_cons (b_tup a_nil) (a_cons (b_lst (a_cons e_bl (a_cons e_bl a_nil))) (a_cons (b_tup (a_cons e_int (a_cons e_int a_nil))) (a_cons (b_tup (a_cons e_non a_nil)) (a_cons (b_tup (a_cons e_str a_nil)) (a_cons (b_bin mul_ok (b_tup (a_cons e_bl (a_cons e_bl a_nil))) e_int) (a_cons e_non (a_cons e_str a_nil))))))))))
    (s_one (s_ret (b_cmp (eq_ok (un64 hr)) (b_lc (own := [("one", 25)]) rfl nd (i_seq (e_var (pv 9))) (by exact blk_by (by kernel_rfl)) rfl (fun s H c cl fp => (gv_name 25 (by decide) nd rfl (by first | exact .inl rfl | exact .inr rfl) (by first | exact .inr rfl | exact .inl rfl))) (fun s H c cl fp => (ts_one (b_cmpT isNot_ok (e_call (C_is_shootout.mono (by first | decide | omega)) hr takes0 rfl (a_cons e_int (a_cons (e_var (pv 25)) a_nil))) e_bl))) (fun s H c cl fp => (e_var (pv 25)))) (b_lst a_nil))))))))))))))))))

end
end K91

set_option Elab.async false
set_option linter.all false
set_option maxRecDepth 100000
set_option maxHeartbeats 0
namespace K91
open PySem PySem.Spec PyProof.Rows L2 PV
def clK (K : PySem.W.Frag) : Nat → Addr := fun _ => He.ga K "OutOfRange"
theorem tabG {base : Heap} {mg : Str → Option Value} {c P : Addr} (h : LamX.TabB base mg c P) : GxR.TabB base mg c P := ⟨h.code, h.bm, h.gP⟩
theorem facts {P : Program} {w : World} {K : PySem.W.Frag} {h : Heap} {mg : Str → Option Value} {f : Addr} (X : K.In h) (G : h.Ns mainGlobals mg) (hfa : mg ("law" : Str) = some (.ref f)) (c : He.SaysX fa fn [] tf exB w h K) :
    ∃ fd : FuncData, (∀ (s : Shared) (v : Value), BindsTo s fd ⟨[v], []⟩ [("script", v)]) ∧ ∀ base : Heap, K.In base → base.Ns mainGlobals mg → (∀ p ∈ tf.map (He.cT K), LamX.TabB base mg p.1 p.2) → FnOk P w K mg base (L2.CX P w) 12 f fd ["script"] (spFn (clK K) ((tf.map (He.cT K)).map (·.2)) ⟨K, w⟩ den_law) := by
  have ce : exB K = true := c.more
  unfold exB at ce
  simp only [Bool.and_eq_true] at ce
  obtain ⟨x0, x1⟩ := ce
  obtain ⟨fd_is_number, F_is_number⟩ := c.t.d.def_ 0 (d := dd "is_number" 4) rfl
  obtain ⟨fd_see_rounds, F_see_rounds⟩ := c.t.d.def_ 1 (d := dd "see_rounds" 8) rfl
  obtain ⟨fd_is_over, F_is_over⟩ := c.t.d.def_ 2 (d := dd "is_over" 9) rfl
  obtain ⟨fd_decided_after, F_decided_after⟩ := c.t.d.def_ 3 (d := dd "decided_after" 10) rfl
  obtain ⟨fd_is_shootout, F_is_shootout⟩ := c.t.d.def_ 4 (d := dd "is_shootout" 11) rfl
  obtain ⟨fd_winner_of, F_winner_of⟩ := c.t.d.def_ 5 (d := dd "winner_of" 12) rfl
  obtain ⟨fd_count_shootouts, F_count_shootouts⟩ := c.t.d.def_ 6 (d := dd "count_shootouts" 13) rfl
  obtain ⟨fd__law_draws, F__law_draws⟩ := c.t.d.def_ 7 (d := dd "_law_draws" 15) rfl
  obtain ⟨fd__law_take, F__law_take⟩ := c.t.d.def_ 8 (d := dd "_law_take" 16) rfl
  obtain ⟨fd__law_same, F__law_same⟩ := c.t.d.def_ 9 (d := dd "_law_same" 17) rfl
  obtain ⟨fd__law_told, F__law_told⟩ := c.t.d.def_ 10 (d := dd "_law_told" 18) rfl
  obtain ⟨fd__law_over, F__law_over⟩ := c.t.d.def_ 11 (d := dd "_law_over" 19) rfl
  obtain ⟨fd__law_after, F__law_after⟩ := c.t.d.def_ 12 (d := dd "_law_after" 20) rfl
  obtain ⟨fd__law_choices, F__law_choices⟩ := c.t.d.def_ 13 (d := dd "_law_choices" 21) rfl
  obtain ⟨fd_law, F_law⟩ := c.t.d.def_ 14 (d := dd "law" 22) rfl
  have e := hfa.symm.trans (He.glo_ok X G (c.t.d.fact 14 (f := .glo "law") rfl))
  cases e
  have b := FunD.bindsA (ps := ["script"]) F_law fun _ _ _ _ _ _ us hl => match us, hl with | [_], _ => rfl
  refine ⟨fd_law, fun s v => b s [v] rfl, fun base _ _ TBs => ?_⟩
  have Zz : Zf P w K mg base (clK K) ((tf.map (He.cT K)).map (·.2)) := {
    z_abs := He.free_ok X G (c.t.d.fact 21 (f := .free "abs") rfl)
    z_all := He.free_ok X G (c.t.d.fact 22 (f := .free "all") rfl)
    z_bool := He.free_ok X G (c.t.d.fact 23 (f := .free "bool") rfl)
    z_enumerate := He.free_ok X G (c.t.d.fact 24 (f := .free "enumerate") rfl)
    z_int := He.free_ok X G (c.t.d.fact 25 (f := .free "int") rfl)
    z_isinstance := He.free_ok X G (c.t.d.fact 26 (f := .free "isinstance") rfl)
    z_len := He.free_ok X G (c.t.d.fact 27 (f := .free "len") rfl)
    z_list := He.free_ok X G (c.t.d.fact 28 (f := .free "list") rfl)
    z_range := He.free_ok X G (c.t.d.fact 29 (f := .free "range") rfl)
    z_reversed := He.free_ok X G (c.t.d.fact 30 (f := .free "reversed") rfl)
    z_str := He.free_ok X G (c.t.d.fact 31 (f := .free "str") rfl)
    z_sum := He.free_ok X G (c.t.d.fact 32 (f := .free "sum") rfl)
    z_tuple := He.free_ok X G (c.t.d.fact 33 (f := .free "tuple") rfl)
    i_MOST_ROUNDS := He.int_ok X G (c.t.d.fact 19 (f := .int "MOST_ROUNDS" 5) rfl)
    i_MOST_KICKS := He.int_ok X G (c.t.d.fact 20 (f := .int "MOST_KICKS" 40) rfl)
    m_SportError := He.glo_ok X G (c.t.d.fact 15 (f := .glo "SportError") rfl)
    m_OutOfRange := He.glo_ok X G (c.t.d.fact 16 (f := .glo "OutOfRange") rfl)
    r_OutOfRange := exF_of X G (c.t.d.fact 16 (f := .glo "OutOfRange") rfl) (c.t.d.fact 17 (f := .exc "OutOfRange") rfl) rfl
    x__law_told := fun _ => He.exm_ok (c.t.d.fact 18 (f := .exm "OutOfRange" "SportError" true) rfl)
    u__law_told := fun c d h => ⟨(Option.some.inj h).symm, excCB_ok x0, kitB1_ok x1⟩ }
  have C__law_over := ok__law_over (base := base) F__law_over (He.glo_ok X G (c.t.d.fact 11 (f := .glo "_law_over") rfl)) Zz
  have C__law_after := ok__law_after (base := base) F__law_after (He.glo_ok X G (c.t.d.fact 12 (f := .glo "_law_after") rfl)) Zz C__law_over
  have C__law_choices := ok__law_choices (base := base) F__law_choices (He.glo_ok X G (c.t.d.fact 13 (f := .glo "_law_choices") rfl)) Zz
  have C__law_draws := ok__law_draws (base := base) F__law_draws (He.glo_ok X G (c.t.d.fact 7 (f := .glo "_law_draws") rfl)) Zz
  have C__law_same := ok__law_same (base := base) F__law_same (He.glo_ok X G (c.t.d.fact 9 (f := .glo "_law_same") rfl)) Zz fuel__law_same
  have C__law_take := ok__law_take (base := base) F__law_take (He.glo_ok X G (c.t.d.fact 8 (f := .glo "_law_take") rfl)) Zz
  have C_is_number := ok_is_number (base := base) F_is_number (He.glo_ok X G (c.t.d.fact 0 (f := .glo "is_number") rfl)) Zz
  have C_is_over := ok_is_over (base := base) F_is_over (He.glo_ok X G (c.t.d.fact 2 (f := .glo "is_over") rfl)) Zz
  have C_see_rounds := ok_see_rounds (base := base) F_see_rounds (He.glo_ok X G (c.t.d.fact 1 (f := .glo "see_rounds") rfl)) Zz C_is_number
  have C_count_shootouts := ok_count_shootouts (base := base) F_count_shootouts (He.glo_ok X G (c.t.d.fact 6 (f := .glo "count_shootouts") rfl)) Zz C_is_number C_is_over C_see_rounds
  have C_decided_after := ok_decided_after (base := base) F_decided_after (He.glo_ok X G (c.t.d.fact 3 (f := .glo "decided_after") rfl)) Zz C_is_over C_see_rounds
  have C_is_shootout := ok_is_shootout (base := base) F_is_shootout (He.glo_ok X G (c.t.d.fact 4 (f := .glo "is_shootout") rfl)) Zz C_decided_after C_see_rounds (tabG (TBs (He.cT K ("is_shootout", none)) (List.mem_map_of_mem (f := He.cT K) (List.mem_of_getElem? (i := 0) rfl)))) (List.mem_map_of_mem (f := (·.2)) (List.mem_map_of_mem (f := He.cT K) (List.mem_of_getElem? (l := tf) (i := 0) rfl)))
  have C_winner_of := ok_winner_of (base := base) F_winner_of (He.glo_ok X G (c.t.d.fact 5 (f := .glo "winner_of") rfl)) Zz C_see_rounds (tabG (TBs (He.cT K ("winner_of", none)) (List.mem_map_of_mem (f := He.cT K) (List.mem_of_getElem? (i := 1) rfl)))) (List.mem_map_of_mem (f := (·.2)) (List.mem_map_of_mem (f := He.cT K) (List.mem_of_getElem? (l := tf) (i := 1) rfl)))
  have C__law_told := ok__law_told (base := base) F__law_told (He.glo_ok X G (c.t.d.fact 10 (f := .glo "_law_told") rfl)) Zz C_count_shootouts C_decided_after C_is_shootout C_winner_of
  exact fn_law F_law Zz C__law_after C__law_choices C__law_draws C__law_over C__law_same C__law_take C__law_told C_is_shootout
end K91
open PySem PySem.W PySem.Calls PyProof.Rows
theorem PySem.Challenge.cw_sportsheld_k91_whole_penalty_kicks_holds : PySem.Challenge.rw_sportsheld_k91_whole_penalty_kicks.Holds := by
  w_on; o_law
  refine HandSHeadRun.head_any (r := OpenLaw.row PySem.Challenge.rw_sportsheld_k91_whole_penalty_kicks) (q := view (OpenLaw.row PySem.Challenge.rw_sportsheld_k91_whole_penalty_kicks).prog [22]) (H := K91.hk) (ob := K91.ob) (M := 1500) (loose := K91.names) (d := HandSHeadRun.topDef (OpenLaw.row PySem.Challenge.rw_sportsheld_k91_whole_penalty_kicks).prog 22) (kwd := []) K91.ob_eq
    (by kernel_rfl) (fun s => by kernel_rfl) K91.run (by kernel_rfl) (by kernel_rfl) (by kernel_rfl) (by rfl) (by first | assumption | decide +kernel) (by decide +kernel) ⟨rfl, rfl, rfl, rfl, rfl, by decide +kernel⟩ ?hw ?hc
  case hw => w_witness2
  case hc =>
    refine LamX.walk_ofTsE (l := PySem.Challenge.rw_sportsheld_k91_whole_penalty_kicks) (n := 63) (k := 12) (x := "script") (CX := fun w => L2.CX (PySem.Challenge.rw_sportsheld_k91_whole_penalty_kicks).prog w) rfl (by decide) (by kernel_rfl) ⟨rfl, by decide, by decide⟩ ?F ?G
    case G => exact PV.noCX
    intro w mg fa h Y G hmg0
    obtain ⟨K, KX, c⟩ := Y
    have hmg : mg ("law" : PySem.Str) = some (.ref fa) := by
      have e : (HandSHeadRun.topDef (OpenLaw.row PySem.Challenge.rw_sportsheld_k91_whole_penalty_kicks).prog 22).name = ("law" : PySem.Str) := by kernel_rfl
      rw [← e]
      exact hmg0
    obtain ⟨fd, hb, hF⟩ := K91.facts (P := (PySem.Challenge.rw_sportsheld_k91_whole_penalty_kicks).prog) (w := w) KX G hmg c
    refine ⟨K, KX, fd, K91.tf.map (He.cT K), PV.spFn (K91.clK K) ((K91.tf.map (He.cT K)).map (·.2)) ⟨K, w⟩ K91.den_law, fun p hp => ?_, fun p hp => ?_, fun p hp => ?_, hb, fun H a ns hl hbits hT hS => ?_, fun base b1 b2 b3 => hF base b1 b2 b3⟩
    · obtain ⟨q, hq, rfl⟩ := List.mem_map.mp hp
      exact c.empty q hq
    · obtain ⟨q, hq, rfl⟩ := List.mem_map.mp hp
      exact c.out q hq
    · obtain ⟨q, hq, rfl⟩ := List.mem_map.mp hp
      exact PySem.W.codeHd_of_K KX (c.hd q hq)
    · have hb2 : ∀ n ∈ ns, n.natAbs < 2 ^ 1048576 := fun n hn => PV.bits_pow (hbits n hn)
      exact PV.law_sp (fun P hP => by obtain ⟨q, hq, rfl⟩ := List.mem_map.mp hP; exact hT q hq) hS (K91.law_true _ ns (.inl rfl) hl 1048576 (by decide) (by decide) hb2) (K91.law_true _ ns (.inr rfl) hl 1048576 (by decide) (by decide) hb2)
