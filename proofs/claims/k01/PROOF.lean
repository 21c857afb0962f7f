import PyProof.Rows.All
import Wide.All
import OpenK.AllK
import Wide.FinOn
import PyProof.EqAt
import PyProof.EqKinds
import PyProof.TupleCall
import HandS.ForMost
import HandS.Exc
import HandS.TryOnly
import HandS.ExcOwn
import HandS.WordsExc
import KE.KDictKeyed
import KE.KDictCopyH
import HandS.TupAny
import HandS.IsInst
import HandS.Wide
import HandS.NoneIn
import PyProof.EqLayable
import HandS.Zip
import HandS.ExcIs
import HandS.Ends
import PySem.Challenge.RW_matchweave_k01_things_looked_at
import KE.RegKIsAll
import KE.RegKTryMore
set_option Elab.async false
section
set_option Elab.async false
set_option linter.all false
set_option maxRecDepth 100000
/-! Mir1: the mirror's data, heap and outcomes; how they lie in the hand layer's abstract heap. -/
namespace Mir
open PySem PySem.Spec
open PyProof.Rows L2

/-- a Python value as data: tuples, frozen lists and dicts are trees; ref n: the n-th cell; exn a: the exception held by a suite -/
inductive Dat where
  | non | bl (b : Bool) | int (i : Int) | str (x : Str)
  | tup (xs : List Dat) | lst (xs : List Dat) | dct (t : Bool) (ks vs : List Dat)
  | ref (n : Nat) | exn (a : Addr)

namespace Dat
mutual
def beq : Dat → Dat → Bool
  | .non, .non => true
  | .bl a, .bl b => a == b
  | .int a, .int b => decide (a = b)
  | .str a, .str b => decide (a = b)
  | .tup a, .tup b => beqs a b
  | .lst a, .lst b => beqs a b
  | .dct t a c, .dct u b d => t == u && beqs a b && beqs c d
  | .ref a, .ref b => a == b
  | .exn a, .exn b => decide (a = b)
  | _, _ => false
def beqs : List Dat → List Dat → Bool
  | [], [] => true
  | a :: as, b :: bs => beq a b && beqs as bs
  | _, _ => false
end
mutual
theorem beq_self : ∀ a : Dat, beq a a = true
  | .non => by simp [beq]
  | .bl _ => by simp [beq]
  | .int _ => by simp [beq]
  | .str _ => by simp [beq]
  | .tup a => by rw [beq]; exact beqs_self a
  | .lst a => by rw [beq]; exact beqs_self a
  | .dct t a c => by rw [beq, beqs_self a, beqs_self c]; simp
  | .ref _ => by simp [beq]
  | .exn _ => by simp [beq]
theorem beqs_self : ∀ a : List Dat, beqs a a = true
  | [] => rfl
  | a :: as => by rw [beqs, beq_self a, beqs_self as]; rfl
end
mutual
theorem eq_of_beq : ∀ a b : Dat, beq a b = true → a = b
  | .non, b, h => by cases b <;> simp [beq] at h ⊢
  | .bl a, b, h => by cases b <;> simp [beq] at h ⊢; exact h
  | .int a, b, h => by cases b <;> simp [beq] at h ⊢; exact h
  | .str a, b, h => by cases b <;> simp [beq] at h ⊢; exact h
  | .tup a, b, h => by
    cases b with
    | tup b => rw [beq] at h; rw [eq_of_beqs a b h]
    | _ => simp [beq] at h
  | .lst a, b, h => by
    cases b with
    | lst b => rw [beq] at h; rw [eq_of_beqs a b h]
    | _ => simp [beq] at h
  | .dct t a c, b, h => by
    cases b with
    | dct u b d =>
      rw [beq, Bool.and_eq_true, Bool.and_eq_true, beq_iff_eq] at h
      rw [h.1.1, eq_of_beqs a b h.1.2, eq_of_beqs c d h.2]
    | _ => simp [beq] at h
  | .ref a, b, h => by cases b <;> simp [beq] at h ⊢; exact h
  | .exn a, b, h => by cases b <;> simp [beq] at h ⊢; exact h
theorem eq_of_beqs : ∀ a b : List Dat, beqs a b = true → a = b
  | [], [], _ => rfl
  | a :: as, b :: bs, h => by
    rw [beqs, Bool.and_eq_true] at h
    rw [eq_of_beq a b h.1, eq_of_beqs as bs h.2]
  | [], _ :: _, h => by simp [beqs] at h
  | _ :: _, [], h => by simp [beqs] at h
end
instance : DecidableEq Dat := fun a b => if h : beq a b = true then Decidable.isTrue (eq_of_beq a b h) else Decidable.isFalse fun e => h (e ▸ beq_self a)
end Dat

/-- a mutable thing of the mirror's heap; v counts the changes of a dict; dead: given up -/
inductive Cell where
  | lst (xs : List Dat) | dct (t : Bool) (v : Nat) (kvs : List (Dat × Dat)) | ins (c : Str) (fs : List (Str × Dat)) | dead
  deriving DecidableEq
abbrev Hm := List Cell

/-- an outcome: stuck; a value and the heap; an exception of a class and the heap -/
inductive Res (α : Type) where
  | bad | val (a : α) (h : Hm) | exc (c : Str) (h : Hm)
def Mo (α : Type) := Hm → Res α
namespace Mo
@[reducible] def ret {α : Type} (a : α) : Mo α := fun h => .val a h
def bnd {α β : Type} (m : Mo α) (f : α → Mo β) : Mo β := fun h => match m h with
  | .bad => .bad
  | .val a h' => f a h'
  | .exc c h' => .exc c h'
instance : Monad Mo where
  pure := ret
  bind := bnd
end Mo
def bad {α : Type} : Mo α := fun _ => .bad
instance : LawfulMonad Mo := LawfulMonad.mk' Mo
  (id_map := fun x => funext fun h => by
    show Mo.bnd x (fun a => Mo.ret (id a)) h = x h
    unfold Mo.bnd
    cases x h <;> rfl)
  (pure_bind := fun _ _ => rfl)
  (bind_assoc := fun x f g => funext fun h => by
    show Mo.bnd (Mo.bnd x f) g h = Mo.bnd x (fun a => Mo.bnd (f a) g) h
    unfold Mo.bnd
    cases x h <;> rfl)
theorem bnd_val {α β : Type} {m : Mo α} {f : α → Mo β} {h h' : Hm} {a : α} (e : m h = .val a h') : (m >>= f) h = f a h' := by
  show Mo.bnd m f h = _
  unfold Mo.bnd
  rw [e]
theorem bnd_exc {α β : Type} {m : Mo α} {f : α → Mo β} {h h' : Hm} {c : Str} (e : m h = .exc c h') : (m >>= f) h = .exc c h' := by
  show Mo.bnd m f h = _
  unfold Mo.bnd
  rw [e]
theorem bnd_bad {α β : Type} {m : Mo α} {f : α → Mo β} {h : Hm} (e : m h = .bad) : (m >>= f) h = .bad := by
  show Mo.bnd m f h = _
  unfold Mo.bnd
  rw [e]

/-- keys of dicts: leaves, or tuples of leaves and tuples of leaves -/
def keyA : Dat → Option NestedKey
  | .non => some .none
  | .int i => some (.num i)
  | .str x => some (.text x)
  | _ => none
def keysBy (f : Dat → Option NestedKey) : List Dat → Option (List NestedKey)
  | [] => some []
  | d :: ds => match f d, keysBy f ds with
    | some k, some ks => some (k :: ks)
    | _, _ => none
def keyB : Dat → Option NestedKey
  | .tup xs => (keysBy keyA xs).map .tup
  | d => keyA d
def keyD : Dat → Option NestedKey
  | .tup xs => (keysBy keyB xs).map .tup
  | d => keyA d
def isTup : Dat → Bool
  | .tup _ => true
  | _ => false

/-! ### dicts in the abstract heap -/
/-- a dict, the object o: the keys as such, the keys' values, the values -/
def dD (w : World) (a : Addr) (o : Obj) (ys : List (NestedKey × V × V)) : HO := .ext fun h =>
  h.get? a = some o ∧ (a == sysModules) = false ∧ ys.length ≤ sizeLine ∧ o.ExactDict ∧ ∃ es ep, o.data = .dict es ep ∧
    Paired (fun (y : NestedKey × V × V) (e : DictEntry) => e.hash = y.1.hash w ∧ RelV y.2.1 e.key ∧ RelV y.2.2 e.val) ys es.toList ∧ (ys.map (·.1)).Nodup

structure Wd where
  P : Program
  w : World
  K : PySem.W.Frag
  mg : Str → Option Value
abbrev wd (X : Cx) : Wd := ⟨X.prog, X.w, X.K, X.mg⟩

/-- a list that never changes -/
def FzL (K : PySem.W.Frag) (H : Hp) (a : Addr) (xs : List V) : Prop :=
  (∃ o, H a = some (.frz o (.lst xs))) ∨
    ∃ (o : Obj) (its : Array Value) (n : Nat), K.lookup a = some o ∧ o.cls = .type "list" ∧ o.dict = none ∧ o.data = .seq its n ∧ its.size ≤ sizeLine ∧ Vals xs its.toList
/-- a tuple (tracked or of the module) -/
def FzT (K : PySem.W.Frag) (H : Hp) (a : Addr) (xs : List V) : Prop :=
  H a = some (.tup xs) ∨
    ∃ (o : Obj) (its : Array Value) (n : Nat), K.lookup a = some o ∧ o.cls = .type "tuple" ∧ o.data = .seq its n ∧ its.size ≤ sizeLine ∧ Vals xs its.toList
theorem FzL.sq {K : PySem.W.Frag} {H : Hp} {a : Addr} {xs : List V} (h : FzL K H a xs) : SqL K H a xs := by
  rcases h with h | h
  · exact .inl (.inr h)
  · exact .inr h
theorem FzT.sq {K : PySem.W.Frag} {H : Hp} {a : Addr} {xs : List V} (h : FzT K H a xs) : SqT K H a xs := by
  rcases h with h | h
  · exact .inl (.inl h)
  · exact .inr h

section
variable (W : Wd) (β : Nat → Addr) (N : Nat) (H : Hp)
mutual
/-- the data d lies at the value v; β: where the cells below N lie -/
def Rel : Dat → V → Prop
  | .non, v => v = .non
  | .bl b, v => v = .bl b
  | .int i, v => v = .int i
  | .str x, v => v = .str x
  | .tup xs, v => ∃ a vs, v = .ref a ∧ FzT W.K H a vs ∧ Rels xs vs
  | .lst xs, v => ∃ a vs, v = .ref a ∧ FzL W.K H a vs ∧ Rels xs vs
  | .dct t ks xs, v => ∃ a o od ns kvs vs, v = .ref a ∧ H a = some (.frz o (dD W.w a od (List.zip ns (List.zip kvs vs)))) ∧ Rels ks kvs ∧ Rels xs vs ∧ ks.length = xs.length ∧
      Paired (fun k n => keyD k = some n ∧ isTup k = t) ks ns
  | .ref n, v => n < N ∧ v = .ref (β n)
  | .exn a, v => v = .ref a
def Rels : List Dat → List V → Prop
  | [], vs => vs = []
  | d :: ds, vs => ∃ v r, vs = v :: r ∧ Rel d v ∧ Rels ds r
end
end
end Mir
end

section
set_option Elab.async false
set_option linter.all false
set_option maxRecDepth 100000
/-! Mir2: the simulation: cells, steps, frames of a def's slots. -/
namespace Mir
open PySem PySem.Spec
open PyProof.Rows L2

/-- what never changes stays -/
structure PExt (H H' : Hp) : Prop where
  tups : ∀ a xs, H a = some (.tup xs) → H' a = some (.tup xs)
  frzs : ∀ a o u, H a = some (.frz o u) → H' a = some (.frz o u)
theorem PExt.refl (H : Hp) : PExt H H := ⟨fun _ _ e => e, fun _ _ _ e => e⟩
theorem PExt.trans {H H1 H2 : Hp} (a : PExt H H1) (b : PExt H1 H2) : PExt H H2 := ⟨fun _ _ e => b.tups _ _ (a.tups _ _ e), fun _ _ _ e => b.frzs _ _ _ (a.frzs _ _ _ e)⟩
theorem FzL.mono {K : PySem.W.Frag} {H H' : Hp} {a : Addr} {xs : List V} (p : PExt H H') (h : FzL K H a xs) : FzL K H' a xs := by
  rcases h with ⟨o, h⟩ | h
  · exact .inl ⟨o, p.frzs _ _ _ h⟩
  · exact .inr h
theorem FzT.mono {K : PySem.W.Frag} {H H' : Hp} {a : Addr} {xs : List V} (p : PExt H H') (h : FzT K H a xs) : FzT K H' a xs := by
  rcases h with h | h
  · exact .inl (p.tups _ _ h)
  · exact .inr h

section
variable {W : Wd} {β β' : Nat → Addr} {N N' : Nat} {H H' : Hp}
theorem rels_paired : ∀ {ds : List Dat} {vs : List V}, Rels W β N H ds vs ↔ Paired (Rel W β N H) ds vs
  | [], vs => by
    unfold Rels
    constructor
    · rintro rfl; exact .nil
    · intro h; cases h; rfl
  | d :: ds, vs => by
    unfold Rels
    constructor
    · rintro ⟨v, r, rfl, h1, h2⟩
      exact .cons h1 (rels_paired.mp h2)
    · intro h
      cases h with
      | cons h1 h2 => exact ⟨_, _, rfl, h1, rels_paired.mpr h2⟩
mutual
theorem Rel.mono (p : PExt H H') (hN : N ≤ N') (hb : ∀ n, n < N → β' n = β n) : ∀ (d : Dat) (v : V), Rel W β N H d v → Rel W β' N' H' d v
  | .non, v, h => by unfold Rel at h ⊢; exact h
  | .bl _, v, h => by unfold Rel at h ⊢; exact h
  | .int _, v, h => by unfold Rel at h ⊢; exact h
  | .str _, v, h => by unfold Rel at h ⊢; exact h
  | .tup xs, v, h => by
    unfold Rel at h ⊢
    obtain ⟨a, vs, e, h1, h2⟩ := h
    exact ⟨a, vs, e, h1.mono p, Rels.mono p hN hb xs vs h2⟩
  | .lst xs, v, h => by
    unfold Rel at h ⊢
    obtain ⟨a, vs, e, h1, h2⟩ := h
    exact ⟨a, vs, e, h1.mono p, Rels.mono p hN hb xs vs h2⟩
  | .dct t ks xs, v, h => by
    unfold Rel at h ⊢
    obtain ⟨a, o, od, ns, kvs, vs, e, h1, h2, h3, h4, h5⟩ := h
    exact ⟨a, o, od, ns, kvs, vs, e, p.frzs _ _ _ h1, Rels.mono p hN hb ks kvs h2, Rels.mono p hN hb xs vs h3, h4, h5⟩
  | .ref n, v, h => by
    unfold Rel at h ⊢
    exact ⟨Nat.lt_of_lt_of_le h.1 hN, by rw [hb n h.1]; exact h.2⟩
  | .exn a, v, h => by unfold Rel at h ⊢; exact h
theorem Rels.mono (p : PExt H H') (hN : N ≤ N') (hb : ∀ n, n < N → β' n = β n) : ∀ (ds : List Dat) (vs : List V), Rels W β N H ds vs → Rels W β' N' H' ds vs
  | [], vs, h => by unfold Rels at h ⊢; exact h
  | d :: ds, vs, h => by
    unfold Rels at h ⊢
    obtain ⟨v, r, e, h1, h2⟩ := h
    exact ⟨v, r, e, Rel.mono p hN hb d v h1, Rels.mono p hN hb ds r h2⟩
end
theorem Rels.length : ∀ {ds : List Dat} {vs : List V}, Rels W β N H ds vs → ds.length = vs.length
  | [], vs, h => by unfold Rels at h; subst h; rfl
  | d :: ds, vs, h => by
    unfold Rels at h
    obtain ⟨v, r, rfl, _, h2⟩ := h
    simp [Rels.length h2]
end

/-- what lies at a cell's place -/
def CRel (W : Wd) (β : Nat → Addr) (N : Nat) (H : Hp) (a : Addr) : Cell → Prop
  | .lst xs => ∃ vs, H a = some (.lst vs) ∧ Rels W β N H xs vs
  | .dct t _ kvs => ∃ o ns ks vs, H a = some (dD W.w a o (List.zip ns (List.zip ks vs))) ∧ Rels W β N H (kvs.map (·.1)) ks ∧ Rels W β N H (kvs.map (·.2)) vs ∧
      Paired (fun k n => keyD k = some n ∧ isTup k = t) (kvs.map (·.1)) ns
  | .ins c fs => ∃ C dx vs, W.mg c = some (.ref C) ∧ H a = some (.ins C dx (List.zip (fs.map (·.1)) vs)) ∧ Rels W β N H (fs.map (·.2)) vs
  | .dead => True
theorem CRel.mono {W : Wd} {β β' : Nat → Addr} {N N' : Nat} {H H' : Hp} {a : Addr} {c : Cell} (p : PExt H H') (hN : N ≤ N') (hb : ∀ n, n < N → β' n = β n) (ha : c ≠ .dead → H' a = H a) (h : CRel W β N H a c) : CRel W β' N' H' a c := by
  cases c with
  | lst xs =>
    obtain ⟨vs, h1, h2⟩ := h
    exact ⟨vs, (ha (by simp)).trans h1, Rels.mono p hN hb _ _ h2⟩
  | dct t v kvs =>
    obtain ⟨o, ns, ks, vs, h1, h2, h3, h4⟩ := h
    exact ⟨o, ns, ks, vs, (ha (by simp)).trans h1, Rels.mono p hN hb _ _ h2, Rels.mono p hN hb _ _ h3, h4⟩
  | ins c fs =>
    obtain ⟨C, dx, vs, h0, h1, h2⟩ := h
    exact ⟨C, dx, vs, h0, (ha (by simp)).trans h1, Rels.mono p hN hb _ _ h2⟩
  | dead => trivial
/-- what a live cell's place holds -/
theorem CRel.some {W : Wd} {β : Nat → Addr} {N : Nat} {H : Hp} {a : Addr} {c : Cell} (h : CRel W β N H a c) (hd : c ≠ .dead) :
    ∃ u, H a = some u ∧ (∀ xs, u ≠ .tup xs) ∧ ∀ o v, u ≠ .frz o v := by
  cases c with
  | lst xs => obtain ⟨vs, h1, _⟩ := h; exact ⟨_, h1, (fun _ e => nomatch e), fun _ _ e => nomatch e⟩
  | dct t v kvs => obtain ⟨o, ns, ks, vs, h1, _⟩ := h; exact ⟨_, h1, (fun _ e => nomatch e), fun _ _ e => nomatch e⟩
  | ins c fs => obtain ⟨C, dx, vs, _, h1, _⟩ := h; exact ⟨_, h1, (fun _ e => nomatch e), fun _ _ e => nomatch e⟩
  | dead => exact absurd rfl hd

/-- the mirror's heap lies in the abstract heap -/
structure Sim (W : Wd) (β : Nat → Addr) (H : Hp) (h : Hm) : Prop where
  cell : ∀ (n : Nat) c, h[n]? = some c → CRel W β h.length H (β n) c
  inj : ∀ (n m : Nat) c d, h[n]? = some c → c ≠ .dead → h[m]? = some d → d ≠ .dead → β n = β m → n = m
def Live (β : Nat → Addr) (h : Hm) (a : Addr) : Prop := ∃ n c, h[n]? = some c ∧ c ≠ .dead ∧ β n = a

/-- from (β, H, h) to (β', H', h'): the cells as they are now; all else that was tracked as it was -/
structure Aft (W : Wd) (β : Nat → Addr) (H : Hp) (h : Hm) (β' : Nat → Addr) (H' : Hp) (h' : Hm) : Prop where
  len : h.length ≤ h'.length
  agree : ∀ n, n < h.length → β' n = β n
  sim : Sim W β' H' h'
  rest : ∀ a o, H a = some o → ¬ Live β h a → H' a = some o
  dead : ∀ n : Nat, h[n]? = some Cell.dead → h'[n]? = some Cell.dead
  fresh : ∀ (n : Nat) c, h.length ≤ n → h'[n]? = some c → c ≠ .dead → H (β' n) = none
  keep : ∀ a, H a ≠ none → H' a ≠ none
  vers : ∀ (n : Nat) t v kvs c', h[n]? = some (Cell.dct t v kvs) → h'[n]? = some c' → c' = .dead ∨ ∃ t' v' kvs', c' = .dct t' v' kvs' ∧ v ≤ v' ∧ (v' = v → t' = t ∧ kvs' = kvs ∧ H' (β' n) = H (β n))

section
variable {W : Wd} {β β1 β2 : Nat → Addr} {H H1 H2 : Hp} {h h1 h2 : Hm}
theorem Sim.notLive (s : Sim W β H h) {a : Addr} {u : HO} (e : H a = some u) (hu : (∃ xs, u = .tup xs) ∨ ∃ o v, u = .frz o v) : ¬ Live β h a := by
  rintro ⟨n, c, h1, h2, h3⟩
  obtain ⟨u', e', n1, n2⟩ := (s.cell n c h1).some h2
  rw [h3, e] at e'
  cases e'
  rcases hu with ⟨xs, rfl⟩ | ⟨o, v, rfl⟩
  · exact n1 _ rfl
  · exact n2 _ _ rfl
theorem Aft.pext (a : Aft W β H h β1 H1 h1) (s : Sim W β H h) : PExt H H1 :=
  ⟨fun _ _ e => a.rest _ _ e (s.notLive e (.inl ⟨_, rfl⟩)), fun _ _ _ e => a.rest _ _ e (s.notLive e (.inr ⟨_, _, rfl⟩))⟩
theorem Aft.refl (s : Sim W β H h) : Aft W β H h β H h :=
  ⟨Nat.le_refl _, fun _ _ => rfl, s, fun _ _ e _ => e, fun _ e => e, fun n c hn e _ => (by
    rw [List.getElem?_eq_none hn] at e; cases e), fun _ e => e, fun n t v kvs c' e e' => (by rw [e] at e'; cases e'; exact .inr ⟨t, v, kvs, rfl, Nat.le_refl _, fun _ => ⟨rfl, rfl, rfl⟩⟩)⟩
theorem Aft.trans (a : Aft W β H h β1 H1 h1) (b : Aft W β1 H1 h1 β2 H2 h2) : Aft W β H h β2 H2 h2 where
  len := Nat.le_trans a.len b.len
  agree := fun n hn => (b.agree n (Nat.lt_of_lt_of_le hn a.len)).trans (a.agree n hn)
  sim := b.sim
  rest := fun p o e hl => by
    refine b.rest p o (a.rest p o e hl) ?_
    rintro ⟨n, c, e1, hc, hp⟩
    by_cases hn : n < h.length
    · have e0 : ∃ c0, h[n]? = some c0 := ⟨_, List.getElem?_eq_getElem hn⟩
      obtain ⟨c0, e0⟩ := e0
      by_cases hd : c0 = .dead
      · subst hd
        have := a.dead n e0
        rw [e1] at this; cases this
        exact hc rfl
      · exact hl ⟨n, c0, e0, hd, by rw [← a.agree n hn]; exact hp⟩
    · have := a.fresh n c (Nat.le_of_not_lt hn) e1 hc
      rw [hp, e] at this; cases this
  dead := fun n e => b.dead n (a.dead n e)
  fresh := fun n c hn e hc => by
    by_cases hn1 : n < h1.length
    · obtain ⟨c1, e1⟩ : ∃ c1, h1[n]? = some c1 := ⟨_, List.getElem?_eq_getElem hn1⟩
      have hd : c1 ≠ .dead := fun z => by
        subst z
        have := b.dead n e1
        rw [e] at this; cases this; exact hc rfl
      rw [b.agree n hn1]
      exact a.fresh n c1 hn e1 hd
    · have q := b.fresh n c (Nat.le_of_not_lt hn1) e hc
      cases z : H (β2 n) with
      | none => rfl
      | some u => exact absurd q (a.keep _ (by rw [z]; simp))
  keep := fun p e => b.keep p (a.keep p e)
  vers := fun n t v kvs c2 e e2 => by
    have hn : n < h1.length := Nat.lt_of_lt_of_le (List.getElem?_eq_some_iff.mp e).1 a.len
    obtain ⟨c1, e1⟩ : ∃ c1, h1[n]? = some c1 := ⟨_, List.getElem?_eq_getElem hn⟩
    rcases a.vers n t v kvs c1 e e1 with rfl | ⟨t1, v1, kvs1, rfl, hv, k1⟩
    · have := b.dead n e1
      rw [e2] at this; cases this
      exact .inl rfl
    · rcases b.vers n t1 v1 kvs1 c2 e1 e2 with rfl | ⟨t2, v2, kvs2, rfl, hv2, k2⟩
      · exact .inl rfl
      · refine .inr ⟨t2, v2, kvs2, rfl, Nat.le_trans hv hv2, fun z => ?_⟩
        have z1 : v1 = v := Nat.le_antisymm (by rw [← z]; exact hv2) hv
        obtain ⟨q1, q2, q3⟩ := k1 z1
        obtain ⟨q4, q5, q6⟩ := k2 (by rw [z1]; exact z)
        exact ⟨q4.trans q1, q5.trans q2, q6.trans q3⟩
theorem Aft.rel {d : Dat} {v : V} (a : Aft W β H h β1 H1 h1) (s : Sim W β H h) (r : Rel W β h.length H d v) : Rel W β1 h1.length H1 d v :=
  Rel.mono (a.pext s) a.len a.agree _ _ r
theorem Aft.rels {ds : List Dat} {vs : List V} (a : Aft W β H h β1 H1 h1) (s : Sim W β H h) (r : Rels W β h.length H ds vs) : Rels W β1 h1.length H1 ds vs :=
  Rels.mono (a.pext s) a.len a.agree _ _ r

/-- something new is tracked that is no cell -/
theorem Aft.laid {p : Addr} {o : HO} (s : Sim W β H h) (hp : H p = none) : Aft W β H h β (upd H p o) h := by
  have ne : ∀ a u, H a = some u → a ≠ p := fun a u e z => by rw [z, hp] at e; cases e
  have pe : PExt H (upd H p o) := ⟨fun a xs e => by rw [upd_ne (ne a _ e)]; exact e, fun a q u e => by rw [upd_ne (ne a _ e)]; exact e⟩
  refine ⟨Nat.le_refl _, fun _ _ => rfl, ⟨fun n c e => ?_, s.inj⟩, fun a u e _ => by rw [upd_ne (ne a u e)]; exact e, fun _ e => e, fun n c hn e _ => (by rw [List.getElem?_eq_none hn] at e; cases e), fun a e => ?_, fun n t v kvs c' e e' => ?_⟩
  · refine CRel.mono pe (Nat.le_refl _) (fun _ _ => rfl) (fun hd => ?_) (s.cell n c e)
    obtain ⟨u, e', _⟩ := (s.cell n c e).some hd
    exact upd_ne (ne _ _ e')
  · by_cases z : a = p
    · subst z; rw [upd_same]; simp
    · rw [upd_ne z]; exact e
  · rw [e] at e'; cases e'
    refine .inr ⟨t, v, kvs, rfl, Nat.le_refl _, fun _ => ⟨rfl, rfl, ?_⟩⟩
    obtain ⟨u, e2, _⟩ := (s.cell n _ e).some (by simp)
    exact upd_ne (ne _ _ e2)
/-- the place of a new cell -/
def bx (β : Nat → Addr) (N : Nat) (p : Addr) : Nat → Addr := fun n => if n = N then p else β n
theorem bx_lt {β : Nat → Addr} {N n : Nat} {p : Addr} (h : n < N) : bx β N p n = β n := if_neg (Nat.ne_of_lt h)
theorem bx_eq {β : Nat → Addr} {N : Nat} {p : Addr} : bx β N p N = p := if_pos rfl
/-- a new cell -/
theorem Aft.alloc {p : Addr} {o : HO} {c : Cell} (s : Sim W β H h) (hp : H p = none) (hc : CRel W (bx β h.length p) (h.length + 1) (upd H p o) p c) :
    Aft W β H h (bx β h.length p) (upd H p o) (h ++ [c]) := by
  have ne : ∀ a u, H a = some u → a ≠ p := fun a u e z => by rw [z, hp] at e; cases e
  have pe : PExt H (upd H p o) := ⟨fun a xs e => by rw [upd_ne (ne a _ e)]; exact e, fun a q u e => by rw [upd_ne (ne a _ e)]; exact e⟩
  have ag : ∀ n, n < h.length → (bx β h.length p) n = β n := fun n hn => bx_lt hn
  have at_ : ∀ n c', (h ++ [c])[n]? = some c' → (n < h.length ∧ h[n]? = some c') ∨ (n = h.length ∧ c' = c) := fun n c' e => by
    by_cases hn : n < h.length
    · rw [List.getElem?_append_left hn] at e; exact .inl ⟨hn, e⟩
    · rw [List.getElem?_append_right (Nat.le_of_not_lt hn)] at e
      have : n - h.length = 0 := by
        by_cases z : n - h.length = 0
        · exact z
        · rw [List.getElem?_eq_none (by simp; omega)] at e; cases e
      rw [this] at e
      simp at e
      exact .inr ⟨by omega, e.symm⟩
  refine ⟨by simp, ag, ⟨fun n c' e => ?_, fun n m c1 c2 e1 d1 e2 d2 q => ?_⟩, fun a u e _ => by rw [upd_ne (ne a u e)]; exact e, fun n e => ?_, fun n c' hn e _ => ?_, fun a e => ?_, fun n t v kvs c' e e' => ?_⟩
  · rw [List.length_append]
    rcases at_ n c' e with ⟨hn, e'⟩ | ⟨rfl, rfl⟩
    · rw [ag n hn]
      refine CRel.mono pe (Nat.le_succ _) ag (fun hd => ?_) (s.cell n c' e')
      obtain ⟨u, e2, _⟩ := (s.cell n c' e').some hd
      exact upd_ne (ne _ _ e2)
    · rw [bx_eq]
      exact hc
  · rcases at_ n c1 e1 with ⟨hn, e1'⟩ | ⟨rfl, rfl⟩ <;> rcases at_ m c2 e2 with ⟨hm, e2'⟩ | ⟨rfl, rfl⟩
    · rw [ag n hn, ag m hm] at q
      exact s.inj n m c1 c2 e1' d1 e2' d2 q
    · rw [ag n hn] at q
      rw [bx_eq] at q
      obtain ⟨u, e', _⟩ := (s.cell n c1 e1').some d1
      rw [q, hp] at e'; cases e'
    · rw [ag m hm] at q
      rw [bx_eq] at q
      obtain ⟨u, e', _⟩ := (s.cell m c2 e2').some d2
      rw [← q, hp] at e'; cases e'
    · rfl
  · have hn : n < h.length := (List.getElem?_eq_some_iff.mp e).1
    rw [List.getElem?_append_left hn]; exact e
  · rcases at_ n c' e with ⟨hn', _⟩ | ⟨rfl, _⟩
    · exact absurd hn' (Nat.not_lt.mpr hn)
    · rw [bx_eq]; exact hp
  · by_cases z : a = p
    · subst z; rw [upd_same]; simp
    · rw [upd_ne z]; exact e
  · have hn : n < h.length := (List.getElem?_eq_some_iff.mp e).1
    rw [List.getElem?_append_left hn, e] at e'
    cases e'
    refine .inr ⟨t, v, kvs, rfl, Nat.le_refl _, fun _ => ⟨rfl, rfl, ?_⟩⟩
    rw [bx_lt hn]
    obtain ⟨u, e2, _⟩ := (s.cell n _ e).some (by simp)
    exact upd_ne (ne _ _ e2)
/-- a cell is written -/
theorem Aft.write {n : Nat} {c c' : Cell} {o : HO} (s : Sim W β H h) (e : h[n]? = some c) (hd : c ≠ .dead) (hv : ∀ t v kvs, c = .dct t v kvs → c' = .dead ∨ ∃ t' v' kvs', c' = .dct t' v' kvs' ∧ v < v') (hp : ∀ u, H (β n) = some u → (∀ xs, u ≠ .tup xs) → (∀ q v, u ≠ .frz q v) → CRel W β h.length (upd H (β n) o) (β n) c') :
    Aft W β H h β (upd H (β n) o) (h.set n c') := by
  obtain ⟨u, eu, n1, n2⟩ := (s.cell n c e).some hd
  have hn : n < h.length := (List.getElem?_eq_some_iff.mp e).1
  have pe : PExt H (upd H (β n) o) := ⟨fun a xs q => by rw [upd_ne (fun z => by rw [z, eu] at q; cases q; exact n1 _ rfl)]; exact q, fun a q' u' q => by rw [upd_ne (fun z => by rw [z, eu] at q; cases q; exact n2 _ _ rfl)]; exact q⟩
  have at_ : ∀ m d, (h.set n c')[m]? = some d → (m ≠ n ∧ h[m]? = some d) ∨ (m = n ∧ d = c') := fun m d q => by
    by_cases z : m = n
    · subst z; rw [List.getElem?_set_self hn] at q; exact .inr ⟨rfl, (Option.some.inj q).symm⟩
    · rw [List.getElem?_set_ne (Ne.symm z)] at q; exact .inl ⟨z, q⟩
  refine ⟨by simp, fun _ _ => rfl, ⟨fun m d q => ?_, fun m k d1 d2 q1 z1 q2 z2 q => ?_⟩, fun a u' q nl => ?_, fun m q => ?_, fun m d hm q _ => ?_, fun a q => ?_, fun m t v kvs d q q2 => ?_⟩
  · rw [List.length_set]
    rcases at_ m d q with ⟨z, q'⟩ | ⟨rfl, rfl⟩
    · refine CRel.mono pe (Nat.le_refl _) (fun _ _ => rfl) (fun hdd => ?_) (s.cell m d q')
      exact upd_ne fun zz => z (s.inj m n d c q' hdd e hd zz)
    · exact hp u eu n1 n2
  · have base : ∀ (m : Nat) (d : Cell), (h.set n c')[m]? = some d → d ≠ .dead → ∃ d0 : Cell, h[m]? = some d0 ∧ d0 ≠ .dead := fun m d q z => by
      rcases at_ m d q with ⟨_, q'⟩ | ⟨rfl, _⟩
      · exact ⟨d, q', z⟩
      · exact ⟨c, e, hd⟩
    obtain ⟨a1, b1, b2⟩ := base m d1 q1 z1
    obtain ⟨a2, b3, b4⟩ := base k d2 q2 z2
    exact s.inj m k a1 a2 b1 b2 b3 b4 q
  · rw [upd_ne fun z => nl ⟨n, c, e, hd, z.symm⟩]; exact q
  · by_cases z : m = n
    · subst z; rw [e] at q; cases q; exact absurd rfl hd
    · rw [List.getElem?_set_ne (Ne.symm z)]; exact q
  · rw [List.getElem?_eq_none (by simpa using hm)] at q; cases q
  · by_cases z : a = β n
    · subst z; rw [upd_same]; simp
    · rw [upd_ne z]; exact q
  · by_cases z : m = n
    · subst z
      rw [List.getElem?_set_self hn] at q2
      cases q2
      rw [e] at q
      cases q
      rcases hv t v kvs rfl with rfl | ⟨t', v', kvs', rfl, lt⟩
      · exact .inl rfl
      · exact .inr ⟨t', v', kvs', rfl, Nat.le_of_lt lt, fun z => absurd z (Nat.ne_of_gt lt)⟩
    · rw [List.getElem?_set_ne (Ne.symm z), q] at q2
      cases q2
      exact .inr ⟨t, v, kvs, rfl, Nat.le_refl _, fun _ => ⟨rfl, rfl, upd_ne fun zz => z (s.inj m n _ _ q (by simp) e hd zz)⟩⟩
end

/-- the slots: what the mirror knows of them -/
abbrev Env' := List (Option Dat)
def ER (W : Wd) (l : Nat) (β : Nat → Addr) (N : Nat) (H : Hp) (ρ : Env') (σ : L2.St) : Prop := (ρ.length = l ∧ σ.length = l) ∧ ∀ (i : Nat) (d : Dat), ρ[i]? = some (some d) → ∃ v, σ[i]? = some (some v) ∧ Rel W β N H d v
section
variable {W : Wd} {l : Nat} {β β1 : Nat → Addr} {N : Nat} {H H1 : Hp} {h h1 : Hm} {ρ : Env'} {σ : L2.St}
theorem Aft.er (a : Aft W β H h β1 H1 h1) (s : Sim W β H h) (r : ER W l β h.length H ρ σ) : ER W l β1 h1.length H1 ρ σ :=
  ⟨r.1, fun i d e => let ⟨v, e1, r1⟩ := r.2 i d e; ⟨v, e1, a.rel s r1⟩⟩
theorem ER.set {i : Nat} {d : Dat} {v : V} (r : ER W l β N H ρ σ) (q : Rel W β N H d v) : ER W l β N H (ρ.set i (some d)) (σ.set i (some v)) := by
  refine ⟨⟨by rw [List.length_set]; exact r.1.1, by rw [List.length_set]; exact r.1.2⟩, fun j d' e => ?_⟩
  by_cases z : i = j
  · subst z
    by_cases hi : i < ρ.length
    · rw [List.getElem?_set_self hi] at e
      cases e
      exact ⟨v, List.getElem?_set_self (by rw [r.1.2, ← r.1.1]; exact hi), q⟩
    · rw [List.getElem?_eq_none (by simpa using hi)] at e; cases e
  · rw [List.getElem?_set_ne z] at e ⊢
    exact r.2 j d' e
theorem ER.set_none {i : Nat} {v : Option V} (r : ER W l β N H ρ σ) : ER W l β N H (ρ.set i none) (σ.set i v) := by
  refine ⟨⟨by rw [List.length_set]; exact r.1.1, by rw [List.length_set]; exact r.1.2⟩, fun j d' e => ?_⟩
  by_cases z : i = j
  · subst z
    by_cases hi : i < ρ.length
    · rw [List.getElem?_set_self hi] at e; cases e
    · rw [List.getElem?_eq_none (by simpa using hi)] at e; cases e
  · rw [List.getElem?_set_ne z] at e ⊢
    exact r.2 j d' e
end
end Mir
end

section
set_option Elab.async false
set_option linter.all false
set_option maxRecDepth 100000
/-! Mir3: the readings of mirrors; freezing. -/
namespace Mir
open PySem PySem.Spec
open PyProof.Rows L2

/-! ### weaker readings -/
theorem pe_weak {X : Cx} {e : Expr} {t t' : TE} (h : PE X e t) (w : ∀ σ H Q, t' σ H Q → t σ H Q) : PE X e t' := ⟨fun pins s σ H Q I q => h.run pins s σ H Q I (w σ H Q q)⟩
theorem pt_weak {X : Cx} {e : Expr} {t t' : TT} (h : PT X e t) (w : ∀ σ H Q, t' σ H Q → t σ H Q) : PT X e t' := ⟨fun pins s σ H Q I q => h.run pins s σ H Q I (w σ H Q q)⟩
theorem pa_weak {X : Cx} {es : List Expr} {t t' : TA} (h : PA X es t) (w : ∀ σ H Q, t' σ H Q → t σ H Q) : PA X es t' := ⟨fun pos pins s σ H Q I q => h.run pos pins s σ H Q I (w σ H Q q)⟩
theorem ps_weak {X : Cx} {st : Stmt} {t t' : TS} (h : PS X st t) (w : ∀ D σ H, t' D σ H → t D σ H) : PS X st t' := ⟨fun pins s σ H D I q => h.run pins s σ H D I (w D σ H q)⟩
theorem pss_weak {X : Cx} {st : List Stmt} {t t' : TS} (h : PSs X st t) (w : ∀ D σ H, t' D σ H → t D σ H) : PSs X st t' := ⟨fun pins s σ H D I q => h.run pins s σ H D I (w D σ H q)⟩
theorem pi_weak {X : Cx} {tg e : Expr} {t t' : TI} (h : PI X tg e t) (w : ∀ σ H Q, t' σ H Q → t σ H Q) : PI X tg e t' := ⟨fun pins s σ H Q I q => h.run pins s σ H Q I (w σ H Q q)⟩

/-! ### where an outcome lands -/
section
variable {α τ : Type} (W : Wd) (R : (Nat → Addr) → Nat → Hp → α → τ → Prop)
def Lands (β : Nat → Addr) (H : Hp) (h : Hm) (r : Res α) (Q : τ → Hp → Prop) (E : Addr → Hp → Prop) : Prop :=
  match r with
  | .bad => False
  | .val a h' => ∀ β' H' v, Aft W β H h β' H' h' → R β' h'.length H' a v → Q v H'
  | .exc c h' => ∀ β' H' C, Aft W β H h β' H' h' → W.mg c = some (.ref C) → E C H'
end
section
variable {α τ α' τ' : Type} {W : Wd} {R : (Nat → Addr) → Nat → Hp → α → τ → Prop} {R' : (Nat → Addr) → Nat → Hp → α' → τ' → Prop} {β : Nat → Addr} {H : Hp} {h : Hm} {E : Addr → Hp → Prop}
theorem Lands.ret {a : α} {v : τ} {Q : τ → Hp → Prop} (L : Lands W R β H h (.val a h) Q E) (s : Sim W β H h) (r : R β h.length H a v) : Q v H := L β H v (Aft.refl s) r
theorem Lands.mono {r : Res α} {Q Q' : τ → Hp → Prop} (L : Lands W R β H h r Q E) (hq : ∀ v H', Q v H' → Q' v H') : Lands W R β H h r Q' E := by
  cases r with
  | bad => exact L
  | val a h' => exact fun β' H' v A r => hq _ _ (L β' H' v A r)
  | exc c h' => exact L
/-- from a later state -/
theorem Lands.after {β1 : Nat → Addr} {H1 : Hp} {h1 : Hm} {r : Res α} {Q : τ → Hp → Prop} (A : Aft W β H h β1 H1 h1) (L : Lands W R β H h r Q E) : Lands W R β1 H1 h1 r Q E := by
  cases r with
  | bad => exact L
  | val a h' => exact fun β' H' v B r => L β' H' v (A.trans B) r
  | exc c h' => exact fun β' H' C B e => L β' H' C (A.trans B) e
theorem Lands.bind {m : Mo α'} {f : α' → Mo α} {Q : τ → Hp → Prop} (L : Lands W R β H h ((m >>= f) h) Q E) :
    Lands W R' β H h (m h) (fun v1 H1 => ∃ β1 h1 a1, Sim W β1 H1 h1 ∧ R' β1 h1.length H1 a1 v1 ∧ Aft W β H h β1 H1 h1 ∧ Lands W R β1 H1 h1 (f a1 h1) Q E) E := by
  cases e : m h with
  | bad => rw [bnd_bad e] at L; exact L
  | val a h1 =>
    rw [bnd_val e] at L
    exact fun β1 H1 v A r => ⟨β1, h1, a, A.sim, r, A, L.after A⟩
  | exc c h1 => rw [bnd_exc e] at L; exact L
end

/-! ### the readings -/
abbrev Mv := Env' → Mo Dat
abbrev Mb := Env' → Mo Bool
abbrev Ml := Env' → Mo (List Dat)
/-- the wish of an exception, at the slots -/
abbrev exW (Wx : WX) (σ : L2.St) : Addr → Hp → Prop := fun C H' => Wx (.ref C) none σ H'
def tM (X : Cx) (Wx : WX) (m : Mv) : TE := fun σ H Q => ∃ β ρ h, ER (wd X) X.N.length β h.length H ρ σ ∧ Sim (wd X) β H h ∧ Lands (wd X) (Rel (wd X)) β H h (m ρ h) Q (exW Wx σ)
def tMT (X : Cx) (Wx : WX) (m : Mb) : TT := fun σ H Q => ∃ β ρ h, ER (wd X) X.N.length β h.length H ρ σ ∧ Sim (wd X) β H h ∧ Lands (wd X) (fun _ _ _ (a b : Bool) => a = b) β H h (m ρ h) Q (exW Wx σ)
def tMA (X : Cx) (Wx : WX) (m : Ml) : TA := fun σ H Q => ∃ β ρ h, ER (wd X) X.N.length β h.length H ρ σ ∧ Sim (wd X) β H h ∧ Lands (wd X) (fun β N H => Rels (wd X) β N H) β H h (m ρ h) Q (exW Wx σ)
/-- a new list that nobody knows yet: what it holds -/
def tML (X : Cx) (Wx : WX) (m : Ml) : TE := fun σ H Q => ∃ β ρ h, ER (wd X) X.N.length β h.length H ρ σ ∧ Sim (wd X) β H h ∧
  Lands (wd X) (fun β N H => Rels (wd X) β N H) β H h (m ρ h) (fun vs H' => ∀ p, H' p = none → Q (.ref p) (upd H' p (.lst vs))) (exW Wx σ)
/-- a new dict that nobody knows yet -/
abbrev Md := Env' → Mo (List (Dat × Dat))
def KvR (W : Wd) (β : Nat → Addr) (N : Nat) (H : Hp) (t : Bool) (kvs : List (Dat × Dat)) (ys : List (NestedKey × V × V)) : Prop :=
  ∃ ns ks vs, ys = List.zip ns (List.zip ks vs) ∧ Rels W β N H (kvs.map (·.1)) ks ∧ Rels W β N H (kvs.map (·.2)) vs ∧ Paired (fun k n => keyD k = some n ∧ isTup k = t) (kvs.map (·.1)) ns
def tMD (X : Cx) (Wx : WX) (t : Bool) (m : Md) : TE := fun σ H Q => ∃ β ρ h, ER (wd X) X.N.length β h.length H ρ σ ∧ Sim (wd X) β H h ∧
  Lands (wd X) (fun β N H => KvR (wd X) β N H t) β H h (m ρ h) (fun ys H' => ∀ p o, H' p = none → Q (.ref p) (upd H' p (dD X.w p o ys))) (exW Wx σ)

abbrev ME (X : Cx) (Wx : WX) (e : Expr) (m : Mv) : Prop := PE X e (tM X Wx m)
abbrev MT (X : Cx) (Wx : WX) (e : Expr) (m : Mb) : Prop := PT X e (tMT X Wx m)
abbrev MA (X : Cx) (Wx : WX) (es : List Expr) (m : Ml) : Prop := PA X es (tMA X Wx m)

/-! ### freezing: what will never change any more is told so -/
def Fzb : HO → Prop
  | .lst _ => True
  | .ext _ => True
  | _ => False
/-- H': the things at S are frozen -/
def Fzn (S : Addr → Prop) (H H' : Hp) : Prop := ∀ a, (¬ S a → H' a = H a) ∧ (S a → ∃ o u, H a = some u ∧ Fzb u ∧ H' a = some (.frz o u))
theorem Fzn.nofrz {S : Addr → Prop} {H H' : Hp} (z : Fzn S H H') {a : Addr} {u : HO} (e : H a = some u) (hu : ¬ Fzb u) : H' a = some u := by
  rw [(z a).1 fun hs => ?_]
  · exact e
  · obtain ⟨o, u', e', f, _⟩ := (z a).2 hs
    rw [e] at e'; cases e'; exact hu f
theorem Fzn.non {S : Addr → Prop} {H H' : Hp} (z : Fzn S H H') {a : Addr} (e : H a = none) : H' a = none := by
  rw [(z a).1 fun hs => ?_]
  · exact e
  · obtain ⟨o, u', e', f, _⟩ := (z a).2 hs
    rw [e] at e'; cases e'
theorem Fzn.un {fs ex : List Addr} {H0 H H' : Hp} {h0 h : Heap} {S : Addr → Prop} (u : Un fs ex H0 H h0 h) (z : Fzn S H H') : Un fs ex H0 H' h0 h where
  keep := u.keep
  slot := u.slot
  free := fun b o e n hx => z.non (u.free b o e n hx)
  there := u.there
  tups := fun b xs e => z.nofrz (u.tups b xs e) (fun f => f)
  frzs := fun b o v e => z.nofrz (u.frzs b o v e) (fun f => f)
  tbls := fun b ps e => by
    obtain ⟨more, e'⟩ := u.tbls b ps e
    exact ⟨more, z.nofrz e' (fun f => f)⟩
theorem Fzn.hok {P : Program} {w : World} {H : Hp} {h : Heap} {S : Addr → Prop} (k : HOk P w H h) (hS : ∀ a, S a → ∃ u, H a = some u ∧ Fzb u) : ∃ H', Fzn S H H' ∧ HOk P w H' h := by
  classical
  let H' : Hp := fun a => if S a then (match H a, h.get? a with
    | some u, some o => some (.frz o u)
    | x, _ => x) else H a
  have z : Fzn S H H' := fun a => by
    refine ⟨fun n => if_neg n, fun hs => ?_⟩
    obtain ⟨u, e, f⟩ := hS a hs
    obtain ⟨o, eo⟩ := objOk_get (k a u e)
    refine ⟨o, u, e, f, ?_⟩
    show (if S a then _ else _) = _
    rw [if_pos hs, e, eo]
  refine ⟨H', z, fun a u e => ?_⟩
  by_cases hs : S a
  · obtain ⟨u', e', f⟩ := hS a hs
    obtain ⟨o, eo⟩ := objOk_get (k a u' e')
    have e2 : H' a = some (.frz o u') := by
      show (if S a then _ else _) = _
      rw [if_pos hs, e', eo]
    rw [e2] at e
    cases e
    refine ⟨eo, (k a u' e').stay (fun _ _ _ q => q) (fun b q => z.nofrz q (fun f => f)) fun b xs q => z.nofrz q (fun f => f)⟩
  · rw [(z a).1 hs] at e
    exact (k a u e).stay (fun _ _ _ q => q) (fun b q => z.nofrz q (fun f => f)) fun b xs q => z.nofrz q (fun f => f)
theorem Inv.frz {X : Cx} {pins : List (Addr × Obj)} {σ : L2.St} {H : Hp} {s : Shared} {S : Addr → Prop} (I : Inv X pins σ H s) (hS : ∀ a, S a → ∃ u, H a = some u ∧ Fzb u) : ∃ H', Fzn S H H' ∧ Inv X pins σ H' s := by
  obtain ⟨H', z, k⟩ := Fzn.hok I.hok hS
  exact ⟨H', z, I.ok, I.os, I.bare, z.un I.base, I.loc, I.cell, z.non I.free, fun x c e => z.non (I.freeC x c e), fun p hp => let ⟨a, b, c⟩ := I.pin p hp; ⟨a, z.non b, c⟩, k, I.len⟩
theorem pe_frz {X : Cx} {e : Expr} {t : TE} (h : PE X e t) : PE X e (fun σ H Q => t σ H fun v H1 => ∃ S : Addr → Prop, (∀ a, S a → ∃ u, H1 a = some u ∧ Fzb u) ∧ ∀ H2, Fzn S H1 H2 → Q v H2) := by
  refine ⟨fun pins s σ H Q I q => ?_⟩
  refine thn (h.run pins s σ H _ I q) fun u s' ⟨v, H1, I1, r, S, hS, q1⟩ => ?_
  obtain ⟨H2, z, I2⟩ := Inv.frz I1 hS
  exact ⟨v, H2, I2, r, q1 H2 z⟩
theorem fn_frz {P : Program} {w : World} {K : PySem.W.Frag} {mg : Str → Option Value} {base : Heap} {k : Nat} {f : Addr} {fd : FuncData} {ps : List Str} {CX : CXT} {sp : Sp} (F : FnOk P w K mg base CX k f fd ps sp)
    (len : ∀ vs H (Q : VK) E, sp vs H (fun v H1 => ∃ S : Addr → Prop, (∀ a, S a → ∃ u, H1 a = some u ∧ Fzb u) ∧ ∀ H2, Fzn S H1 H2 → Q v H2) E → vs.length = ps.length) :
    FnOk P w K mg base CX k f fd ps (fun vs H (Q : VK) E => sp vs H (fun v H1 => ∃ S : Addr → Prop, (∀ a, S a → ∃ u, H1 a = some u ∧ Fzb u) ∧ ∀ H2, Fzn S H1 H2 → Q v H2) E) := by
  refine ⟨len, fun A outer s H args us vs Q E hr e0 hb r hsp => ?_⟩
  refine codeAny_mono (F.run A outer s H args us vs _ E hr e0 hb r hsp) fun rr s' hq => ?_
  cases rr with
  | error e => exact hq
  | ok fl =>
    cases fl with
    | ret u =>
      obtain ⟨v, H', os, bare, un, hok, rv, S, hS, q⟩ := hq
      obtain ⟨H2, z, k2⟩ := Fzn.hok hok hS
      exact ⟨v, H2, os, bare, z.un un, k2, rv, q H2 z⟩
    | next => exact hq
    | brk => exact hq
    | cont => exact hq
end Mir
end

section
set_option Elab.async false
set_option linter.all false
set_option maxRecDepth 100000
/-! Mir4: names, constants, operators by their rules, and, or, not, tests, argument lists, tuples; a new list as a cell or frozen. -/
namespace Mir
open PySem PySem.Spec
open PyProof.Rows L2

abbrev WNo : WX := fun _ _ _ _ => False
/-- what an op on data asks of the abstract machine's rule -/
def OpM (W : Wd) (f : Dat → Dat → Mo Dat) (r : R2) : Prop := ∀ β H h d1 d2 x y (Q : VK) E, Sim W β H h → Rel W β h.length H d1 x → Rel W β h.length H d2 y → Lands W (Rel W) β H h (f d1 d2 h) Q E → r x y H Q
abbrev EqB : (Nat → Addr) → Nat → Hp → Bool → Bool → Prop := fun _ _ _ a b => a = b
def OpMB (W : Wd) (f : Dat → Dat → Mo Bool) (r : R2) : Prop := ∀ β H h d1 d2 x y (Q : Bool → Hp → Prop) E, Sim W β H h → Rel W β h.length H d1 x → Rel W β h.length H d2 y → Lands W EqB β H h (f d1 d2 h) Q E →
  r x y H fun v H' => ∃ k, v = .bl k ∧ Q k H'

section
variable {X : Cx} {Wx : WX}

/-! ### names, constants -/
@[simp] def mVar (i : Nat) : Mv := fun ρ => match ρ[i]? with
  | some (some d) => pure d
  | _ => bad
theorem me_var {e : Expr} (i : Nat) (h : PE X e (tVar i)) : ME X Wx e (mVar i) := pe_weak h fun σ H Q ⟨β, ρ, hm, er, s, L⟩ => by
  have L' : Lands (wd X) (Rel (wd X)) β H hm ((match ρ[i]? with | some (some d) => pure d | _ => bad : Mo Dat) hm) Q (exW Wx σ) := L
  match e : ρ[i]?, L' with
  | some (some d), L' =>
    obtain ⟨v, e1, r⟩ := er.2 i d e
    exact ⟨v, e1, Lands.ret L' s r⟩
  | some none, L' => exact False.elim L'
  | none, L' => exact False.elim L'
@[simp] def mC (d : Dat) : Mv := fun _ => pure d
theorem me_c {e : Expr} {v : V} {d : Dat} (h : PE X e (tC v)) (r : ∀ β N H, Rel (wd X) β N H d v) : ME X Wx e (mC d) := pe_weak h fun σ H Q ⟨β, ρ, hm, er, s, L⟩ => L.ret s (r _ _ _)
theorem me_int {i : Int} {j pos} : ME X Wx (.Constant (.int i) j pos) (mC (.int i)) := me_c pe_int fun _ _ _ => by unfold Rel; rfl
theorem me_bl {b : Bool} {j pos} : ME X Wx (.Constant (.bool b) j pos) (mC (.bl b)) := me_c pe_bl fun _ _ _ => by unfold Rel; rfl
theorem me_non {j pos} : ME X Wx (.Constant .none j pos) (mC .non) := me_c pe_non fun _ _ _ => by unfold Rel; rfl
theorem me_str {x : Str} {j pos} : ME X Wx (.Constant (.str x) j pos) (mC (.str x)) := me_c pe_str fun _ _ _ => by unfold Rel; rfl
theorem me_globI {x : Str} {i : Int} {t : Tok} {pos : Pos} (hm : X.mg x = some (.int i t)) (hg : Gl X x := by rfl) (hd : (x == ("__debug__" : Str)) = false := by decide) : ME X Wx (.Name x pos) (mC (.int i)) := me_c (v := .int i) (pe_glob hg hm ⟨_, rfl⟩ hd) fun _ _ _ => by unfold Rel; rfl
theorem me_globS {x y : Str} {t : Tok} {pos : Pos} (hm : X.mg x = some (.str y t)) (hg : Gl X x := by rfl) (hd : (x == ("__debug__" : Str)) = false := by decide) : ME X Wx (.Name x pos) (mC (.str y)) := me_c (v := .str y) (pe_glob hg hm ⟨_, rfl⟩ hd) fun _ _ _ => by unfold Rel; rfl

/-! ### two in a row -/
theorem two {ma mb : Mv} {α τ : Type} {R : (Nat → Addr) → Nat → Hp → α → τ → Prop} {f : Dat → Dat → Mo α} {σ : L2.St} {H : Hp} {Q : τ → Hp → Prop} {β : Nat → Addr} {ρ : Env'} {h : Hm} {P : V → V → Hp → Prop}
    (er : ER (wd X) X.N.length β h.length H ρ σ) (s : Sim (wd X) β H h) (L : Lands (wd X) R β H h ((do let x ← ma ρ; let y ← mb ρ; f x y) h) Q (exW Wx σ))
    (k : ∀ β2 H2 h2 d1 d2 x y, Sim (wd X) β2 H2 h2 → Rel (wd X) β2 h2.length H2 d1 x → Rel (wd X) β2 h2.length H2 d2 y → Lands (wd X) R β2 H2 h2 (f d1 d2 h2) Q (exW Wx σ) → P x y H2) :
    tM X Wx ma σ H fun x H1 => tM X Wx mb σ H1 fun y H2 => P x y H2 := by
  refine ⟨β, ρ, h, er, s, (Lands.bind (R' := Rel (wd X)) L).mono fun x H1 ⟨β1, h1, d1, s1, r1, A1, L1⟩ => ?_⟩
  refine ⟨β1, ρ, h1, A1.er s er, s1, (Lands.bind (R' := Rel (wd X)) L1).mono fun y H2 ⟨β2, h2, d2, s2, r2, A2, L2⟩ => ?_⟩
  exact k β2 H2 h2 d1 d2 x y s2 (A2.rel s1 r1) r2 L2
theorem one {ma : Mv} {α τ : Type} {R : (Nat → Addr) → Nat → Hp → α → τ → Prop} {f : Dat → Mo α} {σ : L2.St} {H : Hp} {Q : τ → Hp → Prop} {β : Nat → Addr} {ρ : Env'} {h : Hm} {P : V → Hp → Prop}
    (er : ER (wd X) X.N.length β h.length H ρ σ) (s : Sim (wd X) β H h) (L : Lands (wd X) R β H h ((do let x ← ma ρ; f x) h) Q (exW Wx σ))
    (k : ∀ β1 H1 h1 d1 x, Sim (wd X) β1 H1 h1 → Rel (wd X) β1 h1.length H1 d1 x → Aft (wd X) β H h β1 H1 h1 → Lands (wd X) R β1 H1 h1 (f d1 h1) Q (exW Wx σ) → P x H1) :
    tM X Wx ma σ H P := by
  refine ⟨β, ρ, h, er, s, (Lands.bind (R' := Rel (wd X)) L).mono fun x H1 ⟨β1, h1, d1, s1, r1, A1, L1⟩ => ?_⟩
  exact k β1 H1 h1 d1 x s1 r1 A1 L1

/-! ### operators -/
@[simp] def mBin (f : Dat → Dat → Mo Dat) (ma mb : Mv) : Mv := fun ρ => do let x ← ma ρ; let y ← mb ρ; f x y
@[simp] def mCmp (f : Dat → Dat → Mo Bool) (ma mb : Mv) : Mv := fun ρ => do let x ← ma ρ; let y ← mb ρ; let b ← f x y; pure (.bl b)
@[simp] def mCmpT (f : Dat → Dat → Mo Bool) (ma mb : Mv) : Mb := fun ρ => do let x ← ma ρ; let y ← mb ρ; f x y
theorem me_op {op : Operator} {r : R2} {f : Dat → Dat → Mo Dat} {a b : Expr} {ma mb : Mv} {pos : Pos} (ho : OpR X (binaryOp op) r) (hf : OpM (wd X) f r) (ha : ME X Wx a ma) (hb : ME X Wx b mb) : ME X Wx (.BinOp a op b pos) (mBin f ma mb) :=
  pe_weak (pe_op ho ha hb) fun σ H Q ⟨β, ρ, h, er, s, L⟩ => two er s L fun β2 H2 h2 d1 d2 x y s2 r1 r2 L2 => hf β2 H2 h2 d1 d2 x y Q _ s2 r1 r2 L2
/-- a comparison, as a value: PE is monotone in what is wanted -/
theorem pe_mono {e : Expr} {t : TE} (h : PE X e t) : PE X e fun σ H Q => ∃ Q' : VK, (∀ v H', Q' v H' → Q v H') ∧ t σ H Q' := ⟨fun pins s σ H Q I ⟨Q', w, q⟩ =>
  thn (h.run pins s σ H Q' I q) fun u s' ⟨v, H1, I1, r, q1⟩ => ⟨v, H1, I1, r, w v H1 q1⟩⟩
theorem Lands.boolD {W : Wd} {β : Nat → Addr} {H : Hp} {h : Hm} {m : Mo Bool} {Q : VK} {E : Addr → Hp → Prop} (L : Lands W (Rel W) β H h ((do let b ← m; pure (Dat.bl b)) h) Q E) : Lands W EqB β H h (m h) (fun k H' => Q (.bl k) H') E := by
  cases e : m h with
  | bad => rw [bnd_bad e] at L; exact L
  | val a h1 =>
    rw [bnd_val e] at L
    rintro β' H' v A rfl
    exact L β' H' _ A (by unfold Rel; rfl)
  | exc c h1 => rw [bnd_exc e] at L; exact L
theorem me_cmp {op : CmpOp} {r : R2} {f : Dat → Dat → Mo Bool} {a b : Expr} {ma mb : Mv} {pos : Pos} (ho : OpR X (compareOp op) r) (hf : OpMB (wd X) f r) (ha : ME X Wx a ma) (hb : ME X Wx b mb) (hm : behindInMarks op b = false) : ME X Wx (.Compare a [op] [b] pos) (mCmp f ma mb) :=
  pe_weak (pe_mono (pe_cmpR ho ha hb hm)) fun σ H Q ⟨β, ρ, h, er, s, L⟩ => ⟨fun v H' => ∃ k, v = .bl k ∧ Q (.bl k) H', fun v H' ⟨k, e, q⟩ => e ▸ q, two er s L fun β2 H2 h2 d1 d2 x y s2 r1 r2 L2 =>
    hf β2 H2 h2 d1 d2 x y (fun k H' => Q (.bl k) H') _ s2 r1 r2 L2.boolD⟩
theorem mt_cmp {op : CmpOp} {r : R2} {f : Dat → Dat → Mo Bool} {a b : Expr} {ma mb : Mv} {pos : Pos} (ho : OpR X (compareOp op) r) (hf : OpMB (wd X) f r) (ha : ME X Wx a ma) (hb : ME X Wx b mb) (hm : behindInMarks op b = false) : MT X Wx (.Compare a [op] [b] pos) (mCmpT f ma mb) :=
  pt_weak (pt_cmpR ho ha hb hm) fun σ H Q ⟨β, ρ, h, er, s, L⟩ => two er s L fun β2 H2 h2 d1 d2 x y s2 r1 r2 L2 =>
    hf β2 H2 h2 d1 d2 x y Q _ s2 r1 r2 L2
@[simp] def mUn (f : Dat → Mo Dat) (ma : Mv) : Mv := fun ρ => do let x ← ma ρ; f x
theorem me_un {op : UnaryOp} {r : V → Hp → VK → Prop} {f : Dat → Mo Dat} {a : Expr} {ma : Mv} {pos : Pos} (ho : UnR X (unaryOp op) r) (hf : ∀ β H h d1 x (Q : VK) E, Sim (wd X) β H h → Rel (wd X) β h.length H d1 x → Lands (wd X) (Rel (wd X)) β H h (f d1 h) Q E → r x H Q) (ha : ME X Wx a ma) :
    ME X Wx (.UnaryOp op a pos) (mUn f ma) := pe_weak (pe_un ho ha) fun σ H Q ⟨β, ρ, h, er, s, L⟩ => one er s L fun β1 H1 h1 d1 x s1 r1 _ L1 => hf β1 H1 h1 d1 x Q _ s1 r1 L1

/-! ### tests -/
@[simp] def asB : Dat → Mo Bool
  | .bl b => pure b
  | _ => bad
@[simp] def mTest (ma : Mv) : Mb := fun ρ => do let x ← ma ρ; asB x
theorem rel_bl {W : Wd} {β : Nat → Addr} {N : Nat} {H : Hp} {b : Bool} {v : V} (r : Rel W β N H (.bl b) v) : v = .bl b := by unfold Rel at r; exact r
theorem Lands.toBool {W : Wd} {β : Nat → Addr} {H : Hp} {h : Hm} {d : Dat} {v : V} {Q : Bool → Hp → Prop} {E : Addr → Hp → Prop} (L : Lands W EqB β H h (asB d h) Q E) (s : Sim W β H h) (r : Rel W β h.length H d v) : ∃ c, v = .bl c ∧ Q c H := by
  cases d with
  | bl b => exact ⟨b, rel_bl r, L.ret s rfl⟩
  | _ => exact L.elim
theorem mt_val {a : Expr} {ma : Mv} (ha : ME X Wx a ma) (he : ∀ whole, isTrue a X.env whole = (do let v ← whole; standAt a.pos; holding [v] (truthy v)) := by intro _; rfl) : MT X Wx a (mTest ma) :=
  pt_weak (pt_val ha he) fun σ H Q ⟨β, ρ, h, er, s, L⟩ => one er s L fun β1 H1 h1 d1 x s1 r1 _ L1 => L1.toBool s1 r1
@[simp] def mNotT (ma : Mb) : Mb := fun ρ => do let x ← ma ρ; pure (!x)
theorem Lands.fin {α τ α' τ' : Type} {W : Wd} {R : (Nat → Addr) → Nat → Hp → α → τ → Prop} {R' : (Nat → Addr) → Nat → Hp → α' → τ' → Prop} {β : Nat → Addr} {H : Hp} {h : Hm} {m : Mo α'} {g : α' → α} {Q : τ → Hp → Prop} {Q' : τ' → Hp → Prop} {E : Addr → Hp → Prop}
    (L : Lands W R β H h ((do let x ← m; pure (g x)) h) Q E) (k : ∀ β' H' h' a v, Sim W β' H' h' → R' β' h'.length H' a v → (∀ w, R β' h'.length H' (g a) w → Q w H') → Q' v H') : Lands W R' β H h (m h) Q' E := by
  cases e : m h with
  | bad => rw [bnd_bad e] at L; exact L
  | val a h1 =>
    rw [bnd_val e] at L
    exact fun β' H' v A r => k β' H' h1 a v A.sim r fun w rw' => L β' H' w A rw'
  | exc c h1 => rw [bnd_exc e] at L; exact L
theorem mt_not {a : Expr} {ma : Mb} {pos : Pos} (ha : MT X Wx a ma) : MT X Wx (.UnaryOp .Not a pos) (mNotT ma) :=
  pt_weak (pt_not ha) fun σ H Q ⟨β, ρ, h, er, s, L⟩ => ⟨β, ρ, h, er, s, L.fin fun β' H' h' a v _ e q => by subst e; exact q _ rfl⟩
abbrev MW (X : Cx) (Wx : WX) (e : Expr) (m : Mb) : Prop := PW X e (tMT X Wx m)
theorem pw_weak {e : Expr} {t t' : TT} (h : PW X e t) (w : ∀ σ H Q, t' σ H Q → t σ H Q) : PW X e t' := ⟨fun wh pins s σ H Q I q => h.run wh pins s σ H Q I (w σ H Q q)⟩
@[simp] def mAndT (ma mb : Mb) : Mb := fun ρ => do let x ← ma ρ; if x then mb ρ else pure false
@[simp] def mOrT (ma mb : Mb) : Mb := fun ρ => do let x ← ma ρ; if x then pure true else mb ρ
theorem oneB {ma : Mb} {α τ : Type} {R : (Nat → Addr) → Nat → Hp → α → τ → Prop} {f : Bool → Mo α} {σ : L2.St} {H : Hp} {Q : τ → Hp → Prop} {β : Nat → Addr} {ρ : Env'} {h : Hm} {P : Bool → Hp → Prop}
    (er : ER (wd X) X.N.length β h.length H ρ σ) (s : Sim (wd X) β H h) (L : Lands (wd X) R β H h ((do let x ← ma ρ; f x) h) Q (exW Wx σ))
    (k : ∀ β1 H1 h1 b, Sim (wd X) β1 H1 h1 → ER (wd X) X.N.length β1 h1.length H1 ρ σ → Aft (wd X) β H h β1 H1 h1 → Lands (wd X) R β1 H1 h1 (f b h1) Q (exW Wx σ) → P b H1) :
    tMT X Wx ma σ H P := by
  refine ⟨β, ρ, h, er, s, (Lands.bind (R' := EqB) L).mono fun x H1 ⟨β1, h1, d1, s1, r1, A1, L1⟩ => ?_⟩
  cases r1
  exact k β1 H1 h1 x s1 (A1.er s er) A1 L1
theorem mw_and1 {a : Expr} {ma : Mb} {pos : Pos} (ha : MT X Wx a ma) : MW X Wx (.BoolOp .And [a] pos) ma := pw_and1 ha
theorem mw_or1 {a : Expr} {ma : Mb} {pos : Pos} (ha : MT X Wx a ma) : MW X Wx (.BoolOp .Or [a] pos) ma := pw_or1 ha
theorem mw_and {a b : Expr} {rest : List Expr} {ma mb : Mb} {pos : Pos} (ha : MT X Wx a ma) (hb : MW X Wx (.BoolOp .And (b :: rest) pos) mb) : MW X Wx (.BoolOp .And (a :: b :: rest) pos) (mAndT ma mb) :=
  pw_weak (pw_and ha hb) fun σ H Q ⟨β, ρ, h, er, s, L⟩ => oneB er s L fun β1 H1 h1 b s1 er1 _ L1 => by
    cases b with
    | true => exact iteT ⟨β1, ρ, h1, er1, s1, L1⟩
    | false => exact iteF (L1.ret s1 rfl)
theorem mw_or {a b : Expr} {rest : List Expr} {ma mb : Mb} {pos : Pos} (ha : MT X Wx a ma) (hb : MW X Wx (.BoolOp .Or (b :: rest) pos) mb) : MW X Wx (.BoolOp .Or (a :: b :: rest) pos) (mOrT ma mb) :=
  pw_weak (pw_or ha hb) fun σ H Q ⟨β, ρ, h, er, s, L⟩ => oneB er s L fun β1 H1 h1 b s1 er1 _ L1 => by
    cases b with
    | true => exact iteT (L1.ret s1 rfl)
    | false => exact iteF ⟨β1, ρ, h1, er1, s1, L1⟩
theorem mt_bool {e : Expr} {m : Mb} (h : MW X Wx e m) : MT X Wx e m := h.pt

/-! ### and, or, not as values: of truth values but the last -/
@[simp] def mAndV (ma mb : Mv) : Mv := fun ρ => do let x ← ma ρ; let c ← asB x; if c then mb ρ else pure (.bl false)
@[simp] def mOrV (ma mb : Mv) : Mv := fun ρ => do let x ← ma ρ; let c ← asB x; if c then pure (.bl true) else mb ρ
theorem Lands.boolBind {α τ : Type} {W : Wd} {R : (Nat → Addr) → Nat → Hp → α → τ → Prop} {β : Nat → Addr} {H : Hp} {h : Hm} {d : Dat} {v : V} {f : Bool → Mo α} {Q : τ → Hp → Prop} {E : Addr → Hp → Prop} (L : Lands W R β H h ((do let c ← asB d; f c) h) Q E) (r : Rel W β h.length H d v) :
    ∃ c, v = .bl c ∧ Lands W R β H h (f c h) Q E := by
  cases d with
  | bl b => exact ⟨b, rel_bl r, L⟩
  | _ => exact L.elim
theorem me_one {op} {a : Expr} {ma : Mv} {pos : Pos} (ha : ME X Wx a ma) : ME X Wx (.BoolOp op [a] pos) ma := pe_one ha
theorem me_and {a b : Expr} {rest : List Expr} {ma mb : Mv} {pos : Pos} (ha : ME X Wx a ma) (hb : ME X Wx (.BoolOp .And (b :: rest) pos) mb) : ME X Wx (.BoolOp .And (a :: b :: rest) pos) (mAndV ma mb) :=
  pe_weak (pe_and ha hb) fun σ H Q ⟨β, ρ, h, er, s, L⟩ => one er s L fun β1 H1 h1 d1 x s1 r1 A1 L1 => by
    obtain ⟨c, e, L2⟩ := L1.boolBind r1
    refine ⟨c, e, ?_⟩
    cases c with
    | true => exact iteT ⟨β1, ρ, h1, A1.er s er, s1, L2⟩
    | false => exact iteF (L2.ret s1 (by unfold Rel; rfl))
theorem me_or {a b : Expr} {rest : List Expr} {ma mb : Mv} {pos : Pos} (ha : ME X Wx a ma) (hb : ME X Wx (.BoolOp .Or (b :: rest) pos) mb) : ME X Wx (.BoolOp .Or (a :: b :: rest) pos) (mOrV ma mb) :=
  pe_weak (pe_or ha hb) fun σ H Q ⟨β, ρ, h, er, s, L⟩ => one er s L fun β1 H1 h1 d1 x s1 r1 A1 L1 => by
    obtain ⟨c, e, L2⟩ := L1.boolBind r1
    refine ⟨c, e, ?_⟩
    cases c with
    | true => exact iteT (L2.ret s1 (by unfold Rel; rfl))
    | false => exact iteF ⟨β1, ρ, h1, A1.er s er, s1, L2⟩
@[simp] def mNotV (ma : Mv) : Mv := fun ρ => do let x ← ma ρ; let c ← asB x; pure (.bl (!c))
theorem me_not {a : Expr} {ma : Mv} {pos : Pos} (ha : ME X Wx a ma) : ME X Wx (.UnaryOp .Not a pos) (mNotV ma) :=
  pe_weak (pe_not ha) fun σ H Q ⟨β, ρ, h, er, s, L⟩ => one er s L fun β1 H1 h1 d1 x s1 r1 A1 L1 => by
    obtain ⟨c, e, L2⟩ := L1.boolBind r1
    exact ⟨c, e, L2.ret s1 (by unfold Rel; rfl)⟩
@[simp] def mIf (mt : Mb) (ma mb : Mv) : Mv := fun ρ => do let x ← mt ρ; if x then ma ρ else mb ρ
theorem me_if {c a b : Expr} {mt : Mb} {ma mb : Mv} {pos : Pos} (hc : MT X Wx c mt) (ha : ME X Wx a ma) (hb : ME X Wx b mb) : ME X Wx (.IfExp c a b pos) (mIf mt ma mb) :=
  pe_weak (pe_ifExp hc ha hb) fun σ H Q ⟨β, ρ, h, er, s, L⟩ => oneB er s L fun β1 H1 h1 b s1 er1 _ L1 => by
    cases b with
    | true => exact iteT ⟨β1, ρ, h1, er1, s1, L1⟩
    | false => exact iteF ⟨β1, ρ, h1, er1, s1, L1⟩

/-! ### argument lists, displays -/
@[simp] def mNil : Ml := fun _ => pure []
@[simp] def mCons (ma : Mv) (ms : Ml) : Ml := fun ρ => do let x ← ma ρ; let xs ← ms ρ; pure (x :: xs)
theorem ma_nil : MA X Wx [] mNil := pa_weak pa_nil fun σ H Q ⟨β, ρ, h, er, s, L⟩ => L.ret s (by unfold Rels; rfl)
theorem ma_cons {e : Expr} {es : List Expr} {ma : Mv} {ms : Ml} (ha : ME X Wx e ma) (hs : MA X Wx es ms) (hst : starEach (e :: es) X.env = (false, eval e X.env) :: starEach es X.env := by rfl) : MA X Wx (e :: es) (mCons ma ms) :=
  pa_weak (pa_cons ha hs hst) fun σ H Q ⟨β, ρ, h, er, s, L⟩ => one er s L fun β1 H1 h1 d1 x s1 r1 A1 L1 =>
    ⟨β1, ρ, h1, A1.er s er, s1, (Lands.bind (R' := fun β N H => Rels (wd X) β N H) L1).mono fun vs H2 ⟨β2, h2, ds, s2, r2, A2, L2⟩ => L2.ret s2 (by unfold Rels; exact ⟨x, vs, rfl, A2.rel s1 r1, r2⟩)⟩
/-- what an argument list gives, at once -/
theorem args {ms : Ml} {α τ : Type} {R : (Nat → Addr) → Nat → Hp → α → τ → Prop} {f : List Dat → Mo α} {σ : L2.St} {H : Hp} {Q : τ → Hp → Prop} {β : Nat → Addr} {ρ : Env'} {h : Hm} {P : List V → Hp → Prop}
    (er : ER (wd X) X.N.length β h.length H ρ σ) (s : Sim (wd X) β H h) (L : Lands (wd X) R β H h ((do let x ← ms ρ; f x) h) Q (exW Wx σ))
    (k : ∀ β1 H1 h1 ds vs, Sim (wd X) β1 H1 h1 → Rels (wd X) β1 h1.length H1 ds vs → Aft (wd X) β H h β1 H1 h1 → Lands (wd X) R β1 H1 h1 (f ds h1) Q (exW Wx σ) → P vs H1) :
    tMA X Wx ms σ H P := by
  refine ⟨β, ρ, h, er, s, (Lands.bind (R' := fun β N H => Rels (wd X) β N H) L).mono fun x H1 ⟨β1, h1, d1, s1, r1, A1, L1⟩ => ?_⟩
  exact k β1 H1 h1 d1 x s1 r1 A1 L1
@[simp] def sized (ds : List Dat) : Mo (List Dat) := if ds.length ≤ sizeLine then pure ds else bad
theorem Lands.sizeBind {α τ : Type} {W : Wd} {R : (Nat → Addr) → Nat → Hp → α → τ → Prop} {β : Nat → Addr} {H : Hp} {h : Hm} {ds : List Dat} {f : List Dat → Mo α} {Q : τ → Hp → Prop} {E : Addr → Hp → Prop} (L : Lands W R β H h ((do let c ← sized ds; f c) h) Q E) :
    ds.length ≤ sizeLine ∧ Lands W R β H h (f ds h) Q E := by
  unfold sized at L
  by_cases z : ds.length ≤ sizeLine
  · rw [if_pos z] at L; exact ⟨z, L⟩
  · rw [if_neg z] at L; exact L.elim
theorem Lands.sizeFin {W : Wd} {β : Nat → Addr} {H : Hp} {h : Hm} {ds : List Dat} {Q : List V → Hp → Prop} {E : Addr → Hp → Prop} (L : Lands W (fun β N H => Rels W β N H) β H h (sized ds h) Q E) :
    ds.length ≤ sizeLine ∧ Lands W (fun β N H => Rels W β N H) β H h (.val ds h) Q E := by
  unfold sized at L
  by_cases z : ds.length ≤ sizeLine
  · rw [if_pos z] at L; exact ⟨z, L⟩
  · rw [if_neg z] at L; exact L.elim
@[simp] def mTup (ms : Ml) : Mv := fun ρ => do let xs ← ms ρ; let ys ← sized xs; pure (.tup ys)
/-- a new tuple -/
theorem Lands.tup {W : Wd} {β : Nat → Addr} {H : Hp} {h : Hm} {ds : List Dat} {vs : List V} {p : Addr} {Q : VK} {E : Addr → Hp → Prop} (L : Lands W (Rel W) β H h (.val (.tup ds) h) Q E) (s : Sim W β H h) (r : Rels W β h.length H ds vs) (hp : H p = none) : Q (.ref p) (upd H p (.tup vs)) := by
  have A := Aft.laid (o := .tup vs) s hp
  refine L β (upd H p (.tup vs)) _ A ?_
  unfold Rel
  exact ⟨p, vs, rfl, .inl upd_same, A.rels s r⟩
theorem me_tup {es : List Expr} {ms : Ml} {x1} {pos : Pos} (h : MA X Wx es ms) : ME X Wx (.Tuple es x1 pos) (mTup ms) :=
  pe_weak (pe_tup h) fun σ H Q ⟨β, ρ, h, er, s, L⟩ => args er s L fun β1 H1 h1 ds vs s1 r1 A1 L1 => by
    obtain ⟨z, L2⟩ := L1.sizeBind
    exact ⟨by rw [← r1.length]; exact z, fun p hp => L2.tup s1 r1 hp⟩
@[simp] def mSized (ms : Ml) : Ml := fun ρ => do let xs ← ms ρ; sized xs
abbrev MLs (X : Cx) (Wx : WX) (e : Expr) (m : Ml) : Prop := PE X e (tML X Wx m)
theorem ml_lst {es : List Expr} {ms : Ml} {pos : Pos} (h : MA X Wx es ms) : MLs X Wx (.List es pos) (mSized ms) :=
  pe_weak (pe_lst h) fun σ H Q ⟨β, ρ, h, er, s, L⟩ => args er s L fun β1 H1 h1 ds vs s1 r1 A1 L1 => by
    obtain ⟨z, L2⟩ := L1.sizeFin
    exact ⟨by rw [← r1.length]; exact z, fun p hp => L2.ret s1 r1 p hp⟩

/-! ### a new list: a cell, or frozen -/
@[simp] def alloc (c : Cell) : Mo Dat := fun h => .val (.ref h.length) (h ++ [c])
@[simp] def mCell (ms : Ml) : Mv := fun ρ => do let xs ← ms ρ; alloc (.lst xs)
@[simp] def mFz (ms : Ml) : Mv := fun ρ => do let xs ← ms ρ; pure (.lst xs)
theorem bx_rels {W : Wd} {β : Nat → Addr} {H H' : Hp} {N : Nat} {p : Addr} {ds : List Dat} {vs : List V} (pe : PExt H H') (r : Rels W β N H ds vs) : Rels W (bx β N p) (N + 1) H' ds vs :=
  Rels.mono pe (Nat.le_succ _) (fun _ hn => bx_lt hn) _ _ r
theorem Sim.pext_laid {W : Wd} {β : Nat → Addr} {H : Hp} {h : Hm} {p : Addr} {o : HO} (s : Sim W β H h) (hp : H p = none) : PExt H (upd H p o) := (Aft.laid (o := o) s hp).pext s
/-- a new cell for a new list -/
theorem Lands.cellL {W : Wd} {β : Nat → Addr} {H : Hp} {h : Hm} {ds : List Dat} {vs : List V} {p : Addr} {Q : VK} {E : Addr → Hp → Prop} (L : Lands W (Rel W) β H h (.val (.ref h.length) (h ++ [.lst ds])) Q E) (s : Sim W β H h) (r : Rels W β h.length H ds vs) (hp : H p = none) : Q (.ref p) (upd H p (.lst vs)) := by
  have A := Aft.alloc (o := .lst vs) (c := .lst ds) s hp ⟨vs, upd_same, bx_rels (s.pext_laid hp) r⟩
  refine L _ _ _ A ?_
  unfold Rel
  exact ⟨by simp, by rw [bx_eq]⟩
theorem me_cell {e : Expr} {ms : Ml} (h : MLs X Wx e ms) : ME X Wx e (mCell ms) :=
  pe_weak h fun σ H Q ⟨β, ρ, h, er, s, L⟩ => ⟨β, ρ, h, er, s, (Lands.bind (R' := fun β N H => Rels (wd X) β N H) L).mono fun vs H1 ⟨β1, h1, ds, s1, r1, A1, L1⟩ p hp => L1.cellL s1 r1 hp⟩
/-- a frozen thing, tracked anew -/
theorem Fzn.one {S : Addr → Prop} {H H2 : Hp} {p : Addr} {u : HO} (hS : ∀ a, S a ↔ a = p) (hp : H p = none) (z : Fzn S (upd H p u) H2) : ∃ o, H2 = upd H p (.frz o u) := by
  obtain ⟨o, u', e, f, e2⟩ := (z p).2 ((hS p).mpr rfl)
  rw [upd_same] at e
  cases e
  refine ⟨o, funext fun a => ?_⟩
  by_cases q : a = p
  · subst q; rw [e2, upd_same]
  · rw [(z a).1 fun y => q ((hS a).mp y), upd_ne q, upd_ne q]
theorem Lands.fzL {W : Wd} {β : Nat → Addr} {H : Hp} {h : Hm} {ds : List Dat} {vs : List V} {p : Addr} {o : Obj} {Q : VK} {E : Addr → Hp → Prop} (L : Lands W (Rel W) β H h (.val (.lst ds) h) Q E) (s : Sim W β H h) (r : Rels W β h.length H ds vs) (hp : H p = none) : Q (.ref p) (upd H p (.frz o (.lst vs))) := by
  have A := Aft.laid (o := .frz o (.lst vs)) s hp
  refine L β _ _ A ?_
  unfold Rel
  exact ⟨p, vs, rfl, .inl ⟨o, upd_same⟩, A.rels s r⟩
theorem me_fz {e : Expr} {ms : Ml} (h : MLs X Wx e ms) : ME X Wx e (mFz ms) :=
  pe_weak (pe_frz h) fun σ H Q ⟨β, ρ, h, er, s, L⟩ => ⟨β, ρ, h, er, s, (Lands.bind (R' := fun β N H => Rels (wd X) β N H) L).mono fun vs H1 ⟨β1, h1, ds, s1, r1, A1, L1⟩ p hp =>
    ⟨fun a => a = p, fun a e => ⟨.lst vs, by rw [e, upd_same], trivial⟩, fun H2 z => by
      obtain ⟨o, rfl⟩ := Fzn.one (fun _ => Iff.rfl) hp z
      exact L1.fzL s1 r1 hp⟩⟩
end
end Mir
end

section
set_option Elab.async false
set_option linter.all false
set_option maxRecDepth 100000
/-! Mir5: ints, texts, tuples, lists: +, -, *, //, %, comparisons, places, slices, len, isinstance. -/
namespace Mir
open PySem PySem.Spec
open PyProof.Rows L2

/-! ### what a datum is -/
section
variable {W : Wd} {β : Nat → Addr} {N : Nat} {H : Hp} {v : V}
theorem rel_int {i : Int} (r : Rel W β N H (.int i) v) : v = .int i := by unfold Rel at r; exact r
theorem rel_str {x : Str} (r : Rel W β N H (.str x) v) : v = .str x := by unfold Rel at r; exact r
theorem rel_non (r : Rel W β N H .non v) : v = .non := by unfold Rel at r; exact r
theorem rel_tup {xs : List Dat} (r : Rel W β N H (.tup xs) v) : ∃ a vs, v = .ref a ∧ FzT W.K H a vs ∧ Rels W β N H xs vs := by unfold Rel at r; exact r
theorem mk_int {i : Int} : Rel W β N H (.int i) (.int i) := by unfold Rel; rfl
theorem mk_str {x : Str} : Rel W β N H (.str x) (.str x) := by unfold Rel; rfl
theorem mk_bl {b : Bool} : Rel W β N H (.bl b) (.bl b) := by unfold Rel; rfl
theorem mk_non : Rel W β N H .non .non := by unfold Rel; rfl
end
def cellOf (n : Nat) : Mo Cell := fun h => match h[n]? with
  | some .dead => .bad
  | some c => .val c h
  | none => .bad
theorem cellOf_val {n : Nat} {h : Hm} {c : Cell} (e : h[n]? = some c) (d : c ≠ .dead) : cellOf n h = .val c h := by
  unfold cellOf
  rw [e]
  cases c with
  | dead => exact absurd rfl d
  | lst _ => rfl
  | dct _ _ _ => rfl
  | ins _ _ => rfl
theorem cellOf_inv {n : Nat} {h h' : Hm} {c : Cell} (e : cellOf n h = .val c h') : h' = h ∧ h[n]? = some c ∧ c ≠ .dead := by
  unfold cellOf at e
  split at e
  · cases e
  · rename_i c' hc hd
    cases e
    exact ⟨rfl, hd, fun z => by first | exact hc z | exact hc (by rw [← z])⟩
  · cases e
theorem cellOf_exc {n : Nat} {h h' : Hm} {c : Str} (e : cellOf n h = .exc c h') : False := by
  unfold cellOf at e
  split at e <;> cases e
@[simp] def lstC : Cell → Mo (List Dat)
  | .lst xs => pure xs
  | _ => bad
@[simp] def listOf : Dat → Mo (List Dat)
  | .lst xs => pure xs
  | .ref n => do let c ← cellOf n; lstC c
  | _ => bad
theorem Lands.cellB {α τ : Type} {W : Wd} {R : (Nat → Addr) → Nat → Hp → α → τ → Prop} {β : Nat → Addr} {H : Hp} {h : Hm} {n : Nat} {f : Cell → Mo α} {Q : τ → Hp → Prop} {E : Addr → Hp → Prop} (L : Lands W R β H h ((do let c ← cellOf n; f c) h) Q E) (s : Sim W β H h) :
    ∃ c, h[n]? = some c ∧ c ≠ .dead ∧ CRel W β h.length H (β n) c ∧ Lands W R β H h (f c h) Q E := by
  cases e : cellOf n h with
  | bad => rw [bnd_bad e] at L; exact L.elim
  | val c h1 =>
    rw [bnd_val e] at L
    obtain ⟨rfl, e1, d⟩ := cellOf_inv e
    exact ⟨c, e1, d, s.cell n c e1, L⟩
  | exc c h1 => exact (cellOf_exc e).elim
/-- associativity, seen from the left -/
theorem bnd_assoc {α β γ : Type} (m : Mo α) (f : α → Mo β) (g : β → Mo γ) (h : Hm) : ((m >>= f) >>= g) h = (m >>= fun x => f x >>= g) h := by
  show Mo.bnd (Mo.bnd m f) g h = Mo.bnd m (fun x => Mo.bnd (f x) g) h
  unfold Mo.bnd
  cases m h <;> rfl
@[simp] def seqOf : Dat → Mo (List Dat)
  | .tup xs => pure xs
  | d => listOf d
section
variable {α τ : Type} {W : Wd} {R : (Nat → Addr) → Nat → Hp → α → τ → Prop} {β : Nat → Addr} {H : Hp} {h : Hm} {d : Dat} {v : V} {f : List Dat → Mo α} {Q : τ → Hp → Prop} {E : Addr → Hp → Prop}
theorem Lands.listB (L : Lands W R β H h ((do let xs ← listOf d; f xs) h) Q E) (s : Sim W β H h) (r : Rel W β h.length H d v) :
    ∃ a vs xs, v = .ref a ∧ SqL W.K H a vs ∧ Rels W β h.length H xs vs ∧ Lands W R β H h (f xs h) Q E := by
  cases d with
  | lst xs =>
    unfold Rel at r
    obtain ⟨a, vs, e, k, rs⟩ := r
    exact ⟨a, vs, xs, e, k.sq, rs, L⟩
  | ref n =>
    have L' : Lands W R β H h (((cellOf n >>= lstC) >>= f) h) Q E := L
    rw [bnd_assoc] at L'
    obtain ⟨c, e, hd, k, L2⟩ := Lands.cellB L' s
    cases c with
    | lst xs =>
      unfold Rel at r
      obtain ⟨vs, k, rs⟩ := k
      exact ⟨β n, vs, xs, r.2, .inl (.inl k), rs, L2⟩
    | _ => exact L2.elim
  | _ => exact L.elim
theorem Lands.seqB (L : Lands W R β H h ((do let xs ← seqOf d; f xs) h) Q E) (s : Sim W β H h) (r : Rel W β h.length H d v) :
    ∃ a vs xs, v = .ref a ∧ (SqL W.K H a vs ∨ SqT W.K H a vs) ∧ Rels W β h.length H xs vs ∧ Lands W R β H h (f xs h) Q E := by
  cases d with
  | tup xs =>
    unfold Rel at r
    obtain ⟨a, vs, e, k, rs⟩ := r
    exact ⟨a, vs, xs, e, .inr k.sq, rs, L⟩
  | lst xs => obtain ⟨a, vs, ys, e, k, rs, L'⟩ := Lands.listB (d := .lst xs) L s r; exact ⟨a, vs, ys, e, .inl k, rs, L'⟩
  | ref n => obtain ⟨a, vs, ys, e, k, rs, L'⟩ := Lands.listB (d := .ref n) L s r; exact ⟨a, vs, ys, e, .inl k, rs, L'⟩
  | _ => exact L.elim
end
@[simp] def intOf : Dat → Mo Int
  | .int i => pure i
  | _ => bad
@[simp] def strOf : Dat → Mo Str
  | .str x => pure x
  | _ => bad
section
variable {α τ : Type} {W : Wd} {R : (Nat → Addr) → Nat → Hp → α → τ → Prop} {β : Nat → Addr} {H : Hp} {h : Hm} {d : Dat} {v : V} {Q : τ → Hp → Prop} {E : Addr → Hp → Prop}
theorem Lands.intB {f : Int → Mo α} (L : Lands W R β H h ((do let xs ← intOf d; f xs) h) Q E) (r : Rel W β h.length H d v) : ∃ i, v = .int i ∧ Lands W R β H h (f i h) Q E := by
  cases d with
  | int i => exact ⟨i, rel_int r, L⟩
  | _ => exact L.elim
theorem Lands.strB {f : Str → Mo α} (L : Lands W R β H h ((do let xs ← strOf d; f xs) h) Q E) (r : Rel W β h.length H d v) : ∃ i, v = .str i ∧ Lands W R β H h (f i h) Q E := by
  cases d with
  | str i => exact ⟨i, rel_str r, L⟩
  | _ => exact L.elim
/-- a check -/
theorem Lands.ifB {c : Prop} [Decidable c] {m : Mo α} (L : Lands W R β H h ((if c then m else bad) h) Q E) : c ∧ Lands W R β H h (m h) Q E := by
  by_cases z : c
  · rw [if_pos z] at L; exact ⟨z, L⟩
  · rw [if_neg z] at L; exact L.elim
end

/-! ### arithmetic -/
@[simp] def int2 (f : Int → Int → Mo Dat) (x y : Dat) : Mo Dat := do let i ← intOf x; let j ← intOf y; f i j
theorem opM_int {W : Wd} {C : Int → Int → Prop} {g : Int → Int → Int} {f : Int → Int → Mo Dat} (hf : ∀ i j β H h (Q : VK) E, Sim W β H h → Lands W (Rel W) β H h (f i j h) Q E → C i j ∧ Q (.int (g i j)) H) : OpM W (int2 f) (rI C fun i j => .int (g i j)) :=
  fun β H h d1 d2 x y Q E s r1 r2 L => by
    obtain ⟨i, e1, L1⟩ := Lands.intB L r1
    obtain ⟨j, e2, L2⟩ := Lands.intB L1 r2
    obtain ⟨c, q⟩ := hf i j β H h Q E s L2
    exact ⟨i, j, e1, e2, c, q⟩
section
variable {X : Cx} {Wx : WX} {a b : Expr} {ma mb : Mv} {pos : Pos}
@[simp] def aSub (x y : Dat) : Mo Dat := int2 (fun i j => pure (.int (i - j))) x y
theorem op_subC {X : Cx} : OpR X (binaryOp .Sub) (rI (fun _ _ => True) fun i j => .int (i - j)) := fun pins s σ H x y v u Q I rx ry ⟨i, j, e1, e2, _, q⟩ => op_sub pins s σ H x y v u Q I rx ry ⟨i, j, e1, e2, q⟩
theorem me_sub (ha : ME X Wx a ma) (hb : ME X Wx b mb) : ME X Wx (.BinOp a .Sub b pos) (mBin aSub ma mb) :=
  me_op op_subC (opM_int (g := fun i j => i - j) fun i j β H h Q E s L => ⟨trivial, L.ret s mk_int⟩) ha hb
/-- * of great ints: together below a million bits -/
def mulOk (i j : Int) : Bool := (decide (-(2 ^ 64) < i) && decide (i < 2 ^ 64)) || (decide (-(2 ^ 64) < j) && decide (j < 2 ^ 64))
theorem mulOk_iff {i j : Int} (h : mulOk i j = true) : CMul i j := by
  unfold mulOk at h
  simp only [Bool.or_eq_true, Bool.and_eq_true, decide_eq_true_eq] at h
  exact h
@[simp] def aMul (x y : Dat) : Mo Dat := int2 (fun i j => if mulOk i j = true then pure (.int (i * j)) else bad) x y
theorem me_mul (ha : ME X Wx a ma) (hb : ME X Wx b mb) : ME X Wx (.BinOp a .Mult b pos) (mBin aMul ma mb) :=
  me_op op_mul (opM_int (g := fun i j => i * j) fun i j β H h Q E s L => ⟨mulOk_iff L.ifB.1, L.ifB.2.ret s mk_int⟩) ha hb
/-- // by a positive number below 2^30; % by a positive one -/
@[simp] def aDiv (x y : Dat) : Mo Dat := int2 (fun i j => if 0 < j ∧ j < 1073741824 then pure (.int (i / j)) else bad) x y
theorem me_div (ha : ME X Wx a ma) (hb : ME X Wx b mb) : ME X Wx (.BinOp a .FloorDiv b pos) (mBin aDiv ma mb) :=
  me_op op_fdiv (opM_int (g := fun i j => i / j) fun i j β H h Q E s L => ⟨L.ifB.1, L.ifB.2.ret s mk_int⟩) ha hb
@[simp] def aMod (x y : Dat) : Mo Dat := int2 (fun i j => if 0 < j then pure (.int (i % j)) else bad) x y
theorem me_mod (ha : ME X Wx a ma) (hb : ME X Wx b mb) : ME X Wx (.BinOp a .Mod b pos) (mBin aMod ma mb) :=
  me_op op_mod (opM_int (g := fun i j => i % j) fun i j β H h Q E s L => ⟨L.ifB.1, L.ifB.2.ret s mk_int⟩) ha hb
def powOk (i j : Int) : Bool := decide (0 ≤ j) && (decide (j ≤ 1000000) && decide (i.natAbs < 2 ^ 64))
theorem powOk_iff {i j : Int} (h : powOk i j = true) : CPow i j := by
  unfold powOk at h
  rw [Bool.and_eq_true, Bool.and_eq_true, decide_eq_true_eq, decide_eq_true_eq, decide_eq_true_eq] at h
  exact h
theorem me_powc {i j k : Int} {a1 a2 p1 p2} (h : powOk i j = true) (hk : i ^ j.toNat = k) : ME X Wx (.BinOp (.Constant (.int i) a1 p1) .Pow (.Constant (.int j) a2 p2) pos) (mC (.int k)) :=
  me_c (v := .int k) (pe_weak (pe_op op_pow pe_int pe_int) fun σ H Q q => ⟨i, j, rfl, rfl, powOk_iff h, by show Q (.int (i ^ j.toNat)) H; rw [hk]; exact q⟩) fun _ _ _ => mk_int
@[simp] def aNeg : Dat → Mo Dat := fun x => do let i ← intOf x; pure (.int (-i))
theorem me_neg (ha : ME X Wx a ma) : ME X Wx (.UnaryOp .USub a pos) (mUn aNeg ma) :=
  me_un un_neg (fun β H h d1 x Q E s r L => by
    obtain ⟨i, e, L1⟩ := Lands.intB L r
    exact ⟨i, e, L1.ret s mk_int⟩) ha

/-- + of ints, texts, tuples -/
@[simp] def aAdd : Dat → Dat → Mo Dat
  | .int i, .int j => pure (.int (i + j))
  | .str x, .str y => if x.length + y.length ≤ sizeLine then pure (.str (x ++ y)) else bad
  | .tup xs, .tup ys => if xs.length + ys.length ≤ sizeLine then pure (.tup (xs ++ ys)) else bad
  | _, _ => bad
def rAddM (K : PySem.W.Frag) : R2 := fun x y H Q => (rI0 fun i j => .int (i + j)) x y H Q ∨ ((∃ i j, x = .str i ∧ y = .str j ∧ i.length + j.length ≤ sizeLine ∧ Q (.str (i ++ j)) H) ∨ rCatA K x y H Q)
theorem Rels.append {W : Wd} {β : Nat → Addr} {N : Nat} {H : Hp} : ∀ {xs ys : List Dat} {us vs : List V}, Rels W β N H xs us → Rels W β N H ys vs → Rels W β N H (xs ++ ys) (us ++ vs)
  | [], _, us, _, h, k => by unfold Rels at h; subst h; exact k
  | x :: xs, ys, us, vs, h, k => by
    unfold Rels at h
    obtain ⟨v, r, rfl, h1, h2⟩ := h
    show Rels W β N H (x :: (xs ++ ys)) (v :: (r ++ vs))
    unfold Rels
    exact ⟨v, _, rfl, h1, Rels.append h2 k⟩
theorem addM {W : Wd} : OpM W aAdd (rAddM W.K) := fun β H h d1 d2 x y Q E s r1 r2 L => by
  cases d1 with
  | int i => cases d2 with
    | int j => exact .inl ⟨i, j, rel_int r1, rel_int r2, L.ret s mk_int⟩
    | _ => exact False.elim L
  | str a => cases d2 with
    | str b =>
      obtain ⟨z, L⟩ := Lands.ifB L
      exact .inr (.inl ⟨a, b, rel_str r1, rel_str r2, z, L.ret s mk_str⟩)
    | _ => exact False.elim L
  | tup xs => cases d2 with
    | tup ys =>
      obtain ⟨z, L⟩ := Lands.ifB L
      obtain ⟨p, us, e1, k1, q1⟩ := rel_tup r1
      obtain ⟨q, vs, e2, k2, q2⟩ := rel_tup r2
      refine .inr (.inr ⟨p, q, us, vs, e1, e2, k1.sq, k2.sq, by rw [← q1.length, ← q2.length]; exact z, fun e => ?_, fun _ e => ?_, fun _ _ p' hp => ?_⟩)
      · subst e
        have hx : xs = [] := List.length_eq_zero_iff.mp (q1.length)
        subst hx
        exact L.ret s (e2 ▸ r2)
      · subst e
        have hy : ys = [] := List.length_eq_zero_iff.mp (q2.length)
        subst hy
        rw [List.append_nil] at L
        exact L.ret s (e1 ▸ r1)
      · exact L.tup s (q1.append q2) hp
    | _ => exact False.elim L
  | _ => exact False.elim L
theorem me_add (ha : ME X Wx a ma) (hb : ME X Wx b mb) : ME X Wx (.BinOp a .Add b pos) (mBin aAdd ma mb) := me_op (op_add.or (op_add_str.or op_catA)) addM ha hb
end

/-! ### list + list, whatever their slots -/
theorem list_add_any (l : Addr) (items : Array Value) (n : Nat) (sl : Array (Option Value)) (b : Addr) (items2 : Array Value) (n2 : Nat) (sl2 : Array (Option Value)) (hc0 : items.size + items2.size ≤ sizeLine) :
    Meets (Builtin.«list.__add__» ⟨[.ref l, .ref b], []⟩) (fun _ R s => s.heap.get? l = some { cls := .type "list", dict := none, data := .seq items n, slots := sl } ∧ s.heap.get? b = some { cls := .type "list", dict := none, data := .seq items2 n2, slots := sl2 } ∧ R (.ok (.ret (Value.ref s.heap.objs.size))) { s with heap := s.heap.push { cls := Value.type "list", data := Data.seq (items ++ items2) }, toks := s.toks }) :=
  .of_wp fun prog w A R s h => by obtain ⟨hp, g, d, tk, os⟩ := s; obtain ⟨hl, hb, h⟩ := h; have f1 := AutoSeq1.idx_int; have f2 := AutoSeq1.sub_tuple_tuple; have f3 := AutoSeq1.sub_list_list; have f4 := AutoSeq1.sub_tuple_list; have f5 := AutoSeq1.sub_list_tuple; wp_walk using AutoSeq1.wpAny_loadPart' hl, AutoSeq1.wpAny_loadPart' hb; exact ⟨_, rfl, h⟩
theorem plain_any {h : Heap} {a : Addr} {its : Array Value} (p : PlainL h a its) : ∃ n sl, h.get? a = some { cls := .type "list", dict := none, data := .seq its n, slots := sl } := by
  obtain ⟨o, n, e, c, d, dd⟩ := p
  obtain ⟨oc, od, odd, osl⟩ := o
  dsimp only at c d dd
  subst c d dd
  exact ⟨n, osl, e⟩
section
variable {X : Cx} {Wx : WX} {a b : Expr} {ma mb : Mv} {pos : Pos}
def rCatL (K : PySem.W.Frag) : R2 := fun x y H Q => ∃ l b xs zs, x = .ref l ∧ y = .ref b ∧ SqL K H l xs ∧ SqL K H b zs ∧ xs.length + zs.length ≤ sizeLine ∧ ∀ p, H p = none → Q (.ref p) (upd H p (.lst (xs ++ zs)))
theorem op_catL : OpR X (binaryOp .Add) (rCatL X.K) := by
  intro pins s σ H x y v u Q I rx ry h
  obtain ⟨l, b, xs, zs, rfl, rfl, hH, hB, hz, q⟩ := h
  cases rx
  cases ry
  obtain ⟨its, r, p1, _⟩ := I.list hH
  obtain ⟨its2, r2, p2, _⟩ := I.list hB
  obtain ⟨n, sl, e⟩ := plain_any p1
  obtain ⟨n2, sl2, e2⟩ := plain_any p2
  refine concat_meets ⟨_, e, rfl⟩ ⟨_, e2, rfl⟩ noFill_list_add seq_list_add F.slot_list_add F.entry_list_add (F.args_list_add_2 _ _) (list_add_any l its.toArray n sl b its2.toArray n2 sl2 (by rw [List.size_toArray, List.size_toArray, ← r.length, ← r2.length]; exact hz)) ⟨e, e2, ?_⟩
  have ea : its.toArray ++ its2.toArray = (its ++ its2).toArray := by simp
  rw [ea]
  exact ⟨.ref _, _, I.lnew (t' := s.toks) (r.append r2) (by rw [List.length_append]; omega), rfl, q _ I.fresh⟩
@[simp] def mCat (ma mb : Mv) : Ml := fun ρ => do let x ← ma ρ; let y ← mb ρ; let xs ← listOf x; let ys ← listOf y; if xs.length + ys.length ≤ sizeLine then pure (xs ++ ys) else bad
theorem ml_cat (ha : ME X Wx a ma) (hb : ME X Wx b mb) : MLs X Wx (.BinOp a .Add b pos) (mCat ma mb) :=
  pe_weak (pe_op op_catL ha hb) fun σ H Q ⟨β, ρ, h, er, s, L⟩ => two (f := fun x y => do let xs ← listOf x; let ys ← listOf y; if xs.length + ys.length ≤ sizeLine then pure (xs ++ ys) else bad) er s L fun β2 H2 h2 d1 d2 x y s2 r1 r2 L2 => by
    obtain ⟨p, vs, xs, e1, k1, q1, L3⟩ := Lands.listB L2 s2 r1
    obtain ⟨p2, vs2, xs2, e2, k2, q2, L4⟩ := Lands.listB L3 s2 r2
    obtain ⟨z, L5⟩ := Lands.ifB L4
    exact ⟨p, p2, vs, vs2, e1, e2, k1, k2, by rw [← q1.length, ← q2.length]; exact z, fun p' hp => L5.ret s2 (q1.append q2) p' hp⟩
end

/-! ### comparisons of ints -/
@[simp] def cmpI (p : Int → Int → Bool) (x y : Dat) : Mo Bool := do let i ← intOf x; let j ← intOf y; pure (p i j)
theorem opMB_int {W : Wd} {p : Int → Int → Bool} : OpMB W (cmpI p) (rI0 fun i j => .bl (p i j)) := fun β H h d1 d2 x y Q E s r1 r2 L => by
  obtain ⟨i, e1, L1⟩ := Lands.intB L r1
  obtain ⟨j, e2, L2⟩ := Lands.intB L1 r2
  exact ⟨i, j, e1, e2, _, rfl, L2.ret s rfl⟩
@[simp] def cLt (x y : Dat) : Mo Bool := cmpI (fun i j => decide (i < j)) x y
@[simp] def cLe (x y : Dat) : Mo Bool := cmpI (fun i j => decide (i ≤ j)) x y
@[simp] def cGt (x y : Dat) : Mo Bool := cmpI (fun i j => decide (j < i)) x y
@[simp] def cGe (x y : Dat) : Mo Bool := cmpI (fun i j => decide (j ≤ i)) x y
section
variable {X : Cx} {Wx : WX} {a b c : Expr} {ma mb mc : Mv} {pos : Pos}
theorem me_lt (ha : ME X Wx a ma) (hb : ME X Wx b mb) : ME X Wx (.Compare a [.Lt] [b] pos) (mCmp cLt ma mb) := me_cmp op_lt opMB_int ha hb (nomark _)
theorem me_le (ha : ME X Wx a ma) (hb : ME X Wx b mb) : ME X Wx (.Compare a [.LtE] [b] pos) (mCmp cLe ma mb) := me_cmp op_le opMB_int ha hb (nomark _)
theorem me_gt (ha : ME X Wx a ma) (hb : ME X Wx b mb) : ME X Wx (.Compare a [.Gt] [b] pos) (mCmp cGt ma mb) := me_cmp op_gt opMB_int ha hb (nomark _)
theorem me_ge (ha : ME X Wx a ma) (hb : ME X Wx b mb) : ME X Wx (.Compare a [.GtE] [b] pos) (mCmp cGe ma mb) := me_cmp op_ge opMB_int ha hb (nomark _)
theorem mt_lt (ha : ME X Wx a ma) (hb : ME X Wx b mb) : MT X Wx (.Compare a [.Lt] [b] pos) (mCmpT cLt ma mb) := mt_cmp op_lt opMB_int ha hb (nomark _)
theorem mt_le (ha : ME X Wx a ma) (hb : ME X Wx b mb) : MT X Wx (.Compare a [.LtE] [b] pos) (mCmpT cLe ma mb) := mt_cmp op_le opMB_int ha hb (nomark _)
theorem mt_gt (ha : ME X Wx a ma) (hb : ME X Wx b mb) : MT X Wx (.Compare a [.Gt] [b] pos) (mCmpT cGt ma mb) := mt_cmp op_gt opMB_int ha hb (nomark _)
theorem mt_ge (ha : ME X Wx a ma) (hb : ME X Wx b mb) : MT X Wx (.Compare a [.GtE] [b] pos) (mCmpT cGe ma mb) := mt_cmp op_ge opMB_int ha hb (nomark _)
/-- a op b op' c -/
@[simp] def mChT (f g : Dat → Dat → Mo Bool) (ma mb mc : Mv) : Mb := fun ρ => do let x ← ma ρ; let y ← mb ρ; let k ← f x y; if k then (do let z ← mc ρ; g y z) else pure false
@[simp] def mChV (f g : Dat → Dat → Mo Bool) (ma mb mc : Mv) : Mv := fun ρ => do let b ← mChT f g ma mb mc ρ; pure (.bl b)
theorem Lands.cmpBind {α τ : Type} {W : Wd} {R : (Nat → Addr) → Nat → Hp → α → τ → Prop} {p : Int → Int → Bool} {β : Nat → Addr} {H : Hp} {h : Hm} {d1 d2 : Dat} {x y : V} {f : Bool → Mo α} {Q : τ → Hp → Prop} {E : Addr → Hp → Prop}
    (L : Lands W R β H h ((do let k ← cmpI p d1 d2; f k) h) Q E) (r1 : Rel W β h.length H d1 x) (r2 : Rel W β h.length H d2 y) : ∃ i j, x = .int i ∧ y = .int j ∧ Lands W R β H h (f (p i j) h) Q E := by
  cases d1 with
  | int i => cases d2 with
    | int j => exact ⟨i, j, rel_int r1, rel_int r2, L⟩
    | _ => exact False.elim L
  | _ => exact False.elim L
theorem chain_core {p q : Int → Int → Bool} {σ : L2.St} {H : Hp} {Q : Bool → Hp → Prop} {β : Nat → Addr} {ρ : Env'} {h : Hm} (er : ER (wd X) X.N.length β h.length H ρ σ) (s : Sim (wd X) β H h) (L : Lands (wd X) EqB β H h (mChT (cmpI p) (cmpI q) ma mb mc ρ h) Q (exW Wx σ)) :
    tChain (rI0 fun i j => .bl (p i j)) (rI0 fun i j => .bl (q i j)) (tM X Wx ma) (tM X Wx mb) (tM X Wx mc) σ H fun v H' => ∃ k, v = .bl k ∧ Q k H' := by
  refine one (f := fun x => do let y ← mb ρ; let k ← cmpI p x y; if k then (do let z ← mc ρ; cmpI q y z) else pure false) er s L fun β1 H1 h1 d1 x s1 r1 A1 L1 => ?_
  refine one (f := fun y => do let k ← cmpI p d1 y; if k then (do let z ← mc ρ; cmpI q y z) else pure false) (A1.er s er) s1 L1 fun β2 H2 h2 d2 y s2 r2 A2 L2 => ?_
  obtain ⟨i, j, e1, e2, L3⟩ := Lands.cmpBind L2 (A2.rel s1 r1) r2
  refine ⟨i, j, e1, e2, p i j, rfl, ?_⟩
  cases k : p i j with
  | false =>
    rw [k] at L3
    exact iteF ⟨false, rfl, L3.ret s2 rfl⟩
  | true =>
    rw [k] at L3
    refine iteT (one (f := fun z => cmpI q d2 z) (A2.er s1 (A1.er s er)) s2 L3 fun β3 H3 h3 d3 z s3 r3 A3 L4 => ?_)
    exact opMB_int β3 H3 h3 d2 d3 y z Q _ s3 (A3.rel s2 r2) r3 L4
theorem mt_chain {op op' : CmpOp} {p q : Int → Int → Bool} (ho : OpR X (compareOp op) (rI0 fun i j => .bl (p i j))) (ho' : OpR X (compareOp op') (rI0 fun i j => .bl (q i j))) (ha : ME X Wx a ma) (hb : ME X Wx b mb) (hc : ME X Wx c mc)
    (hm : lastMarks [op, op'] [b, c] = false := by with_unfolding_all rfl) : MT X Wx (.Compare a [op, op'] [b, c] pos) (mChT (cmpI p) (cmpI q) ma mb mc) :=
  pt_weak (pt_chain ho ho' ha hb hc hm) fun σ H Q ⟨β, ρ, h, er, s, L⟩ => chain_core er s L
theorem me_chain {op op' : CmpOp} {p q : Int → Int → Bool} (ho : OpR X (compareOp op) (rI0 fun i j => .bl (p i j))) (ho' : OpR X (compareOp op') (rI0 fun i j => .bl (q i j))) (ha : ME X Wx a ma) (hb : ME X Wx b mb) (hc : ME X Wx c mc)
    (hm : lastMarks [op, op'] [b, c] = false := by with_unfolding_all rfl) : ME X Wx (.Compare a [op, op'] [b, c] pos) (mChV (cmpI p) (cmpI q) ma mb mc) :=
  pe_weak (pe_mono (pe_chain ho ho' ha hb hc hm)) fun σ H Q ⟨β, ρ, h, er, s, L⟩ => ⟨fun v H' => ∃ k, v = .bl k ∧ Q (.bl k) H', fun v H' ⟨k, e, q⟩ => e ▸ q, chain_core (Q := fun k H' => Q (.bl k) H') er s L.boolD⟩

/-! ### is None, is not None -/
@[simp] def isNon : Dat → Bool
  | .non => true
  | _ => false
theorem rel_isNon {W : Wd} {β : Nat → Addr} {N : Nat} {H : Hp} {d : Dat} {v : V} (r : Rel W β N H d v) : decide (v = .non) = isNon d := by
  cases d <;> unfold Rel at r <;> first
    | (subst r; rfl)
    | (obtain ⟨a, vs, e, _⟩ := r; subst e; rfl)
    | (obtain ⟨a, _, _, _, _, _, e, _⟩ := r; subst e; rfl)
    | (obtain ⟨_, e⟩ := r; subst e; rfl)
@[simp] def mIsN (ma : Mv) : Mv := fun ρ => do let x ← ma ρ; pure (.bl (isNon x))
@[simp] def mNotN (ma : Mv) : Mv := fun ρ => do let x ← ma ρ; pure (.bl (!isNon x))
theorem me_isN (ha : ME X Wx a ma) {j pos'} : ME X Wx (.Compare a [.Is] [.Constant .none j pos'] pos) (mIsN ma) :=
  pe_weak (pe_cmp (pc_isN ha)) fun σ H Q ⟨β, ρ, h, er, s, L⟩ => one er s L fun β1 H1 h1 d1 x s1 r1 A1 L1 => by
    rw [rel_isNon r1]; exact L1.ret s1 mk_bl
theorem me_notN (ha : ME X Wx a ma) {j pos'} : ME X Wx (.Compare a [.IsNot] [.Constant .none j pos'] pos) (mNotN ma) :=
  pe_weak (pe_cmp (pc_notN ha)) fun σ H Q ⟨β, ρ, h, er, s, L⟩ => one er s L fun β1 H1 h1 d1 x s1 r1 A1 L1 => by
    rw [rel_isNon r1]; exact L1.ret s1 mk_bl
@[simp] def mIsNT (ma : Mv) : Mb := fun ρ => do let x ← ma ρ; pure (isNon x)
@[simp] def mNotNT (ma : Mv) : Mb := fun ρ => do let x ← ma ρ; pure (!isNon x)
theorem isn_core {g : Bool → Bool} {σ : L2.St} {H : Hp} {Q : Bool → Hp → Prop} {β : Nat → Addr} {ρ : Env'} {h : Hm} (er : ER (wd X) X.N.length β h.length H ρ σ) (s : Sim (wd X) β H h)
    (L : Lands (wd X) EqB β H h ((do let x ← ma ρ; pure (g (isNon x))) h) Q (exW Wx σ)) : tM X Wx ma σ H fun x H1 => ∃ c, V.bl (g (decide (x = .non))) = .bl c ∧ Q c H1 :=
  one er s L fun β1 H1 h1 d1 x s1 r1 _ L1 => ⟨_, rfl, by rw [rel_isNon r1]; exact L1.ret s1 rfl⟩
theorem mt_isN (ha : ME X Wx a ma) {j pos'} : MT X Wx (.Compare a [.Is] [.Constant .none j pos'] pos) (mIsNT ma) :=
  pt_weak (pt_cmp (pc_isN ha)) fun σ H Q ⟨β, ρ, h, er, s, L⟩ => isn_core (g := id) er s L
theorem mt_notN (ha : ME X Wx a ma) {j pos'} : MT X Wx (.Compare a [.IsNot] [.Constant .none j pos'] pos) (mNotNT ma) :=
  pt_weak (pt_cmp (pc_notN ha)) fun σ H Q ⟨β, ρ, h, er, s, L⟩ => isn_core (g := not) er s L
end
end Mir
end

section
set_option Elab.async false
set_option linter.all false
set_option maxRecDepth 100000
/-! Mir6: == and in of data, places, slices, len, isinstance, all, any, list, tuple, int, texts' methods. -/
namespace Mir
open PySem PySem.Spec
open PyProof.Rows L2

/-! ### data without dicts, read off the heap -/
@[simp] def optAll {α γ : Type} (f : α → Option γ) : List α → Option (List γ)
  | [] => some []
  | d :: ds => match f d, optAll f ds with
    | some k, some ks => some (k :: ks)
    | _, _ => none
def toPy (h : Hm) : Nat → Dat → Option PyData
  | 0, _ => none
  | _ + 1, .non => some .none
  | _ + 1, .bl b => some (.bool b)
  | _ + 1, .int i => some (.int i)
  | _ + 1, .str x => if PyData.canLay0 (.str x) = true then some (.str x) else none
  | n + 1, .tup xs => (optAll (toPy h n) xs).map .tuple
  | n + 1, .lst xs => (optAll (toPy h n) xs).map .list
  | n + 1, .ref k => match h[k]? with
    | some (.lst xs) => (optAll (toPy h n) xs).map .list
    | _ => none
  | _ + 1, _ => none
theorem optAll_mem {α γ : Type} {f : α → Option γ} {P : γ → Prop} (hf : ∀ a k, f a = some k → P k) : ∀ {xs : List α} {ks : List γ}, optAll f xs = some ks → ∀ k ∈ ks, P k
  | [], ks, e, k, hk => by
    unfold optAll at e
    cases e
    cases hk
  | x :: xs, ks, e, k, hk => by
    unfold optAll at e
    split at e
    · rename_i k0 ks0 e1 e2
      cases e
      rcases List.mem_cons.mp hk with rfl | hk
      · exact hf _ _ e1
      · exact optAll_mem hf e2 k hk
    · cases e
theorem canAll {ds : List PyData} (h : ∀ d ∈ ds, d.canLay0 = true) : PyData.canLayAll0 ds = true := by
  induction ds with
  | nil => rfl
  | cons d ds ih =>
    unfold PyData.canLayAll0
    rw [h d List.mem_cons_self, ih fun e he => h e (List.mem_cons_of_mem _ he)]
    rfl
theorem depAll {ds : List PyData} {n : Nat} (h : ∀ d ∈ ds, d.depth ≤ n) : PyData.depthAll ds ≤ n := by
  induction ds with
  | nil => exact Nat.zero_le _
  | cons d ds ih =>
    unfold PyData.depthAll
    exact Nat.max_le.mpr ⟨h d List.mem_cons_self, ih fun e he => h e (List.mem_cons_of_mem _ he)⟩
theorem toPy_ok (h : Hm) : ∀ (n : Nat) (d : Dat) (p : PyData), toPy h n d = some p → p.canLay0 = true ∧ p.depth ≤ n
  | 0, _, _, e => by unfold toPy at e; cases e
  | n + 1, d, p, e => by
    have key : ∀ xs ds, optAll (toPy h n) xs = some ds → PyData.canLayAll0 ds = true ∧ PyData.depthAll ds ≤ n := fun xs ds e =>
      ⟨canAll fun d hd => (optAll_mem (P := fun p => p.canLay0 = true ∧ p.depth ≤ n) (fun a k ek => toPy_ok h n a k ek) e d hd).1, depAll fun d hd => (optAll_mem (P := fun p => p.canLay0 = true ∧ p.depth ≤ n) (fun a k ek => toPy_ok h n a k ek) e d hd).2⟩
    cases d with
    | non => unfold toPy at e; cases e; exact ⟨rfl, Nat.zero_le _⟩
    | bl b => unfold toPy at e; cases e; exact ⟨rfl, Nat.zero_le _⟩
    | int b => unfold toPy at e; cases e; exact ⟨rfl, Nat.zero_le _⟩
    | str x =>
      unfold toPy at e
      split at e
      · rename_i hs; cases e; exact ⟨hs, Nat.zero_le _⟩
      · cases e
    | tup xs =>
      unfold toPy at e
      obtain ⟨ds, e1, rfl⟩ := Option.map_eq_some_iff.mp e
      obtain ⟨h1, h2⟩ := key xs ds e1
      exact ⟨h1, by unfold PyData.depth; omega⟩
    | lst xs =>
      unfold toPy at e
      obtain ⟨ds, e1, rfl⟩ := Option.map_eq_some_iff.mp e
      obtain ⟨h1, h2⟩ := key xs ds e1
      exact ⟨h1, by unfold PyData.depth; omega⟩
    | ref k =>
      unfold toPy at e
      split at e
      · obtain ⟨ds, e1, rfl⟩ := Option.map_eq_some_iff.mp e
        obtain ⟨h1, h2⟩ := key _ ds e1
        exact ⟨h1, by unfold PyData.depth; omega⟩
      · cases e
    | dct _ _ _ => unfold toPy at e; cases e
    | exn _ => unfold toPy at e; cases e
theorem toPy_shaped {h : Hm} {n : Nat} {d : Dat} {p : PyData} (e : toPy h n d = some p) (hn : n ≤ 64) : SeqAt.shaped p = true := by
  obtain ⟨h1, h2⟩ := toPy_ok h n d p e
  unfold SeqAt.shaped
  rw [h1, decide_eq_true (Nat.le_trans h2 hn)]
  rfl
theorem dp_all {K : PySem.W.Frag} {H : Hp} {W : Wd} {β : Nat → Addr} {N : Nat} {f : Dat → Option PyData} (hf : ∀ d p v, f d = some p → Rel W β N H d v → Dp K H v p) :
    ∀ {xs : List Dat} {ds : List PyData} {vs : List V}, optAll f xs = some ds → Rels W β N H xs vs → DpAll K H vs ds
  | [], ds, vs, e, r => by
    unfold optAll at e
    unfold Rels at r
    cases e
    subst r
    exact .nil
  | x :: xs, ds, vs, e, r => by
    unfold optAll at e
    unfold Rels at r
    obtain ⟨v, r', rfl, h1, h2⟩ := r
    split at e
    · rename_i k0 ks0 e1 e2
      cases e
      exact .cons (hf _ _ _ e1 h1) (dp_all hf e2 h2)
    · cases e
theorem toPy_dp {W : Wd} {β : Nat → Addr} {H : Hp} {h : Hm} (s : Sim W β H h) : ∀ (n : Nat) (d : Dat) (p : PyData) (v : V), toPy h n d = some p → Rel W β h.length H d v → Dp W.K H v p
  | 0, _, _, _, e, _ => by unfold toPy at e; cases e
  | n + 1, d, p, v, e, r => by
    have ih := toPy_dp s n
    cases d with
    | non => unfold toPy at e; cases e; rw [rel_non r]; exact .non
    | bl b => unfold toPy at e; cases e; rw [rel_bl r]; exact .bl b
    | int b => unfold toPy at e; cases e; rw [rel_int r]; exact .int b
    | str x =>
      unfold toPy at e
      split at e
      · cases e; rw [rel_str r]; exact .str x
      · cases e
    | tup xs =>
      unfold toPy at e
      obtain ⟨ds, e1, rfl⟩ := Option.map_eq_some_iff.mp e
      obtain ⟨a, vs, rfl, k, rs⟩ := rel_tup r
      exact .tup k.sq (dp_all (fun d p v e r => ih d p v e r) e1 rs)
    | lst xs =>
      unfold toPy at e
      unfold Rel at r
      obtain ⟨ds, e1, rfl⟩ := Option.map_eq_some_iff.mp e
      obtain ⟨a, vs, rfl, k, rs⟩ := r
      exact .lst k.sq (dp_all (fun d p v e r => ih d p v e r) e1 rs)
    | ref m =>
      unfold toPy at e
      unfold Rel at r
      obtain ⟨_, rfl⟩ := r
      split at e
      · rename_i xs ex
        obtain ⟨ds, e1, rfl⟩ := Option.map_eq_some_iff.mp e
        obtain ⟨vs, k, rs⟩ := s.cell m _ ex
        exact .lst (.inl (.inl k)) (dp_all (fun d p v e r => ih d p v e r) e1 rs)
      · cases e
    | dct _ _ _ => unfold toPy at e; cases e
    | exn _ => unfold toPy at e; cases e
/-- the datum as Python's data: to depth 30 -/
def pyOf (d : Dat) : Mo PyData := fun h => match toPy h 30 d with
  | some p => .val p h
  | none => .bad
theorem pyOf_val {d : Dat} {h : Hm} {p : PyData} (e : toPy h 30 d = some p) : pyOf d h = .val p h := by unfold pyOf; rw [e]
theorem Lands.pyB {α τ : Type} {W : Wd} {R : (Nat → Addr) → Nat → Hp → α → τ → Prop} {β : Nat → Addr} {H : Hp} {h : Hm} {d : Dat} {v : V} {f : PyData → Mo α} {Q : τ → Hp → Prop} {E : Addr → Hp → Prop}
    (L : Lands W R β H h ((do let c ← pyOf d; f c) h) Q E) (s : Sim W β H h) (r : Rel W β h.length H d v) : ∃ p, Dp W.K H v p ∧ SeqAt.shaped p = true ∧ toPy h 30 d = some p ∧ Lands W R β H h (f p h) Q E := by
  cases e : toPy h 30 d with
  | none => rw [bnd_bad (by unfold pyOf; rw [e])] at L; exact L.elim
  | some p =>
    rw [bnd_val (pyOf_val e)] at L
    exact ⟨p, toPy_dp s 30 d p v e r, toPy_shaped e (by decide), rfl, L⟩
def cEqD (x y : Dat) : Mo Bool := do let p ← pyOf x; let q ← pyOf y; pure (PyData.eqv p q)
def cNeD (x y : Dat) : Mo Bool := do let p ← pyOf x; let q ← pyOf y; pure (!PyData.eqv p q)
theorem opM_eqD {W : Wd} : OpMB W cEqD (rEqD W.K) := fun β H h d1 d2 x y Q E s r1 r2 L => by
  obtain ⟨p, k1, s1, _, L1⟩ := Lands.pyB L s r1
  obtain ⟨q, k2, s2, _, L2⟩ := Lands.pyB L1 s r2
  exact ⟨p, q, k1, k2, s1, s2, _, rfl, L2.ret s rfl⟩
theorem opM_neD {W : Wd} : OpMB W cNeD (rNeD W.K) := fun β H h d1 d2 x y Q E s r1 r2 L => by
  obtain ⟨p, k1, s1, _, L1⟩ := Lands.pyB L s r1
  obtain ⟨q, k2, s2, _, L2⟩ := Lands.pyB L1 s r2
  exact ⟨p, q, k1, k2, s1, s2, _, rfl, L2.ret s rfl⟩

/-! ### x in a list or tuple of data; a sign in a text -/
def pysOf (f : Dat → Option PyData) (xs : List Dat) : Option (List PyData) := optAll f xs
def rInS (K : PySem.W.Frag) (neg : Bool) : R2 := fun x y H Q => ∃ p xs d ds, y = .ref p ∧ (SqL K H p xs ∨ SqT K H p xs) ∧ Dp K H x d ∧ DpAll K H xs ds ∧ SeqAt.shaped d = true ∧ (∀ e ∈ ds, SeqAt.shaped e = true) ∧ Q (.bl (neg != ds.any fun e => PyData.eqv e d)) H
/-- whether a value reads as data equal to d -/
noncomputable def eqTo (h : Heap) (d : PyData) (u : Value) : Bool := @decide (∃ e as, Reads h u e as ∧ e.canLay0 = true ∧ PyData.eqv e d = true) (Classical.propDecidable _)
theorem eqTo_of {h : Heap} {d e : PyData} {u : Value} {as : List Addr} (r : Reads h u e as) (c : e.canLay0 = true) : eqTo h d u = PyData.eqv e d := by
  unfold eqTo
  cases k : PyData.eqv e d with
  | true => exact @decide_eq_true _ (Classical.propDecidable _) ⟨e, as, r, c, k⟩
  | false =>
    refine @decide_eq_false _ (Classical.propDecidable _) ?_
    rintro ⟨e', as', r', c', k'⟩
    have := SeqAt.Reads.unique e e' u _ _ c r r'
    rw [← this, k] at k'
    cases k'
theorem dpAll_each {X : Cx} {pins : List (Addr × Obj)} {σ : L2.St} {H : Hp} {s : Shared} (I : Inv X pins σ H s) {A : Around} (hu : A.units + 64 < cLine) {d : PyData} {v : Value} {bs : List Addr} (rd : Reads s.heap v d bs) (sd : SeqAt.shaped d = true) :
    ∀ {ds : List PyData} {xs : List V} {us : List Value}, DpAll X.K H xs ds → Vals xs us → (∀ e ∈ ds, SeqAt.shaped e = true) → (∀ u ∈ us, SeqAt.EqAt A s u v (eqTo s.heap d u)) ∧ us.map (eqTo s.heap d) = ds.map fun e => PyData.eqv e d
  | [], xs, us, hd, r, hs => by
    cases hd
    cases r
    exact ⟨fun _ h => (nomatch h), rfl⟩
  | e :: es, xs, us, hd, r, hs => by
    cases hd with
    | @cons x xs _ _ h1 h2 =>
      cases r with
      | @cons _ u _ us r1 r2 =>
        obtain ⟨h3, h4⟩ := dpAll_each I hu rd sd h2 r2 fun e he => hs e (List.mem_cons_of_mem _ he)
        obtain ⟨as, ra⟩ := Dp.reads I e x u h1 r1
        have ce := SeqAt.canLay_of_shaped (hs e List.mem_cons_self)
        refine ⟨fun w hw => ?_, by rw [List.map_cons, List.map_cons, h4, eqTo_of ra ce]⟩
        rcases List.mem_cons.mp hw with rfl | hw
        · rw [eqTo_of ra ce]
          exact SeqAt.eqAt_reads e d A s _ v _ _ ra rd ce (SeqAt.canLay_of_shaped sd) (SeqAt.room_of_shaped (hs e List.mem_cons_self) hu)
        · exact h3 w hw
theorem any_map {α : Type} {f : α → Bool} : ∀ {l : List α}, l.any f = (l.map f).any id
  | [] => rfl
  | x :: l => by rw [List.any_cons, List.map_cons, List.any_cons, any_map]; rfl
theorem op_inS {X : Cx} (hu : X.A.units + 65 < cLine) : OpR X (compareOp .In) (rInS X.K false) := by
  intro pins s σ H x y v u Q I rx ry h
  obtain ⟨p, xs, d, ds, rfl, hq, hd, hds, sd, sds, q⟩ := h
  cases ry
  obtain ⟨bs, rd⟩ := Dp.reads I d x v hd rx
  have hu' : X.A.in1.units + 64 < cLine := by show X.A.units + 1 + 64 < cLine; omega
  rcases hq with hq | hq
  · obtain ⟨its, r, pl, hz⟩ := I.list hq
    obtain ⟨h1, h2⟩ := dpAll_each I hu' rd sd hds r sds
    refine SeqAt.in_listAt (eqTo s.heap d) pl.isList (fun w hw => h1 w (by simpa using hw)) ⟨.bl _, H, I, rfl, ?_⟩
    rw [show its.toArray.any (eqTo s.heap d) = its.any (eqTo s.heap d) by simp, any_map, h2, ← any_map]
    simpa using q
  · obtain ⟨its, r, pl, hz⟩ := I.tuple hq
    obtain ⟨h1, h2⟩ := dpAll_each I hu' rd sd hds r sds
    refine SeqAt.in_tupleAt (eqTo s.heap d) pl (fun w hw => h1 w (by simpa using hw)) ⟨.bl _, H, I, rfl, ?_⟩
    rw [show its.toArray.any (eqTo s.heap d) = its.any (eqTo s.heap d) by simp, any_map, h2, ← any_map]
    simpa using q
theorem op_ninS {X : Cx} (hu : X.A.units + 65 < cLine) : OpR X (compareOp .NotIn) (rInS X.K true) := by
  intro pins s σ H x y v u Q I rx ry h
  obtain ⟨p, xs, d, ds, rfl, hq, hd, hds, sd, sds, q⟩ := h
  cases ry
  obtain ⟨bs, rd⟩ := Dp.reads I d x v hd rx
  have hu' : X.A.in1.units + 64 < cLine := by show X.A.units + 1 + 64 < cLine; omega
  rcases hq with hq | hq
  · obtain ⟨its, r, pl, hz⟩ := I.list hq
    obtain ⟨h1, h2⟩ := dpAll_each I hu' rd sd hds r sds
    refine SeqAt.notIn_listAt (eqTo s.heap d) pl.isList (fun w hw => h1 w (by simpa using hw)) ⟨.bl _, H, I, rfl, ?_⟩
    rw [show its.toArray.any (eqTo s.heap d) = its.any (eqTo s.heap d) by simp, any_map, h2, ← any_map]
    simpa using q
  · obtain ⟨its, r, pl, hz⟩ := I.tuple hq
    obtain ⟨h1, h2⟩ := dpAll_each I hu' rd sd hds r sds
    refine SeqAt.notIn_tupleAt (eqTo s.heap d) pl (fun w hw => h1 w (by simpa using hw)) ⟨.bl _, H, I, rfl, ?_⟩
    rw [show its.toArray.any (eqTo s.heap d) = its.any (eqTo s.heap d) by simp, any_map, h2, ← any_map]
    simpa using q
end Mir
end

section
set_option Elab.async false
set_option linter.all false
set_option maxRecDepth 100000
/-! Mir7: in, places, slices, len, isinstance, all, any, list, tuple, int, texts' methods. -/
namespace Mir
open PySem PySem.Spec
open PyProof.Rows L2

/-! ### in -/
def pysM (xs : List Dat) : Mo (List PyData) := fun h => match optAll (toPy h 30) xs with
  | some ps => .val ps h
  | none => .bad
theorem pysM_val {xs : List Dat} {h : Hm} {ps : List PyData} (e : optAll (toPy h 30) xs = some ps) : pysM xs h = .val ps h := by unfold pysM; rw [e]
theorem Lands.pysB {α τ : Type} {W : Wd} {R : (Nat → Addr) → Nat → Hp → α → τ → Prop} {β : Nat → Addr} {H : Hp} {h : Hm} {ds : List Dat} {vs : List V} {f : List PyData → Mo α} {Q : τ → Hp → Prop} {E : Addr → Hp → Prop}
    (L : Lands W R β H h ((do let c ← pysM ds; f c) h) Q E) (s : Sim W β H h) (r : Rels W β h.length H ds vs) : ∃ ps, DpAll W.K H vs ps ∧ (∀ e ∈ ps, SeqAt.shaped e = true) ∧ Lands W R β H h (f ps h) Q E := by
  cases e : optAll (toPy h 30) ds with
  | none => rw [bnd_bad (by unfold pysM; rw [e])] at L; exact L.elim
  | some ps =>
    rw [bnd_val (pysM_val e)] at L
    exact ⟨ps, dp_all (fun d p v e r => toPy_dp s 30 d p v e r) e r, fun p hp => optAll_mem (P := fun p => SeqAt.shaped p = true) (fun a k ek => toPy_shaped ek (by decide)) e p hp, L⟩
@[simp] def signIn (x : Dat) (z : Str) : Mo Bool := do let s ← strOf x; if s.cps.size = 1 then pure (decide (s.cps.getD 0 0 ∈ z.cps.toList)) else bad
def memD (x c : Dat) : Mo Bool := do let xs ← seqOf c; let d ← pyOf x; let ds ← pysM xs; pure (ds.any fun e => PyData.eqv e d)
theorem one_sign {s : Str} (h : s.cps.size = 1) : s = ⟨#[s.cps.getD 0 0]⟩ := by
  obtain ⟨⟨l⟩⟩ := s
  match l, h with
  | [c], _ => rfl
theorem Lands.signB {α τ : Type} {W : Wd} {R : (Nat → Addr) → Nat → Hp → α → τ → Prop} {β : Nat → Addr} {H : Hp} {h : Hm} {x : Dat} {v : V} {z : Str} {f : Bool → Mo α} {Q : τ → Hp → Prop} {E : Addr → Hp → Prop}
    (L : Lands W R β H h ((do let c ← signIn x z; f c) h) Q E) (r : Rel W β h.length H x v) : ∃ c : Nat, v = .str ⟨#[c]⟩ ∧ Lands W R β H h (f (decide (c ∈ z.cps.toList)) h) Q E := by
  cases x with
  | str s =>
    have L' : Lands W R β H h (((if s.cps.size = 1 then pure (decide (s.cps.getD 0 0 ∈ z.cps.toList)) else bad : Mo Bool) >>= f) h) Q E := L
    by_cases q : s.cps.size = 1
    · rw [if_pos q] at L'
      exact ⟨s.cps.getD 0 0, by rw [rel_str r]; exact congrArg V.str (one_sign q), L'⟩
    · rw [if_neg q] at L'; exact L'.elim
  | _ => exact False.elim L
theorem Lands.memB {α τ : Type} {W : Wd} {R : (Nat → Addr) → Nat → Hp → α → τ → Prop} {β : Nat → Addr} {H : Hp} {h : Hm} {x c : Dat} {v u : V} {f : Bool → Mo α} {Q : τ → Hp → Prop} {E : Addr → Hp → Prop}
    (L : Lands W R β H h ((do let k ← memD x c; f k) h) Q E) (s : Sim W β H h) (r : Rel W β h.length H x v) (rc : Rel W β h.length H c u) :
    ∃ p xs d ds, u = .ref p ∧ (SqL W.K H p xs ∨ SqT W.K H p xs) ∧ Dp W.K H v d ∧ DpAll W.K H xs ds ∧ SeqAt.shaped d = true ∧ (∀ e ∈ ds, SeqAt.shaped e = true) ∧ Lands W R β H h (f (ds.any fun e => PyData.eqv e d) h) Q E := by
  unfold memD at L
  have L1 : Lands W R β H h ((do let xs ← seqOf c; let d ← pyOf x; let ds ← pysM xs; f (ds.any fun e => PyData.eqv e d)) h) Q E := by
    simpa only [bind_assoc, pure_bind] using L
  obtain ⟨p, xs, ds, e1, k1, q1, L2⟩ := Lands.seqB L1 s rc
  obtain ⟨d, k2, s2, _, L3⟩ := Lands.pyB L2 s r
  obtain ⟨ps, k3, s3, L4⟩ := Lands.pysB L3 s q1
  exact ⟨p, xs, d, ps, e1, k1, k2, k3, s2, s3, L4⟩

/-! ### places -/
theorem Rels.get {W : Wd} {β : Nat → Addr} {N : Nat} {H : Hp} : ∀ {xs : List Dat} {vs : List V} {i : Nat} {d : Dat}, Rels W β N H xs vs → xs[i]? = some d → ∃ v, vs[i]? = some v ∧ Rel W β N H d v
  | [], _, i, _, _, e => by simp at e
  | x :: xs, vs, i, d, h, e => by
    unfold Rels at h
    obtain ⟨v, r, rfl, h1, h2⟩ := h
    cases i with
    | zero => simp at e; subst e; exact ⟨v, by simp, h1⟩
    | succ i =>
      obtain ⟨w, e2, r2⟩ := Rels.get (i := i) h2 (by simpa using e)
      exact ⟨w, by simpa using e2, r2⟩
theorem Rels.atIx {W : Wd} {β : Nat → Addr} {N : Nat} {H : Hp} {xs : List Dat} {vs : List V} {i : Int} {d : Dat} (h : Rels W β N H xs vs) (e : atI xs i = some d) : ∃ v, atI vs i = some v ∧ Rel W β N H d v := by
  unfold atI at e ⊢
  rw [← h.length]
  cases q : ixN xs.length i with
  | none => rw [q] at e; cases e
  | some j =>
    rw [q] at e
    exact Rels.get h e
@[simp] def optM {α : Type} : Option α → Mo α
  | some a => pure a
  | none => bad
theorem Lands.optB {α γ τ : Type} {W : Wd} {R : (Nat → Addr) → Nat → Hp → α → τ → Prop} {β : Nat → Addr} {H : Hp} {h : Hm} {o : Option γ} {f : γ → Mo α} {Q : τ → Hp → Prop} {E : Addr → Hp → Prop} (L : Lands W R β H h ((do let c ← optM o; f c) h) Q E) :
    ∃ a, o = some a ∧ Lands W R β H h (f a h) Q E := by
  cases o with
  | none => exact L.elim
  | some a => exact ⟨a, rfl, L⟩
@[simp] def ixS (z : Str) (k : Dat) : Mo Dat := do let i ← intOf k; let c ← optM (atI z.cps.toList i); if z.length ≤ sizeLine then pure (.str ⟨#[c]⟩) else bad
@[simp] def ixL (d k : Dat) : Mo Dat := do let xs ← seqOf d; let i ← intOf k; optM (atI xs i)
@[simp] def ixSq (d k : Dat) : Mo Dat := match d with
  | .str z => ixS z k
  | _ => ixL d k
theorem Lands.ixM {W : Wd} {β : Nat → Addr} {H : Hp} {h : Hm} {d1 d2 : Dat} {x y : V} {Q : VK} {E : Addr → Hp → Prop} (L : Lands W (Rel W) β H h (ixSq d1 d2 h) Q E) (s : Sim W β H h) (r1 : Rel W β h.length H d1 x) (r2 : Rel W β h.length H d2 y) : rIx W.K x y H Q := by
  have seq : Lands W (Rel W) β H h (ixL d1 d2 h) Q E → rIx W.K x y H Q := fun L => by
    obtain ⟨p, vs, xs, e1, k1, q1, L1⟩ := Lands.seqB L s r1
    obtain ⟨i, e2, L2⟩ := Lands.intB L1 r2
    cases o : atI xs i with
    | none => rw [o] at L2; exact L2.elim
    | some d =>
      rw [o] at L2
      obtain ⟨v, ev, rv⟩ := q1.atIx o
      rcases k1 with k1 | k1
      · exact .inl ⟨p, vs, i, v, e1, e2, k1, ev, L2.ret s rv⟩
      · exact .inr (.inl ⟨p, vs, i, v, e1, e2, k1, ev, L2.ret s rv⟩)
  cases d1 with
  | str z =>
    obtain ⟨i, e2, L1⟩ := Lands.intB L r2
    obtain ⟨c, ec, L2⟩ := Lands.optB L1
    obtain ⟨hz, L3⟩ := Lands.ifB L2
    exact .inr (.inr ⟨z, i, c, rel_str r1, e2, hz, ec, L3.ret s mk_str⟩)
  | _ => exact seq L

/-! ### slices -/
theorem fz_no {v : V} {H : Hp} {Q : VK} (q : Q v H) : ∃ S : Addr → Prop, (∀ a, S a → ∃ u, H a = some u ∧ Fzb u) ∧ ∀ H2, Fzn S H H2 → Q v H2 :=
  ⟨fun _ => False, fun _ h => h.elim, fun H2 z => by
    have e : H2 = H := funext fun a => (z a).1 fun f => f
    rw [e]; exact q⟩
theorem fz_one {p : Addr} {u : HO} {H : Hp} {Q : VK} {v : V} (hp : H p = none) (hu : Fzb u) (q : ∀ o, Q v (upd H p (.frz o u))) : ∃ S : Addr → Prop, (∀ a, S a → ∃ u', upd H p u a = some u' ∧ Fzb u') ∧ ∀ H2, Fzn S (upd H p u) H2 → Q v H2 :=
  ⟨fun a => a = p, fun a e => ⟨u, by rw [e, upd_same], hu⟩, fun H2 z => by
    obtain ⟨o, rfl⟩ := Fzn.one (fun _ => Iff.rfl) hp z
    exact q o⟩
def cutD (xs : List Dat) (lo hi : Option Int) : List Dat := (xs.drop (HT.sIx xs.length 0 lo)).take (HT.sIx xs.length xs.length hi - HT.sIx xs.length 0 lo)
theorem Rels.take {W : Wd} {β : Nat → Addr} {N : Nat} {H : Hp} : ∀ {xs : List Dat} {vs : List V} (n : Nat), Rels W β N H xs vs → Rels W β N H (xs.take n) (vs.take n)
  | [], vs, n, h => by unfold Rels at h; subst h; simp [Rels]
  | x :: xs, vs, 0, h => by simp [Rels]
  | x :: xs, vs, n + 1, h => by
    unfold Rels at h
    obtain ⟨v, r, rfl, h1, h2⟩ := h
    rw [List.take_succ_cons, List.take_succ_cons]
    unfold Rels
    exact ⟨v, _, rfl, h1, Rels.take n h2⟩
theorem Rels.drop {W : Wd} {β : Nat → Addr} {N : Nat} {H : Hp} : ∀ {xs : List Dat} {vs : List V} (n : Nat), Rels W β N H xs vs → Rels W β N H (xs.drop n) (vs.drop n)
  | [], vs, n, h => by unfold Rels at h; subst h; simp [Rels]
  | x :: xs, vs, 0, h => h
  | x :: xs, vs, n + 1, h => by
    unfold Rels at h
    obtain ⟨v, r, rfl, h1, h2⟩ := h
    rw [List.drop_succ_cons, List.drop_succ_cons]
    exact Rels.drop n h2
theorem Rels.cut {W : Wd} {β : Nat → Addr} {N : Nat} {H : Hp} {xs : List Dat} {vs : List V} {lo hi : Option Int} (h : Rels W β N H xs vs) : Rels W β N H (cutD xs lo hi) (cutV vs lo hi) := by
  unfold cutD cutV
  rw [h.length]
  exact (h.drop _).take _
theorem cut_whole {xs : List Dat} {lo hi : Option Int} (h : HT.sIx xs.length 0 lo = 0 ∧ HT.sIx xs.length xs.length hi = xs.length) : cutD xs lo hi = xs := by
  unfold cutD
  rw [h.1, h.2, List.drop_zero, Nat.sub_zero, List.take_length]
@[simp] def slD (d : Dat) (lo hi : Option Int) : Mo Dat := match d with
  | .str z => if z.length ≤ sizeLine then pure (.str (cutS z lo hi)) else bad
  | .tup xs => pure (.tup (cutD xs lo hi))
  | d => do let xs ← listOf d; pure (.lst (cutD xs lo hi))
def rSlM (K : PySem.W.Frag) : V → Option Int → Option Int → Hp → VK → Prop := fun x lo hi H Q => rSlS x lo hi H Q ∨ (rSlA K x lo hi H Q ∨ rSlL K x lo hi H Q)
theorem slM {W : Wd} {β : Nat → Addr} {H : Hp} {h : Hm} {d : Dat} {x : V} {lo hi : Option Int} {Q : VK} {E : Addr → Hp → Prop} (L : Lands W (Rel W) β H h (slD d lo hi h) Q E) (s : Sim W β H h) (r : Rel W β h.length H d x) :
    rSlM W.K x lo hi H fun v H1 => ∃ S : Addr → Prop, (∀ a, S a → ∃ u, H1 a = some u ∧ Fzb u) ∧ ∀ H2, Fzn S H1 H2 → Q v H2 := by
  have lst : Lands W (Rel W) β H h ((do let xs ← listOf d; pure (Dat.lst (cutD xs lo hi))) h) Q E → rSlM W.K x lo hi H fun v H1 => ∃ S : Addr → Prop, (∀ a, S a → ∃ u, H1 a = some u ∧ Fzb u) ∧ ∀ H2, Fzn S H1 H2 → Q v H2 := fun L => by
    obtain ⟨a, vs, xs, e, k, rs, L1⟩ := Lands.listB L s r
    exact .inr (.inr ⟨a, vs, e, k, fun p hp => fz_one hp trivial fun o => L1.fzL s rs.cut hp⟩)
  cases d with
  | str z =>
    obtain ⟨hz, L1⟩ := Lands.ifB L
    exact .inl ⟨z, rel_str r, hz, fz_no (L1.ret s mk_str)⟩
  | tup xs =>
    obtain ⟨a, vs, e, k, rs⟩ := rel_tup r
    refine .inr (.inl ⟨a, vs, e, k.sq, fun hw => ?_, fun hw p hp => fz_no (L.tup s rs.cut hp)⟩)
    rw [← rs.length] at hw
    have L' : Lands W (Rel W) β H h (.val (.tup xs) h) Q E := by
      have q : cutD xs lo hi = xs := cut_whole hw
      have L0 : Lands W (Rel W) β H h (.val (.tup (cutD xs lo hi)) h) Q E := L
      rw [q] at L0
      exact L0
    exact fz_no (L'.ret s (e ▸ r))
  | _ => exact lst L
abbrev Mo' := Env' → Mo (Option Int)
def tMO (X : Cx) (Wx : WX) (m : Mo') : L2.St → Hp → (Option Int → Hp → Prop) → Prop := fun σ H Q => ∃ β ρ h, ER (wd X) X.N.length β h.length H ρ σ ∧ Sim (wd X) β H h ∧ Lands (wd X) (fun _ _ _ (a b : Option Int) => a = b) β H h (m ρ h) Q (exW Wx σ)
section
variable {X : Cx} {Wx : WX} {a b : Expr} {ma mb : Mv} {pos p2 : Pos}
theorem po_weak {e : Option Expr} {t t' : TO} (h : PO X e t) (w : ∀ σ H Q, t' σ H Q → t σ H Q) : PO X e t' := ⟨fun pins s σ H Q I q => h.run pins s σ H Q I (w σ H Q q)⟩
@[simp] def mPn : Mo' := fun _ => pure none
@[simp] def mPs (ma : Mv) : Mo' := fun ρ => do let x ← ma ρ; let i ← intOf x; pure (some i)
theorem mo_none : PO X none (tMO X Wx mPn) := po_weak po_none fun σ H Q ⟨β, ρ, h, er, s, L⟩ => L.ret s rfl
theorem mo_some (ha : ME X Wx a ma) : PO X (some a) (tMO X Wx (mPs ma)) := po_weak (po_some ha) fun σ H Q ⟨β, ρ, h, er, s, L⟩ => one er s L fun β1 H1 h1 d1 x s1 r1 A1 L1 => by
  obtain ⟨i, e, L2⟩ := Lands.intB L1 r1
  exact ⟨i, e, L2.ret s1 rfl⟩
@[simp] def mSl (ma : Mv) (ml mh : Mo') : Mv := fun ρ => do let x ← ma ρ; let lo ← ml ρ; let hi ← mh ρ; slD x lo hi
theorem me_slice {lo hi : Option Expr} {ml mh : Mo'} (ha : ME X Wx a ma) (hl : PO X lo (tMO X Wx ml)) (hh : PO X hi (tMO X Wx mh)) : ME X Wx (.Subscript a (.Slice lo hi none p2) pos) (mSl ma ml mh) :=
  pe_weak (pe_frz (pe_slice (sl_str.or (sl_tupA.or sl_list)) ha hl hh)) fun σ H Q ⟨β, ρ, h, er, s, L⟩ => by
    refine one (f := fun x => do let lo ← ml ρ; let hi ← mh ρ; slD x lo hi) er s L fun β1 H1 h1 d1 x s1 r1 A1 L1 => ?_
    refine ⟨β1, ρ, h1, A1.er s er, s1, (Lands.bind (R' := fun _ _ _ (a b : Option Int) => a = b) L1).mono fun lo H2 ⟨β2, h2, lo', s2, r2, A2, L2⟩ => ?_⟩
    subst r2
    refine ⟨β2, ρ, h2, A2.er s1 (A1.er s er), s2, (Lands.bind (R' := fun _ _ _ (a b : Option Int) => a = b) L2).mono fun hi H3 ⟨β3, h3, hi', s3, r3, A3, L3⟩ => ?_⟩
    subst r3
    exact slM L3 s3 (A3.rel s2 (A2.rel s1 r1))
end
end Mir
end

section
set_option Elab.async false
set_option linter.all false
set_option maxRecDepth 100000
/-! Mir8: calls of built-ins by name: len, isinstance, all, any, list, tuple, int; texts' methods; lists' methods that change them. -/
namespace Mir
open PySem PySem.Spec
open PyProof.Rows L2

section
variable {X : Cx} {Wx : WX} {e e2 : Expr} {ma mb : Mv} {x : Str} {p pos apos : Pos}
/-- f(e), f a built-in -/
theorem me_cb1 {id : String} {r : List V → Hp → VK → Prop} {f : Dat → Mo Dat} (hc : CallR X (.builtin id) r) (hm : X.mg x = none) (hv : bootBuiltins x = some (.builtin id))
    (hf : ∀ β H h d v (Q : VK) E, Sim (wd X) β H h → Rel (wd X) β h.length H d v → Lands (wd X) (Rel (wd X)) β H h (f d h) Q E → r [v] H Q) (ha : ME X Wx e ma) (hg : Gl X x := by rfl) (hn : x ≠ "__name__" := by decide) (hdb : (x == ("__debug__" : Str)) = false := by decide)
    (he : starEach [e] X.env = (false, eval e X.env) :: starEach [] X.env := by rfl) : ME X Wx (.Call (.Name x p) [e] [] pos) (mUn f ma) :=
  pe_weak (pe_callB hc hg hm hv (pa_cons ha pa_nil he) hn hdb he rfl) fun σ H Q ⟨β, ρ, h, er, s, L⟩ => one (f := f) er s L fun β1 H1 h1 d1 v s1 r1 _ L1 => hf β1 H1 h1 d1 v Q _ s1 r1 L1
theorem me_ct1 {T : String} {r : List V → Hp → VK → Prop} {f : Dat → Mo Dat} (hc : CallR X (.type T) r) (hm : X.mg x = none) (hv : bootBuiltins x = some (.type T))
    (hf : ∀ β H h d v (Q : VK) E, Sim (wd X) β H h → Rel (wd X) β h.length H d v → Lands (wd X) (Rel (wd X)) β H h (f d h) Q E → r [v] H Q) (ha : ME X Wx e ma) (hg : Gl X x := by rfl) (hn : x ≠ "__name__" := by decide) (hdb : (x == ("__debug__" : Str)) = false := by decide)
    (he : starEach [e] X.env = (false, eval e X.env) :: starEach [] X.env := by rfl) : ME X Wx (.Call (.Name x p) [e] [] pos) (mUn f ma) :=
  pe_weak (pe_callTy hc hg hm hv (pa_cons ha pa_nil he) hn hdb he rfl) fun σ H Q ⟨β, ρ, h, er, s, L⟩ => one (f := f) er s L fun β1 H1 h1 d1 v s1 r1 _ L1 => hf β1 H1 h1 d1 v Q _ s1 r1 L1

/-! ### len -/
@[simp] def lenSq (d : Dat) : Mo Dat := do let xs ← seqOf d; pure (.int xs.length)
@[simp] def lenD (d : Dat) : Mo Dat := match d with
  | .str z => if z.length ≤ sizeLine then pure (.int z.length) else bad
  | _ => lenSq d
theorem me_len (hm : X.mg "len" = none) (ha : ME X Wx e ma) (hg : Gl X "len" := by rfl) (he : starEach [e] X.env = (false, eval e X.env) :: starEach [] X.env := by rfl) : ME X Wx (.Call (.Name "len" p) [e] [] pos) (mUn lenD ma) :=
  me_cb1 (call_len_seq.or call_len_str) hm PySem.boot_len (fun β H h d v Q E s r L => by
    have sq : Lands (wd X) (Rel (wd X)) β H h (lenSq d h) Q E → ∃ p ys, [v] = [V.ref p] ∧ (SqL X.K H p ys ∨ SqT X.K H p ys) ∧ Q (.int ys.length) H := fun L => by
      obtain ⟨a, vs, xs, e, k, rs, L1⟩ := Lands.seqB L s r
      exact ⟨a, vs, by rw [e], k, by rw [← rs.length]; exact L1.ret s mk_int⟩
    cases d with
    | str z =>
      obtain ⟨hz, L1⟩ := Lands.ifB L
      exact .inr ⟨z, by rw [rel_str r], hz, L1.ret s mk_int⟩
    | _ => exact .inl (sq L)) ha hg (by decide) (by decide) he

/-! ### all, any of a list of truth values -/
@[simp] def isBl : Dat → Option Bool
  | .bl b => some b
  | _ => none
theorem rels_bls {W : Wd} {β : Nat → Addr} {N : Nat} {H : Hp} : ∀ {xs : List Dat} {bs : List Bool} {vs : List V}, optAll isBl xs = some bs → Rels W β N H xs vs → vs = bs.map V.bl
  | [], bs, vs, e, r => by
    unfold optAll at e
    unfold Rels at r
    cases e
    exact r
  | x :: xs, bs, vs, e, r => by
    unfold optAll at e
    unfold Rels at r
    obtain ⟨v, r', rfl, h1, h2⟩ := r
    split at e
    · rename_i k0 ks0 e1 e2
      cases e
      cases x with
      | bl b =>
        have : k0 = b := by unfold isBl at e1; exact (Option.some.inj e1).symm
        rw [rels_bls e2 h2, rel_bl h1, this]
        rfl
      | _ => unfold isBl at e1; cases e1
    · cases e
def allD (d : Dat) : Mo Dat := do let xs ← listOf d; let bs ← optM (optAll isBl xs); pure (.bl (bs.all id))
def anyD (d : Dat) : Mo Dat := do let xs ← listOf d; let bs ← optM (optAll isBl xs); pure (.bl (bs.any id))
theorem me_all (hc : X.calm = true) (hm : X.mg "all" = none) (ha : ME X Wx e ma) (hg : Gl X "all" := by rfl) (he : starEach [e] X.env = (false, eval e X.env) :: starEach [] X.env := by rfl) : ME X Wx (.Call (.Name "all" p) [e] [] pos) (mUn allD ma) :=
  me_cb1 (cr_all hc) hm PyProof.Rows.boot_all (fun β H h d v Q E s r L => by
    obtain ⟨a, vs, xs, e, k, rs, L1⟩ := Lands.listB L s r
    obtain ⟨bs, eb, L2⟩ := Lands.optB L1
    exact ⟨a, bs, by rw [e], by rw [← rels_bls eb rs]; exact k, L2.ret s mk_bl⟩) ha hg (by decide) (by decide) he
theorem me_any (hc : X.calm = true) (hm : X.mg "any" = none) (ha : ME X Wx e ma) (hg : Gl X "any" := by rfl) (he : starEach [e] X.env = (false, eval e X.env) :: starEach [] X.env := by rfl) : ME X Wx (.Call (.Name "any" p) [e] [] pos) (mUn anyD ma) :=
  me_cb1 (cr_any hc) hm PyProof.Rows.boot_any (fun β H h d v Q E s r L => by
    obtain ⟨a, vs, xs, e, k, rs, L1⟩ := Lands.listB L s r
    obtain ⟨bs, eb, L2⟩ := Lands.optB L1
    exact ⟨a, bs, by rw [e], by rw [← rels_bls eb rs]; exact k, L2.ret s mk_bl⟩) ha hg (by decide) (by decide) he

/-! ### int(flag or number), tuple(list or tuple), list(list or tuple) -/
@[simp] def intD : Dat → Mo Dat
  | .int i => pure (.int i)
  | .bl b => pure (.int (if b then 1 else 0))
  | _ => bad
theorem me_intD (hm : X.mg "int" = none) (ha : ME X Wx e ma) (hg : Gl X "int" := by rfl) (he : starEach [e] X.env = (false, eval e X.env) :: starEach [] X.env := by rfl) : ME X Wx (.Call (.Name "int" p) [e] [] pos) (mUn intD ma) :=
  me_ct1 call_int1 hm PyProof.Rows.boot_int (fun β H h d v Q E s r L => by
    cases d with
    | int i => exact .inl ⟨i, by rw [rel_int r], L.ret s mk_int⟩
    | bl b => exact .inr ⟨b, by rw [rel_bl r], L.ret s mk_int⟩
    | _ => exact False.elim L) ha hg (by decide) (by decide) he
@[simp] def tupD (d : Dat) : Mo Dat := do let xs ← seqOf d; pure (.tup xs)
theorem me_tupD (hm : X.mg "tuple" = none) (ha : ME X Wx e ma) (hg : Gl X "tuple" := by rfl) (he : starEach [e] X.env = (false, eval e X.env) :: starEach [] X.env := by rfl) : ME X Wx (.Call (.Name "tuple" p) [e] [] pos) (mUn tupD ma) :=
  me_ct1 call_tuple_of hm PyProof.Rows.boot_tuple (fun β H h d v Q E s r L => by
    have ls : Lands (wd X) (Rel (wd X)) β H h ((do let xs ← listOf d; pure (Dat.tup xs)) h) Q E → ∃ p ys, [v] = [V.ref p] ∧ ((SqL X.K H p ys ∧ ∀ l, H l = none → Q (.ref l) (upd H l (.tup ys))) ∨ (SqT X.K H p ys ∧ Q (.ref p) H)) := fun L => by
      obtain ⟨a, vs, xs, e, k, rs, L1⟩ := Lands.listB L s r
      exact ⟨a, vs, by rw [e], .inl ⟨k, fun l hl => L1.tup s rs hl⟩⟩
    cases d with
    | tup xs =>
      obtain ⟨a, vs, e, k, rs⟩ := rel_tup r
      exact ⟨a, vs, by rw [e], .inr ⟨k.sq, L.ret s (e ▸ r)⟩⟩
    | _ => exact ls L) ha hg (by decide) (by decide) he
@[simp] def mListD (ma : Mv) : Ml := fun ρ => do let x ← ma ρ; seqOf x
theorem ml_listD (hm : X.mg "list" = none) (ha : ME X Wx e ma) (hg : Gl X "list" := by rfl) (he : starEach [e] X.env = (false, eval e X.env) :: starEach [] X.env := by rfl) : MLs X Wx (.Call (.Name "list" p) [e] [] pos) (mListD ma) :=
  pe_weak (pe_callTy call_list_of hg hm PyProof.Rows.boot_list (pa_cons ha pa_nil he) (by decide) (by decide) he rfl) fun σ H Q ⟨β, ρ, h, er, s, L⟩ => one (f := seqOf) er s L fun β1 H1 h1 d1 v s1 r1 _ L1 => by
    obtain ⟨a, vs, xs, e, k, rs, L2⟩ := Lands.seqB (f := pure) (by simpa only [bind_pure] using L1) s1 r1
    exact ⟨a, vs, by rw [e], k, fun l hl => L2.ret s1 rs l hl⟩

/-! ### isinstance of built-in types -/
/-- a value's built-in type -/
inductive TyD (W : Wd) (H : Hp) : V → String → Prop
  | non : TyD W H .non "NoneType"
  | bl (b : Bool) : TyD W H (.bl b) "bool"
  | int (i : Int) : TyD W H (.int i) "int"
  | str (x : Str) : TyD W H (.str x) "str"
  | lst {a : Addr} {xs : List V} (k : SqL W.K H a xs) : TyD W H (.ref a) "list"
  | tup {a : Addr} {xs : List V} (k : SqT W.K H a xs) : TyD W H (.ref a) "tuple"
  | dct {a : Addr} {o ys} (k : Rd H a (dD W.w a o ys)) : TyD W H (.ref a) "dict"
theorem dD_obj {P : Program} {w : World} {H : Hp} {h : Heap} {a : Addr} {o : Obj} {ys : List (NestedKey × V × V)} (k : ObjOk P w H h a (dD w a o ys)) : h.get? a = some o ∧ o.ExactDict := by
  obtain ⟨⟨e, _, _, ex, _⟩, _⟩ := k
  exact ⟨e, ex⟩
theorem kit_dat {X : Cx} {pins : List (Addr × Obj)} {σ : L2.St} {H : Hp} {s : Shared} {x : V} {u : Value} {T : String} (I : Inv X pins σ H s) (rx : RelV x u) (ty : TyD (wd X) H x T) :
    ∃ P : Heap → Prop, PySem.W.KitX X.K u (.type T) P ∧ P s.heap ∧ u ≠ .builtin "__main__.__loader__#opaque" := by
  cases ty with
  | non => cases (show u = Value.none from rx); exact ⟨_, PySem.W.kitx_none, True.intro, fun z => nomatch z⟩
  | bl y => cases (show u = Value.bool y from rx); exact ⟨_, PySem.W.kitx_bool, True.intro, fun z => nomatch z⟩
  | int i => obtain ⟨t, q⟩ := (show ∃ t, u = Value.int i t from rx); cases q; exact ⟨_, PySem.W.kitx_int, True.intro, fun z => nomatch z⟩
  | str y => obtain ⟨t, q⟩ := (show ∃ t, u = Value.str y t from rx); cases q; exact ⟨_, PySem.W.kitx_str, True.intro, fun z => nomatch z⟩
  | @lst a xs k =>
    cases (show u = Value.ref a from rx)
    obtain ⟨_, _, ⟨o, _, h1, h2, _⟩, _⟩ := I.list k
    exact ⟨_, PySem.W.kitx_list, ⟨o, h1, h2⟩, fun z => nomatch z⟩
  | @tup a xs k =>
    cases (show u = Value.ref a from rx)
    obtain ⟨_, _, ⟨o, h1, h2, _⟩, _⟩ := I.tuple k
    exact ⟨_, PySem.W.kitx_tuple, ⟨o, h1, h2⟩, fun z => nomatch z⟩
  | @dct a o ys k =>
    cases (show u = Value.ref a from rx)
    obtain ⟨h1, h2⟩ := dD_obj (k.ok I.hok)
    exact ⟨_, PySem.W.kitx_dict, ⟨o, h1, h2.1⟩, fun z => nomatch z⟩
@[simp] def isA (a b : String) : Bool := a == b || (a == "bool" && b == "int")
def rIsD (W : Wd) (T : String) : List V → Hp → VK → Prop := fun xs H Q => ∃ x t, xs = [x, .ty T] ∧ TyD W H x t ∧ kitB t T = some (isA t T) ∧ Q (.bl (isA t T)) H
theorem call_isD {T : String} : CallR X (.builtin "isinstance") (rIsD (wd X) T) := by
  intro pins s σ H xs us Q I r h
  obtain ⟨x, t, rfl, ty, k, q⟩ := h
  obtain ⟨u1, u2, rfl, r1, r2⟩ := vals2 r
  cases (show u2 = Value.type T from r2)
  obtain ⟨P, Z, p, hx⟩ := kit_dat I r1 ty
  exact PySem.W.kia_one Z I.kIn p (kit_ty k) hx fun tk => ⟨.bl _, H, I.tok tk, rfl, q⟩
@[simp] def tyName : Dat → Mo String
  | .non => pure "NoneType"
  | .bl _ => pure "bool"
  | .int _ => pure "int"
  | .str _ => pure "str"
  | .tup _ => pure "tuple"
  | .lst _ => pure "list"
  | .dct _ _ _ => pure "dict"
  | .ref n => do let c ← cellOf n; match c with
    | .lst _ => pure "list"
    | .dct _ _ _ => pure "dict"
    | _ => bad
  | .exn _ => bad
def tyNames : List String := ["NoneType", "bool", "int", "str", "tuple", "list", "dict"]
theorem Lands.tyB {α τ : Type} {W : Wd} {R : (Nat → Addr) → Nat → Hp → α → τ → Prop} {β : Nat → Addr} {H : Hp} {h : Hm} {d : Dat} {v : V} {f : String → Mo α} {Q : τ → Hp → Prop} {E : Addr → Hp → Prop}
    (L : Lands W R β H h ((do let c ← tyName d; f c) h) Q E) (s : Sim W β H h) (r : Rel W β h.length H d v) : ∃ t, t ∈ tyNames ∧ TyD W H v t ∧ Lands W R β H h (f t h) Q E := by
  cases d with
  | non => rw [rel_non r]; exact ⟨_, by decide, .non, L⟩
  | bl b => rw [rel_bl r]; exact ⟨_, by decide, .bl b, L⟩
  | int b => rw [rel_int r]; exact ⟨_, by decide, .int b, L⟩
  | str b => rw [rel_str r]; exact ⟨_, by decide, .str b, L⟩
  | tup xs => obtain ⟨a, vs, rfl, k, rs⟩ := rel_tup r; exact ⟨_, by decide, .tup k.sq, L⟩
  | lst xs => unfold Rel at r; obtain ⟨a, vs, rfl, k, rs⟩ := r; exact ⟨_, by decide, .lst k.sq, L⟩
  | dct t ks xs => unfold Rel at r; obtain ⟨a, o, od, ns, kvs, vs, rfl, k, _⟩ := r; exact ⟨_, by decide, .dct (.inr ⟨o, k⟩), L⟩
  | ref n =>
    unfold Rel at r
    obtain ⟨_, rfl⟩ := r
    obtain ⟨c, e, hd, k, L1⟩ := Lands.cellB (f := fun c => (match c with | .lst _ => pure "list" | .dct _ _ _ => pure "dict" | _ => bad) >>= f) (by simpa only [tyName, bind_assoc] using L) s
    cases c with
    | lst xs => obtain ⟨vs, k, _⟩ := k; exact ⟨_, by decide, .lst (.inl (.inl k)), L1⟩
    | dct t v kvs => obtain ⟨o, ns, ks, vs, k, _⟩ := k; exact ⟨_, by decide, .dct (.inl k), L1⟩
    | _ => exact L1.elim
  | exn _ => exact L.elim
theorem kitB_ok {T : String} (hT : T ∈ ["bool", "int", "str", "tuple", "list", "dict"]) {t : String} (ht : t ∈ tyNames) : kitB t T = some (isA t T) := by
  have key : (["bool", "int", "str", "tuple", "list", "dict"].all fun T => tyNames.all fun t => decide (kitB t T = some (isA t T))) = true := by decide +kernel
  have h1 := List.all_eq_true.mp key T hT
  exact of_decide_eq_true (List.all_eq_true.mp h1 t ht)
@[simp] def isD (T : String) (d : Dat) : Mo Dat := do let t ← tyName d; pure (.bl (isA t T))
theorem pe_ty {x : Str} {T : String} {pos : Pos} (hm : X.mg x = none) (hv : bootBuiltins x = some (.type T)) (hg : Gl X x := by rfl) (hn : x ≠ "__name__" := by decide) (hd : (x == ("__debug__" : Str)) = false := by decide) : PE X (.Name x pos) (tC (.ty T)) :=
  pe_bltn hg hm hv rfl hn hd
theorem me_isD {y : Str} {T : String} {p2 : Pos} (hm : X.mg "isinstance" = none) (hy : X.mg y = none) (hv : bootBuiltins y = some (.type T)) (hT : T ∈ ["bool", "int", "str", "tuple", "list", "dict"]) (ha : ME X Wx e ma) (hg : Gl X "isinstance" := by rfl) (hgy : Gl X y := by rfl)
    (hn : y ≠ "__name__" := by decide) (hd : (y == ("__debug__" : Str)) = false := by decide) (he : starEach [e, .Name y p2] X.env = (false, eval e X.env) :: starEach [.Name y p2] X.env := by rfl) (hpl : (backTo pos (starEach [.Name y p2] X.env)).any (·.1) = false := by rfl) :
    ME X Wx (.Call (.Name "isinstance" p) [e, .Name y p2] [] pos) (mUn (isD T) ma) :=
  pe_weak (pe_callB call_isD hg hm PyProof.Rows.boot_isinstance (pa_cons ha (pa_cons (pe_ty hy hv hgy hn hd) pa_nil) he) (by decide) (by decide) he hpl) fun σ H Q ⟨β, ρ, h, er, s, L⟩ => one (f := isD T) er s L fun β1 H1 h1 d1 v s1 r1 _ L1 => by
    obtain ⟨t, ht, ty, L2⟩ := Lands.tyB L1 s1 r1
    exact ⟨v, t, rfl, ty, kitB_ok hT ht, L2.ret s1 mk_bl⟩
end
end Mir
end

section
set_option Elab.async false
set_option linter.all false
set_option maxRecDepth 100000
/-! Mir9: isinstance of two types; texts' methods; methods of lists. -/
namespace Mir
open PySem PySem.Spec
open PyProof.Rows L2

theorem rd_laid {H : Hp} {a p : Addr} {u o : HO} (hp : H p = none) (r : Rd H a u) : Rd (upd H p o) a u := by
  rcases r with r | ⟨q, r⟩
  · exact .inl (by rw [upd_ne (ne_of_none r hp)]; exact r)
  · exact .inr ⟨q, by rw [upd_ne (ne_of_none r hp)]; exact r⟩
theorem sqL_laid {K : PySem.W.Frag} {H : Hp} {a p : Addr} {xs : List V} {o : HO} (hp : H p = none) (r : SqL K H a xs) : SqL K (upd H p o) a xs := r.imp (rd_laid hp) id
theorem sqT_laid {K : PySem.W.Frag} {H : Hp} {a p : Addr} {xs : List V} {o : HO} (hp : H p = none) (r : SqT K H a xs) : SqT K (upd H p o) a xs := r.imp (rd_laid hp) id
theorem TyD.laid {W : Wd} {H : Hp} {p : Addr} {o : HO} {x : V} {t : String} (hp : H p = none) (r : TyD W H x t) : TyD W (upd H p o) x t := by
  cases r with
  | non => exact .non
  | bl b => exact .bl b
  | int b => exact .int b
  | str b => exact .str b
  | lst k => exact .lst (sqL_laid hp k)
  | tup k => exact .tup (sqT_laid hp k)
  | dct k => exact .dct (rd_laid hp k)
section
variable {X : Cx} {Wx : WX} {e e2 : Expr} {ma mb : Mv} {x : Str} {p pos apos : Pos}
def rIsD2 (W : Wd) (T1 T2 : String) : List V → Hp → VK → Prop := fun xs H Q => ∃ x tp t, xs = [x, .ref tp] ∧ H tp = some (.tup [.ty T1, .ty T2]) ∧ TyD W H x t ∧ kitB t T1 = some (isA t T1) ∧ kitB t T2 = some (isA t T2) ∧ Q (.bl (isA t T1 || isA t T2)) H
theorem call_isD2 {T1 T2 : String} : CallR X (.builtin "isinstance") (rIsD2 (wd X) T1 T2) := by
  intro pins s σ H xs us Q I r h
  obtain ⟨x, tp, t, rfl, hT, ty, k1, k2, q⟩ := h
  obtain ⟨u1, u2, rfl, r1, r2⟩ := vals2 r
  cases (show u2 = Value.ref tp from r2)
  obtain ⟨P, Z, pz, hx⟩ := kit_dat I r1 ty
  obtain ⟨_, its, rv, o, h1, h2, n, h3⟩ := (show ObjOk X.prog X.w H s.heap tp (.tup [.ty T1, .ty T2]) from I.hok tp _ hT)
  have e3 : its = [.type T1, .type T2] := by
    cases rv with
    | cons a b =>
      cases b with
      | cons c d =>
        cases d
        rw [show _ = Value.type T1 from a, show _ = Value.type T2 from c]
  subst e3
  obtain ⟨oc, od, dt, sl⟩ := o
  simp only at h2 h3
  subst h2 h3
  refine PySem.W.kia_tup (b := isA t T1 || isA t T2) Z I.kIn pz h1 ?_ hx fun tk => ⟨.bl _, H, I.tok tk, rfl, q⟩
  refine kitAny_cons (kit_ty k1) (fun e => ?_) fun e => by rw [e]; rfl
  rw [e, Bool.false_or]
  refine kitAny_cons (kit_ty k2) (fun e2 => ?_) fun e2 => e2
  rw [e2]
  rfl
@[simp] def isD2 (T1 T2 : String) (d : Dat) : Mo Dat := do let t ← tyName d; pure (.bl (isA t T1 || isA t T2))
theorem me_isD2 {y1 y2 : Str} {T1 T2 : String} {p2 p3 p4 : Pos} {kt} (hm : X.mg "isinstance" = none) (hy1 : X.mg y1 = none) (hv1 : bootBuiltins y1 = some (.type T1)) (hT1 : T1 ∈ ["bool", "int", "str", "tuple", "list", "dict"]) (hy2 : X.mg y2 = none) (hv2 : bootBuiltins y2 = some (.type T2)) (hT2 : T2 ∈ ["bool", "int", "str", "tuple", "list", "dict"])
    (ha : ME X Wx e ma) (hg : Gl X "isinstance" := by rfl) (hg1 : Gl X y1 := by rfl) (hg2 : Gl X y2 := by rfl)
    (hn1 : y1 ≠ "__name__" := by decide) (hd1 : (y1 == ("__debug__" : Str)) = false := by decide) (hn2 : y2 ≠ "__name__" := by decide) (hd2 : (y2 == ("__debug__" : Str)) = false := by decide)
    (hs1 : starEach [.Name y1 p2, .Name y2 p3] X.env = (false, eval (.Name y1 p2) X.env) :: starEach [.Name y2 p3] X.env := by rfl) (hs2 : starEach [.Name y2 p3] X.env = (false, eval (.Name y2 p3) X.env) :: starEach [] X.env := by rfl)
    (he : starEach [e, .Tuple [.Name y1 p2, .Name y2 p3] kt p4] X.env = (false, eval e X.env) :: starEach [.Tuple [.Name y1 p2, .Name y2 p3] kt p4] X.env := by rfl)
    (he2 : starEach [.Tuple [.Name y1 p2, .Name y2 p3] kt p4] X.env = (false, eval (.Tuple [.Name y1 p2, .Name y2 p3] kt p4) X.env) :: starEach [] X.env := by rfl)
    (hpl : (backTo pos (starEach [.Tuple [.Name y1 p2, .Name y2 p3] kt p4] X.env)).any (·.1) = false := by rfl) :
    ME X Wx (.Call (.Name "isinstance" p) [e, .Tuple [.Name y1 p2, .Name y2 p3] kt p4] [] pos) (mUn (isD2 T1 T2) ma) :=
  pe_weak (pe_callB call_isD2 hg hm PyProof.Rows.boot_isinstance (pa_cons ha (pa_cons (pe_tup (pa_cons (pe_ty hy1 hv1 hg1 hn1 hd1) (pa_cons (pe_ty hy2 hv2 hg2 hn2 hd2) pa_nil hs2) hs1)) pa_nil he2) he) (by decide) (by decide) he hpl)
    fun σ H Q ⟨β, ρ, h, er, s, L⟩ => one (f := isD2 T1 T2) er s L fun β1 H1 h1 d1 v s1 r1 _ L1 => by
    refine ⟨by show 2 ≤ sizeLine; rw [sizeLine_eq]; decide, fun tp hp => ?_⟩
    obtain ⟨t, ht, ty, L2⟩ := Lands.tyB L1 s1 r1
    have A := Aft.laid (o := .tup [.ty T1, .ty T2]) s1 hp
    exact ⟨v, tp, t, rfl, upd_same, ty.laid hp, kitB_ok hT1 ht, kitB_ok hT2 ht, (L2.after A).ret A.sim mk_bl⟩

/-! ### texts' methods -/
@[simp] def isStr : Dat → Option Str
  | .str y => some y
  | _ => none
theorem rels_strs {W : Wd} {β : Nat → Addr} {N : Nat} {H : Hp} : ∀ {xs : List Dat} {ys : List Str} {vs : List V}, optAll isStr xs = some ys → Rels W β N H xs vs → vs = ys.map V.str
  | [], ys, vs, e, r => by
    unfold optAll at e
    unfold Rels at r
    cases e
    exact r
  | x :: xs, ys, vs, e, r => by
    unfold optAll at e
    unfold Rels at r
    obtain ⟨v, r', rfl, h1, h2⟩ := r
    split at e
    · rename_i k0 ks0 e1 e2
      cases e
      cases x with
      | str b =>
        have : b = k0 := Option.some.inj e1
        rw [rels_strs e2 h2, rel_str h1, this]
        rfl
      | _ => cases e1
    · cases e
@[simp] def joinD (a : Str) (c : Dat) : Mo Dat := do let xs ← seqOf c; let ys ← optM (optAll isStr xs); if (ys.map (·.length)).sum + ys.length * a.length ≤ 16777216 then pure (.str (Txt.join a ys)) else bad
@[simp] def mJoin (ma mb : Mv) : Mv := fun ρ => do let x ← ma ρ; let a ← strOf x; let y ← mb ρ; joinD a y
theorem me_join {o : Expr} (ho : ME X Wx o ma) (ha : ME X Wx e mb) (hs : starEach [e] X.env = [(false, eval e X.env)] := by rfl) (hbase : attributeBase o "join" X.env (eval o X.env) = eval o X.env := by rfl) (hline : (apos.endLine == pos.line) = true := by rfl) :
    ME X Wx (.Call (.Attribute o "join" apos) [e] [] pos) (mJoin ma mb) :=
  pe_weak (pe_join ho ha hs hbase hline) fun σ H Q ⟨β, ρ, h, er, s, L⟩ => one (f := fun x => do let a ← strOf x; let y ← mb ρ; joinD a y) er s L fun β1 H1 h1 d1 x s1 r1 A1 L1 => by
    obtain ⟨a, ea, L1⟩ := Lands.strB L1 r1
    refine ⟨⟨a, ea⟩, one (f := fun y => joinD a y) (A1.er s er) s1 L1 fun β2 H2 h2 d2 y s2 r2 A2 L2 => ?_⟩
    obtain ⟨p, vs, xs, e, k, rs, L3⟩ := Lands.seqB L2 s2 r2
    obtain ⟨ys, ey, L4⟩ := Lands.optB L3
    obtain ⟨hz, L5⟩ := Lands.ifB L4
    exact ⟨a, p, ys, ea, by rw [e], by rw [← rels_strs ey rs]; exact k, hz, L5.ret s2 mk_str⟩
@[simp] def upD (x : Dat) : Mo Dat := do let a ← strOf x; if a.length ≤ 5592405 then pure (.str (Txt.upper a)) else bad
@[simp] def loD (x : Dat) : Mo Dat := do let a ← strOf x; if a.length ≤ 5592405 then pure (.str (Txt.lower a)) else bad
theorem me_upper {o : Expr} (ho : ME X Wx o ma) (hbase : attributeBase o "upper" X.env (eval o X.env) = eval o X.env := by rfl) (hline : (apos.endLine == pos.line) = true := by rfl) :
    ME X Wx (.Call (.Attribute o "upper" apos) [] [] pos) (mUn upD ma) :=
  pe_weak (pe_upper ho hbase hline) fun σ H Q ⟨β, ρ, h, er, s, L⟩ => one (f := upD) er s L fun β1 H1 h1 d1 x s1 r1 A1 L1 => by
    obtain ⟨a, ea, L1⟩ := Lands.strB L1 r1
    obtain ⟨hz, L1⟩ := Lands.ifB L1
    exact ⟨⟨a, ea⟩, a, ea, rfl, hz, L1.ret s1 mk_str⟩
theorem me_lower {o : Expr} (ho : ME X Wx o ma) (hbase : attributeBase o "lower" X.env (eval o X.env) = eval o X.env := by rfl) (hline : (apos.endLine == pos.line) = true := by rfl) :
    ME X Wx (.Call (.Attribute o "lower" apos) [] [] pos) (mUn loD ma) :=
  pe_weak (pe_lower ho hbase hline) fun σ H Q ⟨β, ρ, h, er, s, L⟩ => one (f := loD) er s L fun β1 H1 h1 d1 x s1 r1 A1 L1 => by
    obtain ⟨a, ea, L1⟩ := Lands.strB L1 r1
    obtain ⟨hz, L1⟩ := Lands.ifB L1
    exact ⟨⟨a, ea⟩, a, ea, rfl, hz, L1.ret s1 mk_str⟩

/-! ### methods of lists -/
/-- a list cell is written -/
theorem Lands.setL {α τ : Type} {W : Wd} {R : (Nat → Addr) → Nat → Hp → α → τ → Prop} {β : Nat → Addr} {H : Hp} {h : Hm} {n : Nat} {ys xs : List Dat} {vs : List V} {a : α} {Q : τ → Hp → Prop} {E : Addr → Hp → Prop}
    (L : Lands W R β H h (.val a (h.set n (.lst xs))) Q E) (s : Sim W β H h) (e : h[n]? = some (.lst ys)) (r : Rels W β h.length H xs vs) {v : τ} (ra : ∀ (N' : Nat) (H' : Hp), PExt H H' → h.length ≤ N' → R β N' H' a v) : Q v (upd H (β n) (.lst vs)) := by
  have A := Aft.write (o := .lst vs) (c' := .lst xs) s e (by simp) (fun _ _ _ z => nomatch z) fun u eu n1 n2 => by
    have pe : PExt H (upd H (β n) (.lst vs)) := ⟨fun a xs q => by rw [upd_ne (fun z => by rw [z, eu] at q; cases q; exact n1 _ rfl)]; exact q, fun a q' u' q => by rw [upd_ne (fun z => by rw [z, eu] at q; cases q; exact n2 _ _ rfl)]; exact q⟩
    exact ⟨vs, upd_same, Rels.mono pe (Nat.le_refl _) (fun _ _ => rfl) _ _ r⟩
  exact L β _ v A (ra _ _ (A.pext s) A.len)
/-- the cell of a reference to a list -/
def lref : Dat → Mo (Nat × List Dat)
  | .ref n => do let c ← cellOf n; let xs ← lstC c; pure (n, xs)
  | _ => bad
theorem Lands.lrefB {α τ : Type} {W : Wd} {R : (Nat → Addr) → Nat → Hp → α → τ → Prop} {β : Nat → Addr} {H : Hp} {h : Hm} {d : Dat} {v : V} {f : Nat × List Dat → Mo α} {Q : τ → Hp → Prop} {E : Addr → Hp → Prop}
    (L : Lands W R β H h ((do let c ← lref d; f c) h) Q E) (s : Sim W β H h) (r : Rel W β h.length H d v) : ∃ n xs vs, d = .ref n ∧ v = .ref (β n) ∧ h[n]? = some (.lst xs) ∧ H (β n) = some (.lst vs) ∧ Rels W β h.length H xs vs ∧ Lands W R β H h (f (n, xs) h) Q E := by
  cases d with
  | ref n =>
    have L' : Lands W R β H h ((do let c ← cellOf n; let xs ← lstC c; f (n, xs)) h) Q E := by simpa only [lref, bind_assoc, pure_bind] using L
    obtain ⟨c, e, hd, k, L1⟩ := Lands.cellB L' s
    cases c with
    | lst xs =>
      obtain ⟨vs, k, rs⟩ := k
      unfold Rel at r
      exact ⟨n, xs, vs, rfl, r.2, e, k, rs, L1⟩
    | _ => exact False.elim L1
  | _ => exact False.elim L
def setC (n : Nat) (c : Cell) : Mo Dat := fun h => .val .non (h.set n c)
@[simp] def mLm (f : Dat → Dat → Mo Dat) (ma mb : Mv) : Mv := fun ρ => do let x ← ma ρ; let _ ← listOf x; let y ← mb ρ; f x y
/-- o.m(e), m a built-in's method that changes a list -/
theorem me_lm1 {o : Expr} {name : Str} {id : String} {r : V → List V → Hp → VK → Prop} {f : Dat → Dat → Mo Dat} (slot : Slot "list" name id) (ty : typeOf (.builtin id) = pure (.type "method_descriptor")) (hr : MtR X id r)
    (hf : ∀ β H h d1 d2 x y (Q : VK) E, Sim (wd X) β H h → Rel (wd X) β h.length H d1 x → Rel (wd X) β h.length H d2 y → Lands (wd X) (Rel (wd X)) β H h (f d1 d2 h) Q E → r x [y] H Q)
    (ho : ME X Wx o ma) (ha : ME X Wx e mb)
    (hbase : attributeBase o name X.env (eval o X.env) = eval o X.env := by rfl)
    (hfew : ((backTo pos (starEach [e] X.env)).all (fun x => !x.1) && (backToKw pos (keywordEach [] X.env)).all (fun x => x.1.isSome) && decide ([e].length + ([] : List Keyword).length + (if ([] : List Keyword).isEmpty then 0 else 1) < 30)) = true := by rfl)
    (hline : (apos.endLine == pos.line) = true := by rfl) (hs : starEach [e] X.env = (false, eval e X.env) :: starEach [] X.env := by rfl) (hplain : (backTo pos (starEach [] X.env)).any (·.1) = false := by rfl) :
    ME X Wx (.Call (.Attribute o name apos) [e] [] pos) (mLm f ma mb) :=
  pe_weak (pe_bm PySem.F.plainAttrs_list slot ty hr ho (pa_cons ha pa_nil hs) hbase hfew hline hs hplain) fun σ H Q ⟨β, ρ, h, er, s, L⟩ =>
    one (f := fun x => do let _ ← listOf x; let y ← mb ρ; f x y) er s L fun β1 H1 h1 d1 x s1 r1 A1 L1 => by
    obtain ⟨a, vs, xs, e, k, rs, L2⟩ := Lands.listB L1 s1 r1
    refine ⟨?_, one (f := fun y => f d1 y) (A1.er s er) s1 L2 fun β2 H2 h2 d2 y s2 r2 A2 L3 => hf β2 H2 h2 d1 d2 x y Q _ s2 (A2.rel s1 r1) r2 L3⟩
    subst e
    exact .inl ⟨rfl, vs, k⟩

def lAppend (x y : Dat) : Mo Dat := do let c ← lref x; if c.2.length < sizeLine then setC c.1 (.lst (c.2 ++ [y])) else bad
theorem mk_lst1 {W : Wd} {β : Nat → Addr} {N : Nat} {H : Hp} {d : Dat} {v : V} (r : Rel W β N H d v) : Rels W β N H [d] [v] := by
  unfold Rels
  exact ⟨v, [], rfl, r, by unfold Rels; rfl⟩
theorem me_append {o : Expr} (ho : ME X Wx o ma) (ha : ME X Wx e mb)
    (hbase : attributeBase o "append" X.env (eval o X.env) = eval o X.env := by rfl)
    (hfew : ((backTo pos (starEach [e] X.env)).all (fun x => !x.1) && (backToKw pos (keywordEach [] X.env)).all (fun x => x.1.isSome) && decide ([e].length + ([] : List Keyword).length + (if ([] : List Keyword).isEmpty then 0 else 1) < 30)) = true := by rfl)
    (hline : (apos.endLine == pos.line) = true := by rfl) (hs : starEach [e] X.env = (false, eval e X.env) :: starEach [] X.env := by rfl) (hplain : (backTo pos (starEach [] X.env)).any (·.1) = false := by rfl) :
    ME X Wx (.Call (.Attribute o "append" apos) [e] [] pos) (mLm lAppend ma mb) :=
  me_lm1 PySem.F.slot_list_append PySem.F.type_list_append mt_append (fun β H h d1 d2 x y Q E s r1 r2 L => by
    obtain ⟨n, xs, vs, rfl, rfl, e, k, rs, L1⟩ := Lands.lrefB L s r1
    obtain ⟨hz, L2⟩ := Lands.ifB L1
    exact ⟨β n, vs, y, rfl, rfl, k, by rw [← rs.length]; exact hz, L2.setL s e (rs.append (mk_lst1 r2)) fun _ _ _ _ => mk_non⟩) ho ha hbase hfew hline hs hplain
theorem list_extend_any (l : Addr) (items : Array Value) (n : Nat) (b : Addr) (items2 : Array Value) (n2 : Nat) (sl2 : Array (Option Value)) (hc0 : ¬(!items.isEmpty && Builtin.List.listTooLong (items.size + items2.size)) = true) (hc1 : items.size ≤ sizeLine) (hs2 : items.size + items2.size ≤ sizeLine + 1) :
    Meets (Builtin.«list.extend» ⟨[.ref l, .ref b], []⟩) (fun _ R s => s.heap.get? l = some { cls := .type "list", dict := none, data := .seq items n, slots := #[] } ∧ s.heap.get? b = some { cls := .type "list", dict := none, data := .seq items2 n2, slots := sl2 } ∧ R (.ok (.ret Value.none)) { s with heap := s.heap.update l (Obj.mapSeq fun x => x ++ items2), toks := s.toks }) :=
  .of_wp fun prog w A R s h => by
    obtain ⟨hp, g, d, tk, os⟩ := s
    obtain ⟨hl, hb, h⟩ := h
    have f1 := AutoSeq1.idx_int; have f2 := AutoSeq1.sub_tuple_tuple; have f3 := AutoSeq1.sub_list_list; have f4 := AutoSeq1.sub_tuple_list; have f5 := AutoSeq1.sub_list_tuple
    have hz2 : (items ++ items2).size ≤ sizeLine + 1 := by rw [Array.size_append]; exact hs2
    wp_walk using (wpAny_updateSeq hl rfl (hz := hc1) (_hz' := hz2)), AutoSeq1.wpAny_loadPart' hl, AutoSeq1.wpAny_loadPart' hb
    exact ⟨_, rfl, h⟩
def rExtL (K : PySem.W.Frag) : V → List V → Hp → VK → Prop := fun x vs H Q => ∃ l b xs zs, x = .ref l ∧ vs = [.ref b] ∧ H l = some (.lst xs) ∧ SqL K H b zs ∧ xs.length + zs.length ≤ sizeLine ∧ Q .non (upd H l (.lst (xs ++ zs)))
theorem mt_extL : MtR X "list.extend" (rExtL X.K) := by
  intro pins s σ H x vs v us Q I rx rv h
  obtain ⟨l, b, xs, zs, rfl, rfl, hH, hB, hz, q⟩ := h
  cases rx
  obtain ⟨u, rfl, ru⟩ := rv.one
  cases ru
  obtain ⟨z, its, n, r, hl, e⟩ := I.lstM hH
  obtain ⟨its2, r2, p2, _⟩ := I.list hB
  obtain ⟨n2, sl2, e2⟩ := plain_any p2
  have hl2 := r2.length
  have hsz : its.toArray.size + its2.toArray.size ≤ sizeLine := by rw [List.size_toArray, List.size_toArray]; omega
  have hlong : ¬ (!its.toArray.isEmpty && Builtin.List.listTooLong (its.toArray.size + its2.toArray.size)) = true := by
    rw [notLongL hsz, Bool.and_false]; exact Bool.false_ne_true
  refine call_meets F.slot_list_extend ⟨_, e, rfl⟩ F.entry_list_extend (F.args_list_extend_2 _ _) (list_extend_any l its.toArray n b its2.toArray n2 sl2 hlong (by rw [List.size_toArray]; omega) (by omega)) ⟨e, e2, ?_⟩
  refine ⟨.non, _, I.lset (its' := its ++ its2) hH e (by simp) (r.append r2) ?_, rfl, q⟩
  rw [List.length_append]
  omega
def lExtend (x y : Dat) : Mo Dat := do let c ← lref x; let ys ← listOf y; if c.2.length + ys.length ≤ sizeLine then setC c.1 (.lst (c.2 ++ ys)) else bad
theorem me_extend {o : Expr} (ho : ME X Wx o ma) (ha : ME X Wx e mb)
    (hbase : attributeBase o "extend" X.env (eval o X.env) = eval o X.env := by rfl)
    (hfew : ((backTo pos (starEach [e] X.env)).all (fun x => !x.1) && (backToKw pos (keywordEach [] X.env)).all (fun x => x.1.isSome) && decide ([e].length + ([] : List Keyword).length + (if ([] : List Keyword).isEmpty then 0 else 1) < 30)) = true := by rfl)
    (hline : (apos.endLine == pos.line) = true := by rfl) (hs : starEach [e] X.env = (false, eval e X.env) :: starEach [] X.env := by rfl) (hplain : (backTo pos (starEach [] X.env)).any (·.1) = false := by rfl) :
    ME X Wx (.Call (.Attribute o "extend" apos) [e] [] pos) (mLm lExtend ma mb) :=
  me_lm1 PySem.F.slot_list_extend PySem.F.type_list_extend mt_extL (fun β H h d1 d2 x y Q E s r1 r2 L => by
    obtain ⟨n, xs, vs, rfl, rfl, e, k, rs, L1⟩ := Lands.lrefB L s r1
    obtain ⟨b, ws, ys, rfl, k2, rs2, L2⟩ := Lands.listB L1 s r2
    obtain ⟨hz, L3⟩ := Lands.ifB L2
    exact ⟨β n, b, vs, ws, rfl, rfl, k, k2, by rw [← rs.length, ← rs2.length]; exact hz, L3.setL s e (rs.append rs2) fun _ _ _ _ => mk_non⟩) ho ha hbase hfew hline hs hplain
end
end Mir
end

section
set_option Elab.async false
set_option linter.all false
set_option maxRecDepth 100000
/-! Mir10: statements: stores, if, return, raise, for, while; comprehensions. -/
namespace Mir
open PySem PySem.Spec
open PyProof.Rows L2

inductive Fl where
  | nx (ρ : Env') | rt (d : Dat) | bk (ρ : Env') | ct (ρ : Env')
abbrev Ms := Env' → Mo Fl
inductive FlV where
  | nx (σ : L2.St) | rt (v : V) | bk (σ : L2.St) | ct (σ : L2.St)
def RFl (W : Wd) (l : Nat) (β : Nat → Addr) (N : Nat) (H : Hp) : Fl → FlV → Prop
  | .nx ρ, .nx σ => ER W l β N H ρ σ
  | .bk ρ, .bk σ => ER W l β N H ρ σ
  | .ct ρ, .ct σ => ER W l β N H ρ σ
  | .rt d, .rt v => Rel W β N H d v
  | _, _ => False
def dQ (D : Ends) : FlV → Hp → Prop
  | .nx σ, H => D.nx σ H
  | .bk σ, H => D.bk σ H
  | .ct σ, H => D.ct σ H
  | .rt v, H => D.rt v H
def exS (Wx : WX) (l : Nat) : Addr → Hp → Prop := fun C H' => ∀ σ', σ'.length = l → Wx (.ref C) none σ' H'
abbrev LandsS (X : Cx) (Wx : WX) (D : Ends) (β : Nat → Addr) (H : Hp) (h : Hm) (r : Res Fl) : Prop := Lands (wd X) (RFl (wd X) X.N.length) β H h r (dQ D) (exS Wx X.N.length)
def tMS (X : Cx) (Wx : WX) (m : Ms) : TS := fun D σ H => ∃ β ρ h, ER (wd X) X.N.length β h.length H ρ σ ∧ Sim (wd X) β H h ∧ LandsS X Wx D β H h (m ρ h)
abbrev MS (X : Cx) (Wx : WX) (st : Stmt) (m : Ms) : Prop := PS X st (tMS X Wx m)
abbrev MSs (X : Cx) (Wx : WX) (st : List Stmt) (m : Ms) : Prop := PSs X st (tMS X Wx m)

theorem Lands.monoE {α τ : Type} {W : Wd} {R : (Nat → Addr) → Nat → Hp → α → τ → Prop} {β : Nat → Addr} {H : Hp} {h : Hm} {r : Res α} {Q : τ → Hp → Prop} {E E' : Addr → Hp → Prop} (L : Lands W R β H h r Q E) (e : ∀ C H', E C H' → E' C H') : Lands W R β H h r Q E' := by
  cases r with
  | bad => exact L
  | val a h' => exact L
  | exc c h' => exact fun β' H' C A k => e _ _ (L β' H' C A k)

section
variable {X : Cx} {Wx : WX} {D : Ends} {e e2 : Expr} {ma mb : Mv} {σ : L2.St} {H : Hp} {β : Nat → Addr} {ρ : Env'} {h : Hm}
/-- an expression ahead of what a statement does -/
theorem oneS {f : Dat → Mo Fl} {P : V → Hp → Prop} (er : ER (wd X) X.N.length β h.length H ρ σ) (s : Sim (wd X) β H h) (L : LandsS X Wx D β H h ((do let x ← ma ρ; f x) h))
    (k : ∀ β1 H1 h1 d1 x, Sim (wd X) β1 H1 h1 → Rel (wd X) β1 h1.length H1 d1 x → Aft (wd X) β H h β1 H1 h1 → LandsS X Wx D β1 H1 h1 (f d1 h1) → P x H1) : tM X Wx ma σ H P :=
  ⟨β, ρ, h, er, s, ((Lands.bind (R' := Rel (wd X)) L).mono fun x H1 ⟨β1, h1, d1, s1, r1, A1, L1⟩ => k β1 H1 h1 d1 x s1 r1 A1 L1).monoE fun C H' q => q σ er.1.2⟩
theorem oneBS {m : Mb} {f : Bool → Mo Fl} {P : Bool → Hp → Prop} (er : ER (wd X) X.N.length β h.length H ρ σ) (s : Sim (wd X) β H h) (L : LandsS X Wx D β H h ((do let x ← m ρ; f x) h))
    (k : ∀ β1 H1 h1 b, Sim (wd X) β1 H1 h1 → ER (wd X) X.N.length β1 h1.length H1 ρ σ → LandsS X Wx D β1 H1 h1 (f b h1) → P b H1) : tMT X Wx m σ H P :=
  ⟨β, ρ, h, er, s, ((Lands.bind (R' := EqB) L).mono fun x H1 ⟨β1, h1, d1, s1, r1, A1, L1⟩ => by
    cases r1
    exact k β1 H1 h1 x s1 (A1.er s er) L1).monoE fun C H' q => q σ er.1.2⟩
/-- the end: what follows -/
theorem Lands.nx {ρ' : Env'} {σ' : L2.St} (L : LandsS X Wx D β H h (.val (.nx ρ') h)) (s : Sim (wd X) β H h) (er : ER (wd X) X.N.length β h.length H ρ' σ') : D.nx σ' H := Lands.ret (v := FlV.nx σ') L s er
theorem Lands.rt {d : Dat} {v : V} (L : LandsS X Wx D β H h (.val (.rt d) h)) (s : Sim (wd X) β H h) (r : Rel (wd X) β h.length H d v) : D.rt v H := Lands.ret (v := FlV.rt v) L s r

/-! ### blocks -/
@[simp] def mSeq (m1 m2 : Ms) : Ms := fun ρ => do
  let f ← m1 ρ
  match f with
  | .nx ρ' => m2 ρ'
  | f => pure f
@[simp] def mNext : Ms := fun ρ => pure (.nx ρ)
theorem seq_core {m1 m2 : Ms} {D : Ends} {σ : L2.St} {H : Hp} (q : tMS X Wx (mSeq m1 m2) D σ H) : tSeq (tMS X Wx m1) (tMS X Wx m2) D σ H := by
  obtain ⟨β, ρ, h, er, s, L⟩ := q
  refine ⟨β, ρ, h, er, s, (Lands.bind (R' := RFl (wd X) X.N.length) (f := fun f => match f with | .nx ρ' => m2 ρ' | f => pure f) L).mono fun x H1 ⟨β1, h1, f1, s1, r1, A1, L1⟩ => ?_⟩
  cases f1 with
  | nx ρ1 => cases x with
    | nx σ1 => exact ⟨β1, ρ1, h1, r1, s1, L1⟩
    | _ => exact r1.elim
  | rt d => cases x with
    | rt v => exact Lands.rt (D := D) L1 s1 r1
    | _ => exact r1.elim
  | bk ρ1 => cases x with
    | bk σ1 => show dQ D (.bk σ1) H1; exact Lands.ret (v := FlV.bk σ1) L1 s1 r1
    | _ => exact r1.elim
  | ct ρ1 => cases x with
    | ct σ1 => show dQ D (.ct σ1) H1; exact Lands.ret (v := FlV.ct σ1) L1 s1 r1
    | _ => exact r1.elim
theorem mss_nil : MSs X Wx [] mNext := pss_weak pss_nil fun D σ H ⟨β, ρ, h, er, s, L⟩ => Lands.nx L s er
theorem mss_cons {st : Stmt} {rest : List Stmt} {m1 m2 : Ms} (h1 : MS X Wx st m1) (h2 : MSs X Wx rest m2) : MSs X Wx (st :: rest) (mSeq m1 m2) := pss_weak (pss_cons h1 h2) fun D σ H q => seq_core q
theorem mss_one {st : Stmt} {m1 : Ms} (h1 : MS X Wx st m1) : MSs X Wx [st] m1 := pss_one h1
theorem ms_pass {pos : Pos} : MS X Wx (.Pass pos) mNext := ps_weak ps_pass fun D σ H ⟨β, ρ, h, er, s, L⟩ => Lands.nx L s er

/-! ### small statements -/
@[simp] def mSet (i : Nat) (ma : Mv) : Ms := fun ρ => do let x ← ma ρ; pure (.nx (ρ.set i (some x)))
theorem ms_set {i : Nat} {x : Str} {pos pos' : Pos} (hN : X.N.Nodup) (ha : ME X Wx e ma) (hi : X.N[i]? = some x := by rfl) (hx : Loc X.env.scope x := by first | exact Or.inl rfl | exact Or.inr rfl) (hs : swapsWith e (some (.Name x pos')) pos.line X.env = pure false := by rfl)
    (hf : X.fn x = true ∨ X.env.scope.names.lookup x = some .local := by first | exact .inl rfl | exact .inr rfl) : MS X Wx (.Assign [.Name x pos'] e pos) (mSet i ma) :=
  ps_weak (ps_set hN hi hx ha hs hf) fun D σ H ⟨β, ρ, h, er, s, L⟩ => oneS (f := fun x => pure (.nx (ρ.set i (some x)))) er s L fun β1 H1 h1 d1 x s1 r1 A1 L1 => Lands.nx L1 s1 ((A1.er s er).set r1)
@[simp] def mDrop (ma : Mv) : Ms := fun ρ => do let _ ← ma ρ; pure (.nx ρ)
theorem ms_expr {pos : Pos} (ha : ME X Wx e ma) (hs : swapsWith e none pos.line X.env = pure false := by rfl) : MS X Wx (.Expr e pos) (mDrop ma) :=
  ps_weak (ps_expr ha hs) fun D σ H ⟨β, ρ, h, er, s, L⟩ => oneS (f := fun _ => pure (.nx ρ)) er s L fun β1 H1 h1 d1 x s1 r1 A1 L1 => Lands.nx L1 s1 (A1.er s er)
@[simp] def mRet (ma : Mv) : Ms := fun ρ => do let x ← ma ρ; pure (.rt x)
theorem ms_ret {pos : Pos} (ha : ME X Wx e ma) : MS X Wx (.Return (some e) pos) (mRet ma) :=
  ps_weak (ps_ret ha) fun D σ H ⟨β, ρ, h, er, s, L⟩ => oneS (f := fun x => pure (.rt x)) er s L fun β1 H1 h1 d1 x s1 r1 A1 L1 => Lands.rt L1 s1 r1
@[simp] def mIfS (c : Mb) (m1 m2 : Ms) : Ms := fun ρ => do let b ← c ρ; if b then m1 ρ else m2 ρ
theorem ms_if {c : Expr} {a b : List Stmt} {mc : Mb} {m1 m2 : Ms} {pos : Pos} (hc : MT X Wx c mc) (ha : MSs X Wx a m1) (hb : MSs X Wx b m2) : MS X Wx (.If c a b pos) (mIfS mc m1 m2) :=
  ps_weak (ps_if hc ha hb) fun D σ H ⟨β, ρ, h, er, s, L⟩ => oneBS (f := fun b => if b then m1 ρ else m2 ρ) er s L fun β1 H1 h1 b s1 er1 L1 => by
    cases b with
    | true => exact iteT ⟨β1, ρ, h1, er1, s1, L1⟩
    | false => exact iteF ⟨β1, ρ, h1, er1, s1, L1⟩
/-- raise C('..'), C an own class without an own __init__ -/
@[simp] def mRaise (c : Str) : Ms := fun _ h => .exc c h
theorem ms_raise {pos : Pos} {c : Str} {C : Addr} (hc : X.calm = true) (tk : Takes X Wx) (he : PMk X e fun _ H Q => Q (.ref C) none H) (gC : X.mg c = some (.ref C)) : MS X Wx (.Raise (some e) none pos) (mRaise c) :=
  ps_weak (ps_raise hc tk he) fun D σ H ⟨β, ρ, h, er, s, L⟩ => L β H C (Aft.refl s) gC σ er.1.2

/-! ### targets -/
@[simp] def bName (i : Nat) : Dat → Env' → Option Env' := fun d ρ => some (ρ.set i (some d))
@[simp] def bNames : List Nat → List Dat → Env' → Option Env'
  | [], [], ρ => some ρ
  | i :: is, d :: ds, ρ => bNames is ds (ρ.set i (some d))
  | _, _, _ => none
@[simp] def bTup (is : List Nat) : Dat → Env' → Option Env'
  | .tup ds, ρ => bNames is ds ρ
  | _, _ => none
/-- what a target asks -/
def tMG (X : Cx) (is : List Nat) (b : Dat → Env' → Option Env') : TG := fun v σ H Q => ∃ β ρ h d ρ', ER (wd X) X.N.length β h.length H ρ σ ∧ Sim (wd X) β H h ∧ Rel (wd X) β h.length H d v ∧ b d ρ = some ρ' ∧
  ∀ σ' , ER (wd X) X.N.length β h.length H ρ' σ' → (∀ vs : List Nat, (∀ i ∈ is, i ∈ vs) → wipe σ' vs = wipe σ vs) → Q σ' H
abbrev MG (X : Cx) (t : Expr) (is : List Nat) (b : Dat → Env' → Option Env') : Prop := PG X t (tMG X is b)
theorem wipe_set {σ : L2.St} {i : Nat} {v : Option V} : ∀ {vs : List Nat}, i ∈ vs → wipe (σ.set i v) vs = wipe σ vs
  | [], h => absurd h (by simp)
  | w :: vs, h => by
    show (wipe (σ.set i v) vs).set w none = (wipe σ vs).set w none
    by_cases z : i ∈ vs
    · rw [wipe_set z]
    · have e : i = w := by
        rcases List.mem_cons.mp h with h | h
        · exact h
        · exact absurd h z
      subst e
      have key : ∀ us : List Nat, i ∉ us → wipe (σ.set i v) us = (wipe σ us).set i v := fun us => by
        induction us with
        | nil => intro _; rfl
        | cons u us ih =>
          intro hn
          have h1 : i ≠ u := fun e => hn (by rw [e]; simp)
          have h2 : i ∉ us := fun e => hn (List.mem_cons_of_mem _ e)
          show (wipe (σ.set i v) us).set u none = ((wipe σ us).set u none).set i v
          rw [ih h2, List.set_comm _ _ h1]
      rw [key vs z, List.set_set]
theorem pg_weak {tg : Expr} {t t' : TG} (h : PG X tg t) (w : ∀ v σ H Q, t' v σ H Q → t v σ H Q) : PG X tg t' := ⟨fun pins s σ H v u Q I r q => h.run pins s σ H v u Q I r (w v σ H Q q)⟩
theorem mg_name {i : Nat} {x : Str} {pos : Pos} (hN : X.N.Nodup) (hi : X.N[i]? = some x := by rfl) (hx : Loc X.env.scope x := by first | exact Or.inl rfl | exact Or.inr rfl) (hf : X.fn x = true ∨ X.env.scope.names.lookup x = some .local := by first | exact .inl rfl | exact .inr rfl) : MG X (.Name x pos) [i] (bName i) :=
  pg_weak (pg_name hN hi hx hf) fun v σ H Q ⟨β, ρ, h, d, ρ', er, s, r, e, k⟩ => by
    cases e
    exact k _ (er.set r) fun vs hv => wipe_set (hv i (by simp))
theorem mg_tup2 {i j : Nat} {x y : Str} {p1 p2 pos : Pos} {kt : Nat} (hc : X.calm = true) (hN : X.N.Nodup) (hi : X.N[i]? = some x := by rfl) (hj : X.N[j]? = some y := by rfl) (hx : Loc X.env.scope x := by first | exact Or.inl rfl | exact Or.inr rfl) (hy : Loc X.env.scope y := by first | exact Or.inl rfl | exact Or.inr rfl)
    (hf : X.fn x = true ∨ X.env.scope.names.lookup x = some .local := by first | exact .inl rfl | exact .inr rfl) (hg : X.fn y = true ∨ X.env.scope.names.lookup y = some .local := by first | exact .inl rfl | exact .inr rfl) :
    MG X (.Tuple [.Name x p1, .Name y p2] kt pos) [i, j] (bTup [i, j]) :=
  pg_weak (pg_tup hc (pgs_cons (pg_name hN hi hx hf) (pgs_cons (pg_name hN hj hy hg) pgs_nil))) fun v σ H Q ⟨β, ρ, h, d, ρ', er, s, r, e, k⟩ => by
    cases d with
    | tup ds =>
      obtain ⟨a, vs, rfl, kt, rs⟩ := rel_tup r
      match ds, rs, e with
      | [d1, d2], rs, e =>
        unfold Rels at rs
        obtain ⟨v1, r1, rfl, q1, rs⟩ := rs
        unfold Rels at rs
        obtain ⟨v2, r2, rfl, q2, rs⟩ := rs
        unfold Rels at rs
        subst rs
        cases e
        exact ⟨a, _, rfl, kt.sq, rfl, v1, _, rfl, v2, _, rfl, rfl, k _ ((er.set q1).set q2) fun vs hv => by rw [wipe_set (hv j (by simp)), wipe_set (hv i (by simp))]⟩
      | [], rs, e => cases e
      | [_], rs, e => cases e
      | _ :: _ :: _ :: _, rs, e => cases e
    | _ => cases e
theorem mg_tup3 {i j l : Nat} {x y z : Str} {p1 p2 p3 pos : Pos} {kt : Nat} (hc : X.calm = true) (hN : X.N.Nodup) (hi : X.N[i]? = some x := by rfl) (hj : X.N[j]? = some y := by rfl) (hl : X.N[l]? = some z := by rfl) (hx : Loc X.env.scope x := by first | exact Or.inl rfl | exact Or.inr rfl) (hy : Loc X.env.scope y := by first | exact Or.inl rfl | exact Or.inr rfl) (hz : Loc X.env.scope z := by first | exact Or.inl rfl | exact Or.inr rfl)
    (hf : X.fn x = true ∨ X.env.scope.names.lookup x = some .local := by first | exact .inl rfl | exact .inr rfl) (hg : X.fn y = true ∨ X.env.scope.names.lookup y = some .local := by first | exact .inl rfl | exact .inr rfl) (hh : X.fn z = true ∨ X.env.scope.names.lookup z = some .local := by first | exact .inl rfl | exact .inr rfl) :
    MG X (.Tuple [.Name x p1, .Name y p2, .Name z p3] kt pos) [i, j, l] (bTup [i, j, l]) :=
  pg_weak (pg_tup hc (pgs_cons (pg_name hN hi hx hf) (pgs_cons (pg_name hN hj hy hg) (pgs_cons (pg_name hN hl hz hh) pgs_nil)))) fun v σ H Q ⟨β, ρ, h, d, ρ', er, s, r, e, k⟩ => by
    cases d with
    | tup ds =>
      obtain ⟨a, vs, rfl, kt, rs⟩ := rel_tup r
      match ds, rs, e with
      | [d1, d2, d3], rs, e =>
        unfold Rels at rs
        obtain ⟨v1, r1, rfl, q1, rs⟩ := rs
        unfold Rels at rs
        obtain ⟨v2, r2, rfl, q2, rs⟩ := rs
        unfold Rels at rs
        obtain ⟨v3, r3, rfl, q3, rs⟩ := rs
        unfold Rels at rs
        subst rs
        cases e
        exact ⟨a, _, rfl, kt.sq, rfl, v1, _, rfl, v2, _, rfl, v3, _, rfl, rfl, k _ (((er.set q1).set q2).set q3) fun vs hv => by rw [wipe_set (hv l (by simp)), wipe_set (hv j (by simp)), wipe_set (hv i (by simp))]⟩
      | [], rs, e => cases e
      | [_], rs, e => cases e
      | [_, _], rs, e => cases e
      | _ :: _ :: _ :: _ :: _, rs, e => cases e
    | _ => cases e
/-- target = e, a tuple's items to names -/
@[simp] def mAsg (b : Dat → Env' → Option Env') (ma : Mv) : Ms := fun ρ => do let x ← ma ρ; let ρ' ← optM (b x ρ); pure (.nx ρ')
theorem ms_asg {tg : Expr} {is : List Nat} {b : Dat → Env' → Option Env'} {pos : Pos} (ha : ME X Wx e ma) (hg : MG X tg is b) (hs : swapsWithSole [tg] e pos.line X.env = pure false := by rfl) (hw : swappedStores [tg] e X.env = pure none := by rfl) (h1 : (assignEach [tg] X.env).map (·.2) = [assign tg X.env] := by rfl) :
    MS X Wx (.Assign [tg] e pos) (mAsg b ma) :=
  ps_weak (ps_asg ha hg hs hw h1) fun D σ H ⟨β, ρ, h, er, s, L⟩ => oneS (f := fun x => do let ρ' ← optM (b x ρ); pure (.nx ρ')) er s L fun β1 H1 h1 d1 x s1 r1 A1 L1 => by
    obtain ⟨ρ', e, L2⟩ := Lands.optB L1
    exact ⟨β1, ρ, h1, d1, ρ', A1.er s er, s1, r1, e, fun σ' er' _ => Lands.nx L2 s1 er'⟩
end
end Mir
end

section
set_option Elab.async false
set_option linter.all false
set_option maxRecDepth 100000
/-! Mir11: what is walked; for, while; comprehensions. -/
namespace Mir
open PySem PySem.Spec
open PyProof.Rows L2

structure Src where
  items : List Dat
  lk : Option (Nat × Cell)
def Src.ok (s : Src) (h : Hm) : Bool := match s.lk with
  | none => true
  | some p => decide (h[p.1]? = some p.2)
abbrev MSrc := Env' → Mo Src
/-- the walk J gives the items -/
structure JOk (W : Wd) (J : It) (β1 : Nat → Addr) (H1 : Hp) (h1 : Hm) (src : Src) : Prop where
  few : src.items.length ≤ sizeLine
  go : ∀ i β H h, Aft W β1 H1 h1 β H h → src.ok h = true → i < src.items.length → J.go i H
  stop : ∀ i β H h, Aft W β1 H1 h1 β H h → src.ok h = true → src.items.length ≤ i → J.stop i H
  same : ∀ i β H h v H', Aft W β1 H1 h1 β H h → src.ok h = true → J.yld i H v H' → Same H H'
  yld : ∀ i β H h v H', Aft W β1 H1 h1 β H h → src.ok h = true → J.yld i H v H' → i < src.items.length → ∃ d, src.items[i]? = some d ∧ Rel W β h.length H' d v
def tMI (X : Cx) (Wx : WX) (m : MSrc) : TI := fun σ H R => ∃ β ρ h, ER (wd X) X.N.length β h.length H ρ σ ∧ Sim (wd X) β H h ∧
  match m ρ h with
  | .bad => False
  | .val src h' => ∀ β' H' J, Aft (wd X) β H h β' H' h' → JOk (wd X) J β' H' h' src → R J H'
  | .exc c h' => ∀ β' H' C, Aft (wd X) β H h β' H' h' → X.mg c = some (.ref C) → exW Wx σ C H'
abbrev MI (X : Cx) (Wx : WX) (tg e : Expr) (m : MSrc) : Prop := PI X tg e (tMI X Wx m)

theorem same_upd {H : Hp} {T : Addr} {o : HO} (h : H T = none) : Same H (upd H T o) := fun a u e => by
  rw [upd_ne fun z => by rw [z, h] at e; cases e]
  exact e
theorem Aft.same {W : Wd} {β : Nat → Addr} {H H' : Hp} {h : Hm} (s : Sim W β H h) (k : Same H H') : Aft W β H h β H' h := by
  have pe : PExt H H' := ⟨fun a xs e => k _ _ e, fun a o u e => k _ _ e⟩
  have at_ : ∀ n c, h[n]? = some c → c ≠ .dead → H' (β n) = H (β n) := fun n c e d => by
    obtain ⟨u, e2, _⟩ := (s.cell n c e).some d
    rw [e2, k _ _ e2]
  refine ⟨Nat.le_refl _, fun _ _ => rfl, ⟨fun n c e => CRel.mono pe (Nat.le_refl _) (fun _ _ => rfl) (fun d => at_ n c e d) (s.cell n c e), s.inj⟩, fun a o e _ => k _ _ e, fun _ e => e, fun n c hn e _ => ?_, fun a e => ?_, fun n t v kvs c' e e' => ?_⟩
  · rw [List.getElem?_eq_none hn] at e; cases e
  · cases q : H a with
    | none => exact absurd q e
    | some o => rw [k _ _ q]; simp
  · rw [e] at e'; cases e'
    exact .inr ⟨t, v, kvs, rfl, Nat.le_refl _, fun _ => ⟨rfl, rfl, at_ n _ e (by simp)⟩⟩

/-! ### by values -/
def ItR (X : Cx) (tg : Expr) (ti : V → Hp → (It → Hp → Prop) → Prop) : Prop :=
  ∀ (pins : List (Addr × Obj)) (s : Shared) (σ : L2.St) (H : Hp) (x : V) (u : Value) (R : It → Hp → Prop), Inv X pins σ H s → RelV x u → ti x H R → wpAny (model X.prog X.w) X.A (pyIter u) (PIE X pins σ tg R) X.xe s
theorem ItR.or {X : Cx} {tg : Expr} {t t' : V → Hp → (It → Hp → Prop) → Prop} (h : ItR X tg t) (h' : ItR X tg t') : ItR X tg fun x H R => t x H R ∨ t' x H R := fun pins s σ H x u R I r q => q.elim (h pins s σ H x u R I r) (h' pins s σ H x u R I r)
theorem pi_by {X : Cx} {tg e : Expr} {t : TE} {ti : V → Hp → (It → Hp → Prop) → Prop} (ha : PE X e t) (hi : ItR X tg ti) : PI X tg e fun σ H R => t σ H fun x H1 => ti x H1 R :=
  ⟨fun pins s σ H R I h => thn (ha.run pins s σ H _ I h) fun u s1 ⟨x, H1, I1, r1, q1⟩ => hi pins s1 σ H1 x u R I1 r1 q1⟩
theorem it_list {X : Cx} {tg : Expr} : ItR X tg fun x H R => ∃ a xs, x = .ref a ∧ SqL X.K H a xs ∧ (xs.length ≤ sizeLine → R (Itl X.K a) H) := by
  intro pins s σ H x u R I r h
  obtain ⟨a, xs, rfl, hq, q⟩ := h
  cases r
  obtain ⟨its, rv, p, hz⟩ := I.list hq
  refine wpAny_pyIter_list p.isList ?_
  exact pi_one (tk := s.toks) I _ (turn_list a _) ⟨_, Heap.get?_push_size _ rfl, rfl, rfl⟩ (q (by first | exact hz | (rw [rv.length]; exact hz)))
theorem it_tup {X : Cx} {tg : Expr} : ItR X tg fun x H R => ∃ a xs, x = .ref a ∧ SqT X.K H a xs ∧ (xs.length ≤ sizeLine → R (Itt X.K a) H) := by
  intro pins s σ H x u R I r h
  obtain ⟨a, xs, rfl, hq, q⟩ := h
  cases r
  obtain ⟨its, rv, p, hz⟩ := I.tuple hq
  refine wpAny_pyIter_tuple (show s.heap.IsTuple a its.toArray from p) ?_
  exact pi_one (tk := s.toks) I _ (turn_tuple a _) ⟨_, Heap.get?_push_size _ rfl, rfl, rfl⟩ (q (by first | exact hz | (rw [rv.length]; exact hz)))
theorem it_str {X : Cx} {tg : Expr} : ItR X tg fun x H R => ∃ z, x = .str z ∧ R (Its z) H := by
  intro pins s σ H x u R I r h
  obtain ⟨z, rfl, q⟩ := h
  obtain ⟨t, rfl⟩ := r
  cases ha : z.cps.all (· < 128)
  · exact wpAny_pyIter_wide ha (pi_one (tk := s.toks) I _ (turn_str _ z t "str_iterator" (.inr rfl)) ⟨_, Heap.get?_push_size _ rfl, rfl, rfl⟩ q)
  · exact wpAny_pyIter_ascii ha (pi_one (tk := s.toks) I _ (turn_str _ z t "str_ascii_iterator" (.inl rfl)) ⟨_, Heap.get?_push_size _ rfl, rfl, rfl⟩ q)

/-! ### sequences -/
def signsOf (z : Str) : List Dat := z.cps.toList.map fun c => .str ⟨#[c]⟩
def srcC (n : Nat) (c : Cell) : Mo Src := match c with
  | .lst xs => pure ⟨xs, some (n, c)⟩
  | _ => bad
@[simp] def srcD (d : Dat) : Mo Src := match d with
  | .str z => if z.length ≤ sizeLine then pure ⟨signsOf z, none⟩ else bad
  | .tup xs => pure ⟨xs, none⟩
  | .lst xs => pure ⟨xs, none⟩
  | .ref n => do let c ← cellOf n; srcC n c
  | _ => bad
@[simp] def mSrc (ma : Mv) : MSrc := fun ρ => do let x ← ma ρ; srcD x
section
variable {W : Wd} {β : Nat → Addr} {H : Hp} {h : Hm}
theorem jok_str (z : Str) (hz : z.length ≤ sizeLine) : JOk W (Its z) β H h ⟨signsOf z, none⟩ := by
  have hl : (signsOf z).length = z.cps.size := by unfold signsOf; rw [List.length_map, Array.length_toList]
  refine ⟨by rw [hl]; exact hz, fun i _ _ _ _ _ hi => by rw [hl] at hi; exact hi, fun i _ _ _ _ _ hi => by rw [hl] at hi; exact hi, fun i β' H' h' v H2 A _ y => (by obtain ⟨rfl, y⟩ := y; exact Same.refl _), fun i β' H' h' v H2 A _ y _ => ?_⟩
  obtain ⟨rfl, c, hc, rfl⟩ := y
  refine ⟨.str ⟨#[c]⟩, ?_, mk_str⟩
  show (signsOf z)[i]? = _
  unfold signsOf
  rw [List.getElem?_map, Array.getElem?_toList, hc]
  rfl
theorem jok_list {a : Addr} {vs : List V} {xs : List Dat} (s : Sim W β H h) (k : FzL W.K H a vs) (r : Rels W β h.length H xs vs) (hz : vs.length ≤ sizeLine) : JOk W (Itl W.K a) β H h ⟨xs, none⟩ := by
  refine ⟨by rw [r.length]; exact hz, fun i β' H' h' A _ hi => ?_, fun i β' H' h' A _ hi => ?_, fun i β' H' h' v H2 A _ y => (by obtain ⟨rfl, y⟩ := y; exact Same.refl _), fun i β' H' h' v H2 A _ y _ => ?_⟩
  · obtain ⟨v, hv, _⟩ := r.get (List.getElem?_eq_getElem hi)
    exact ⟨vs, v, (k.mono (A.pext s)).sq, hv⟩
  · exact ⟨vs, (k.mono (A.pext s)).sq, by rw [← r.length]; exact hi⟩
  · obtain ⟨rfl, y⟩ := y
    have hv := y vs (k.mono (A.pext s)).sq
    have hi : i < xs.length := by rw [r.length]; exact (List.getElem?_eq_some_iff.mp hv).1
    obtain ⟨v', hv', rv⟩ := r.get (List.getElem?_eq_getElem hi)
    rw [hv] at hv'
    cases hv'
    exact ⟨xs[i], List.getElem?_eq_getElem hi, A.rel s rv⟩
theorem jok_tup {a : Addr} {vs : List V} {xs : List Dat} (s : Sim W β H h) (k : FzT W.K H a vs) (r : Rels W β h.length H xs vs) (hz : vs.length ≤ sizeLine) : JOk W (Itt W.K a) β H h ⟨xs, none⟩ := by
  refine ⟨by rw [r.length]; exact hz, fun i β' H' h' A _ hi => ?_, fun i β' H' h' A _ hi => ?_, fun i β' H' h' v H2 A _ y => (by obtain ⟨rfl, y⟩ := y; exact Same.refl _), fun i β' H' h' v H2 A _ y _ => ?_⟩
  · obtain ⟨v, hv, _⟩ := r.get (List.getElem?_eq_getElem hi)
    exact ⟨vs, v, (k.mono (A.pext s)).sq, hv⟩
  · exact ⟨vs, (k.mono (A.pext s)).sq, by rw [← r.length]; exact hi⟩
  · obtain ⟨rfl, y⟩ := y
    have hv := y vs (k.mono (A.pext s)).sq
    have hi : i < xs.length := by rw [r.length]; exact (List.getElem?_eq_some_iff.mp hv).1
    obtain ⟨v', hv', rv⟩ := r.get (List.getElem?_eq_getElem hi)
    rw [hv] at hv'
    cases hv'
    exact ⟨xs[i], List.getElem?_eq_getElem hi, A.rel s rv⟩
theorem jok_cell {n : Nat} {xs : List Dat} (s : Sim W β H h) (e : h[n]? = some (.lst xs)) (hz : xs.length ≤ sizeLine) : JOk W (Itl W.K (β n)) β H h ⟨xs, some (n, .lst xs)⟩ := by
  have hn : n < h.length := (List.getElem?_eq_some_iff.mp e).1
  have now : ∀ β' H' h', Aft W β H h β' H' h' → (Src.ok ⟨xs, some (n, .lst xs)⟩ h') = true → ∃ vs, H' (β n) = some (.lst vs) ∧ Rels W β' h'.length H' xs vs := fun β' H' h' A ok => by
    have e' : h'[n]? = some (.lst xs) := of_decide_eq_true ok
    obtain ⟨vs, k, r⟩ := A.sim.cell n _ e'
    rw [A.agree n hn] at k
    exact ⟨vs, k, r⟩
  refine ⟨hz, fun i β' H' h' A ok hi => ?_, fun i β' H' h' A ok hi => ?_, fun i β' H' h' v H2 A _ y => (by obtain ⟨rfl, y⟩ := y; exact Same.refl _), fun i β' H' h' v H2 A ok y _ => ?_⟩
  · obtain ⟨vs, k, r⟩ := now β' H' h' A ok
    obtain ⟨v, hv, _⟩ := r.get (List.getElem?_eq_getElem hi)
    exact ⟨vs, v, .of k, hv⟩
  · obtain ⟨vs, k, r⟩ := now β' H' h' A ok
    exact ⟨vs, .of k, by rw [← r.length]; exact hi⟩
  · obtain ⟨vs, k, r⟩ := now β' H' h' A ok
    obtain ⟨rfl, y⟩ := y
    have hv := y vs (.of k)
    have hi : i < xs.length := by rw [r.length]; exact (List.getElem?_eq_some_iff.mp hv).1
    obtain ⟨v', hv', rv⟩ := r.get (List.getElem?_eq_getElem hi)
    rw [hv] at hv'
    cases hv'
    exact ⟨xs[i], List.getElem?_eq_getElem hi, rv⟩
end
section
variable {X : Cx} {Wx : WX} {tg : Expr}
/-- from an outcome of a source -/
def LandsI (X : Cx) (β : Nat → Addr) (H : Hp) (h : Hm) (r : Res Src) (R : It → Hp → Prop) (E : Addr → Hp → Prop) : Prop := match r with
  | .bad => False
  | .val src h' => ∀ β' H' J, Aft (wd X) β H h β' H' h' → JOk (wd X) J β' H' h' src → R J H'
  | .exc c h' => ∀ β' H' C, Aft (wd X) β H h β' H' h' → X.mg c = some (.ref C) → E C H'
theorem LandsI.bind {α τ : Type} {R' : (Nat → Addr) → Nat → Hp → α → τ → Prop} {β : Nat → Addr} {H : Hp} {h : Hm} {m : Mo α} {f : α → Mo Src} {R : It → Hp → Prop} {E : Addr → Hp → Prop} (L : LandsI X β H h ((m >>= f) h) R E) :
    Lands (wd X) R' β H h (m h) (fun v H1 => ∃ β1 h1 a1, Sim (wd X) β1 H1 h1 ∧ R' β1 h1.length H1 a1 v ∧ Aft (wd X) β H h β1 H1 h1 ∧ LandsI X β1 H1 h1 (f a1 h1) R E) E := by
  cases e : m h with
  | bad => rw [bnd_bad e] at L; exact L
  | val a h1 =>
    rw [bnd_val e] at L
    refine fun β1 H1 v A r => ⟨β1, h1, a, A.sim, r, A, ?_⟩
    cases e2 : f a h1 with
    | bad => rw [e2] at L; exact L
    | val src h2 => rw [e2] at L; exact fun β' H' J B j => L β' H' J (A.trans B) j
    | exc c h2 => rw [e2] at L; exact fun β' H' C B k => L β' H' C (A.trans B) k
  | exc c h1 => rw [bnd_exc e] at L; exact L
theorem tMI_iff {m : MSrc} {σ : L2.St} {H : Hp} {R : It → Hp → Prop} : tMI X Wx m σ H R ↔ ∃ β ρ h, ER (wd X) X.N.length β h.length H ρ σ ∧ Sim (wd X) β H h ∧ LandsI X β H h (m ρ h) R (exW Wx σ) := Iff.rfl
theorem LandsI.ret {β : Nat → Addr} {H : Hp} {h : Hm} {src : Src} {R : It → Hp → Prop} {E : Addr → Hp → Prop} {J : It} (L : LandsI X β H h (.val src h) R E) (s : Sim (wd X) β H h) (j : JOk (wd X) J β H h src) : R J H := L β H J (Aft.refl s) j
theorem cellOf_eq {n : Nat} {h : Hm} {β : Nat → Addr} {H : Hp} {f : Cell → Mo Src} {R : It → Hp → Prop} {E : Addr → Hp → Prop} (L : LandsI X β H h ((do let c ← cellOf n; f c) h) R E) : ∃ c, h[n]? = some c ∧ LandsI X β H h (f c h) R E := by
  cases e : h[n]? with
  | none =>
    have : (cellOf n) h = .bad := by unfold cellOf; rw [e]
    rw [bnd_bad this] at L; exact L.elim
  | some c =>
    by_cases hd : c = .dead
    · subst hd
      have : (cellOf n) h = .bad := by unfold cellOf; rw [e]
      rw [bnd_bad this] at L; exact L.elim
    · have : (cellOf n) h = .val c h := by
        unfold cellOf; rw [e]
        cases c <;> first | rfl | exact absurd rfl hd
      rw [bnd_val this] at L; exact ⟨c, rfl, L⟩
theorem mi_seq {e : Expr} {ma : Mv} (ha : ME X Wx e ma) : MI X Wx tg e (mSrc ma) :=
  pi_weak (pi_by ha (it_str.or (it_tup.or it_list))) fun σ H R ⟨β, ρ, h, er, s, L⟩ => by
    refine ⟨β, ρ, h, er, s, (LandsI.bind (R' := Rel (wd X)) (f := srcD) L).mono fun x H1 ⟨β1, h1, d1, s1, r1, A1, L1⟩ => ?_⟩
    cases d1 with
    | str z =>
      refine .inl ⟨z, by unfold Rel at r1; exact r1, ?_⟩
      by_cases hz : z.length ≤ sizeLine
      · have L2 : LandsI X β1 H1 h1 ((if z.length ≤ sizeLine then pure ⟨signsOf z, none⟩ else bad : Mo Src) h1) R (exW Wx σ) := L1
        rw [if_pos hz] at L2
        exact LandsI.ret L2 s1 (jok_str z hz)
      · have L2 : LandsI X β1 H1 h1 ((if z.length ≤ sizeLine then pure ⟨signsOf z, none⟩ else bad : Mo Src) h1) R (exW Wx σ) := L1
        rw [if_neg hz] at L2
        exact L2.elim
    | tup xs =>
      obtain ⟨a, vs, rfl, k, rs⟩ := rel_tup r1
      exact .inr (.inl ⟨a, vs, rfl, k.sq, fun hz => LandsI.ret L1 s1 (jok_tup s1 k rs hz)⟩)
    | lst xs =>
      obtain ⟨a, vs, rfl, k, rs⟩ : ∃ a vs, x = .ref a ∧ FzL (wd X).K H1 a vs ∧ Rels (wd X) β1 h1.length H1 xs vs := by unfold Rel at r1; exact r1
      exact .inr (.inr ⟨a, vs, rfl, k.sq, fun hz => LandsI.ret L1 s1 (jok_list s1 k rs hz)⟩)
    | ref n =>
      obtain ⟨c, ec, L2⟩ := cellOf_eq (f := srcC n) L1
      obtain ⟨hn, rfl⟩ : n < h1.length ∧ x = .ref (β1 n) := by unfold Rel at r1; exact r1
      cases c with
      | lst xs =>
        obtain ⟨vs, k, rs⟩ := s1.cell n _ ec
        exact .inr (.inr ⟨β1 n, vs, rfl, .of k, fun hz => LandsI.ret L2 s1 (jok_cell s1 ec (by rw [rs.length]; exact hz))⟩)
      | _ => exact L2.elim
    | _ => exact L1.elim
/-! ### ranges -/
def i62 (i : Int) : Bool := decide (-(2 ^ 62) ≤ i ∧ i < 2 ^ 62)
def rngD (lo : Int) (n : Nat) : List Dat := (List.range n).map fun (i : Nat) => .int (lo + (i : Int))
theorem rngD_len (lo : Int) (n : Nat) : (rngD lo n).length = n := by simp [rngD]
theorem jok_range {β : Nat → Addr} {H : Hp} {h : Hm} (W : Wd) (lo : Int) (n : Nat) (hz : n ≤ sizeLine) : JOk W (Itr lo n) β H h ⟨rngD lo n, none⟩ := by
  refine ⟨by rw [rngD_len]; exact hz, fun i _ _ _ _ _ hi => by rw [rngD_len] at hi; exact hi, fun i _ _ _ _ _ hi => by rw [rngD_len] at hi; exact hi, fun i β' H' h' v H2 A _ y => ?_, fun i β' H' h' v H2 A _ y => ?_⟩
  · obtain ⟨rfl, rfl⟩ := y
    exact Same.refl _
  · obtain ⟨rfl, rfl⟩ := y
    intro hi
    rw [rngD_len] at hi
    refine ⟨.int (lo + i), ?_, mk_int⟩
    show (rngD lo n)[i]? = _
    simp [rngD, hi]
/-- at every later time: the list at a -/
def LNow (W : Wd) (β : Nat → Addr) (H : Hp) (h : Hm) (src : Src) (a : Addr) : Prop := ∀ β' H' h', Aft W β H h β' H' h' → src.ok h' = true → ∃ vs, SqL W.K H' a vs ∧ Rels W β' h'.length H' src.items vs
theorem lnow_frz {W : Wd} {β : Nat → Addr} {H : Hp} {h : Hm} {a : Addr} {vs : List V} {xs : List Dat} (s : Sim W β H h) (k : FzL W.K H a vs) (r : Rels W β h.length H xs vs) : LNow W β H h ⟨xs, none⟩ a :=
  fun β' H' h' A _ => ⟨vs, (k.mono (A.pext s)).sq, A.rels s r⟩
theorem lnow_cell {W : Wd} {β : Nat → Addr} {H : Hp} {h : Hm} {n : Nat} {xs : List Dat} (e : h[n]? = some (.lst xs)) : LNow W β H h ⟨xs, some (n, .lst xs)⟩ (β n) := fun β' H' h' A ok => by
  have hn : n < h.length := (List.getElem?_eq_some_iff.mp e).1
  have e' : h'[n]? = some (.lst xs) := of_decide_eq_true ok
  obtain ⟨vs, k, r⟩ := A.sim.cell n _ e'
  rw [A.agree n hn] at k
  exact ⟨vs, .of k, r⟩
def enumD (xs : List Dat) : List Dat := xs.mapIdx fun i x => .tup [.int (i : Nat), x]
theorem jok_enum {W : Wd} {β : Nat → Addr} {H : Hp} {h : Hm} {src : Src} {a : Addr} (hz : src.items.length ≤ sizeLine) (ln : LNow W β H h src a) : JOk W (Ite W.K a) β H h ⟨enumD src.items, src.lk⟩ := by
  have hl : (enumD src.items).length = src.items.length := by simp [enumD]
  have sok : ∀ h', (Src.ok ⟨enumD src.items, src.lk⟩ h') = src.ok h' := fun _ => rfl
  refine ⟨by rw [hl]; exact hz, fun i β' H' h' A ok hi => ?_, fun i β' H' h' A ok hi => ?_, fun i β' H' h' v H2 A ok y => ?_, fun i β' H' h' v H2 A ok y => ?_⟩
  · obtain ⟨vs, k, r⟩ := ln β' H' h' A ok
    obtain ⟨v, hv, _⟩ := r.get (List.getElem?_eq_getElem (by rw [hl] at hi; exact hi))
    exact ⟨vs, v, k, hv⟩
  · obtain ⟨vs, k, r⟩ := ln β' H' h' A ok
    exact ⟨vs, k, by rw [← r.length]; rw [hl] at hi; exact hi⟩
  · obtain ⟨T, x, rfl, hT, rfl, y⟩ := y
    exact same_upd hT
  · obtain ⟨T, x, rfl, hT, rfl, y⟩ := y
    intro hi
    rw [hl] at hi
    obtain ⟨vs, k, r⟩ := ln β' H' h' A ok
    have hv := y vs k
    obtain ⟨v', hv', rv⟩ := r.get (List.getElem?_eq_getElem hi)
    rw [hv] at hv'
    cases hv'
    refine ⟨.tup [.int i, src.items[i]], ?_, ?_⟩
    · show (enumD src.items)[i]? = _
      simp [enumD, hi]
    · have pe : PExt H' (upd H' T (.tup [.int (i : Nat), x])) := ⟨fun a xs e => same_upd hT _ _ e, fun a o u e => same_upd hT _ _ e⟩
      unfold Rel
      refine ⟨T, _, rfl, .inl upd_same, ?_⟩
      unfold Rels
      refine ⟨_, _, rfl, mk_int, ?_⟩
      unfold Rels
      refine ⟨_, _, rfl, Rel.mono pe (Nat.le_refl _) (fun _ _ => rfl) _ _ rv, ?_⟩
      unfold Rels
      rfl
def zipD (xs ys : List Dat) : List Dat := (xs.zip ys).map fun p => .tup [p.1, p.2]
theorem jok_zipT {W : Wd} {β : Nat → Addr} {H : Hp} {h : Hm} {a b : Addr} {xs ys : List Dat} {vs us : List V} (s : Sim W β H h) (ka : FzT W.K H a vs) (ra : Rels W β h.length H xs vs) (kb : FzT W.K H b us) (rb : Rels W β h.length H ys us) (hz : xs.length ≤ sizeLine) :
    JOk W (RZ.ItzT W.K a b) β H h ⟨zipD xs ys, none⟩ := by
  have hl : (zipD xs ys).length = min xs.length ys.length := by simp [zipD]
  refine ⟨by rw [hl]; exact Nat.le_trans (Nat.min_le_left _ _) hz, fun i β' H' h' A ok hi => ?_, fun i β' H' h' A ok hi => ?_, fun i β' H' h' v H2 A ok y => ?_, fun i β' H' h' v H2 A ok y => ?_⟩
  · have hi : i < (zipD xs ys).length := hi
    rw [hl] at hi
    obtain ⟨v, hv, _⟩ := ra.get (List.getElem?_eq_getElem (Nat.lt_of_lt_of_le hi (Nat.min_le_left _ _)))
    obtain ⟨u, hu, _⟩ := rb.get (List.getElem?_eq_getElem (Nat.lt_of_lt_of_le hi (Nat.min_le_right _ _)))
    exact ⟨vs, us, v, u, (ka.mono (A.pext s)).sq, (kb.mono (A.pext s)).sq, hv, hu⟩
  · have hi : (zipD xs ys).length ≤ i := hi
    rw [hl] at hi
    refine ⟨vs, us, (ka.mono (A.pext s)).sq, (kb.mono (A.pext s)).sq, ?_⟩
    rw [← ra.length, ← rb.length]
    omega
  · obtain ⟨T, x, y', rfl, hT, rfl, y⟩ := y
    exact same_upd hT
  · obtain ⟨T, x, y', rfl, hT, rfl, y1, y2⟩ := y
    intro hi
    have hi : i < (zipD xs ys).length := hi
    rw [hl] at hi
    have h1 := y1 vs (ka.mono (A.pext s)).sq
    have h2 := y2 us (kb.mono (A.pext s)).sq
    obtain ⟨v, hv, rv⟩ := ra.get (List.getElem?_eq_getElem (Nat.lt_of_lt_of_le hi (Nat.min_le_left _ _)))
    obtain ⟨u, hu, ru⟩ := rb.get (List.getElem?_eq_getElem (Nat.lt_of_lt_of_le hi (Nat.min_le_right _ _)))
    rw [h1] at hv
    rw [h2] at hu
    cases hv
    cases hu
    refine ⟨.tup [xs[i]'(Nat.lt_of_lt_of_le hi (Nat.min_le_left _ _)), ys[i]'(Nat.lt_of_lt_of_le hi (Nat.min_le_right _ _))], ?_, ?_⟩
    · show (zipD xs ys)[i]? = _
      rw [List.getElem?_eq_getElem (by rw [hl]; exact hi)]
      simp [zipD]
    · have pe : PExt H' (upd H' T (.tup [x, y'])) := ⟨fun a xs e => same_upd hT _ _ e, fun a o u e => same_upd hT _ _ e⟩
      unfold Rel
      refine ⟨T, _, rfl, .inl upd_same, ?_⟩
      unfold Rels
      refine ⟨_, _, rfl, Rel.mono pe (Nat.le_refl _) (fun _ _ => rfl) _ _ (A.rel s rv), ?_⟩
      unfold Rels
      refine ⟨_, _, rfl, Rel.mono pe (Nat.le_refl _) (fun _ _ => rfl) _ _ (A.rel s ru), ?_⟩
      unfold Rels
      rfl
end
end Mir
end

section
set_option Elab.async false
set_option linter.all false
set_option maxRecDepth 100000
/-! Mir12: range, enumerate, zip as sources; for, while; comprehensions. -/
namespace Mir
open PySem PySem.Spec
open PyProof.Rows L2
section
variable {X : Cx} {Wx : WX} {tg : Expr}
theorem LandsI.ifB {c : Prop} [Decidable c] {m : Mo Src} {β : Nat → Addr} {H : Hp} {h : Hm} {R : It → Hp → Prop} {E : Addr → Hp → Prop} (L : LandsI X β H h ((if c then m else bad) h) R E) : c ∧ LandsI X β H h (m h) R E := by
  by_cases z : c
  · rw [if_pos z] at L; exact ⟨z, L⟩
  · rw [if_neg z] at L; exact L.elim
@[simp] def rng1C (j : Int) : Mo Src := if i62 j = true ∧ j.toNat ≤ sizeLine then pure ⟨rngD 0 j.toNat, none⟩ else bad
@[simp] def rng2C (i j : Int) : Mo Src := if (i62 i = true ∧ i62 j = true) ∧ (j - i).toNat ≤ sizeLine then pure ⟨rngD i (j - i).toNat, none⟩ else bad
@[simp] def rng1 : List Dat → Mo Src
  | [.int j] => rng1C j
  | _ => bad
@[simp] def rng2 : List Dat → Mo Src
  | [.int i, .int j] => rng2C i j
  | _ => bad
theorem rng1_inv {X : Cx} {ds : List Dat} {β : Nat → Addr} {H : Hp} {h : Hm} {R : It → Hp → Prop} {E : Addr → Hp → Prop} (L : LandsI X β H h (rng1 ds h) R E) : ∃ j, ds = [.int j] ∧ LandsI X β H h (rng1C j h) R E := by
  unfold rng1 at L
  split at L
  · exact ⟨_, rfl, L⟩
  · exact L.elim
theorem rng2_inv {X : Cx} {ds : List Dat} {β : Nat → Addr} {H : Hp} {h : Hm} {R : It → Hp → Prop} {E : Addr → Hp → Prop} (L : LandsI X β H h (rng2 ds h) R E) : ∃ i j, ds = [.int i, .int j] ∧ LandsI X β H h (rng2C i j h) R E := by
  unfold rng2 at L
  split at L
  · exact ⟨_, _, rfl, L⟩
  · exact L.elim
@[simp] def mSrcA (f : List Dat → Mo Src) (ml : Ml) : MSrc := fun ρ => do let xs ← ml ρ; f xs
theorem rels1 {W : Wd} {β : Nat → Addr} {N : Nat} {H : Hp} {d : Dat} {vs : List V} (r : Rels W β N H [d] vs) : ∃ v, vs = [v] ∧ Rel W β N H d v := by
  unfold Rels at r
  obtain ⟨v, r1, rfl, q1, rs⟩ := r
  unfold Rels at rs
  subst rs
  exact ⟨v, rfl, q1⟩
theorem rels2 {W : Wd} {β : Nat → Addr} {N : Nat} {H : Hp} {d e : Dat} {vs : List V} (r : Rels W β N H [d, e] vs) : ∃ v u, vs = [v, u] ∧ Rel W β N H d v ∧ Rel W β N H e u := by
  unfold Rels at r
  obtain ⟨v, r1, rfl, q1, rs⟩ := r
  obtain ⟨u, rfl, q2⟩ := rels1 rs
  exact ⟨v, u, rfl, q1, q2⟩
theorem mi_range1 {a : Expr} {ml : Ml} {p pos : Pos} (hg : Gl X "range") (hm : X.mg "range" = none) (ha : MA X Wx [a] ml) (hs : starEach [a] X.env = [(false, eval a X.env)] := by rfl) : MI X Wx tg (.Call (.Name "range" p) [a] [] pos) (mSrcA rng1 ml) :=
  pi_weak (pi_range1 hg hm ha hs) fun σ H R ⟨β, ρ, h, er, s, L⟩ =>
    ⟨β, ρ, h, er, s, (LandsI.bind (R' := fun β N H => Rels (wd X) β N H) (f := rng1) L).mono fun vs H1 ⟨β1, h1, ds, s1, r1, A1, L1⟩ => by
        obtain ⟨j, rfl, L1⟩ := rng1_inv L1
        obtain ⟨v, rfl, q⟩ := rels1 r1
        obtain ⟨⟨c1, c2⟩, L2⟩ := LandsI.ifB L1
        have c1 := of_decide_eq_true c1
        exact ⟨j, by rw [rel_int q], c1.1, c1.2, L2.ret s1 (jok_range _ 0 _ c2)⟩⟩
theorem mi_range2 {a b : Expr} {ml : Ml} {p pos : Pos} (hg : Gl X "range") (hm : X.mg "range" = none) (ha : MA X Wx [a, b] ml) (hs : starEach [a, b] X.env = [(false, eval a X.env), (false, eval b X.env)] := by rfl) (hs2 : starEach [b] X.env = [(false, eval b X.env)] := by rfl) :
    MI X Wx tg (.Call (.Name "range" p) [a, b] [] pos) (mSrcA rng2 ml) :=
  pi_weak (pi_range2 hg hm ha hs hs2) fun σ H R ⟨β, ρ, h, er, s, L⟩ =>
    ⟨β, ρ, h, er, s, (LandsI.bind (R' := fun β N H => Rels (wd X) β N H) (f := rng2) L).mono fun vs H1 ⟨β1, h1, ds, s1, r1, A1, L1⟩ => by
        obtain ⟨i, j, rfl, L1⟩ := rng2_inv L1
        obtain ⟨v, u, rfl, q, q2⟩ := rels2 r1
        obtain ⟨⟨⟨c1, c2⟩, c3⟩, L2⟩ := LandsI.ifB L1
        have c1 := of_decide_eq_true c1
        have c2 := of_decide_eq_true c2
        exact ⟨i, j, by rw [rel_int q, rel_int q2], ⟨c1.1, c1.2, c2.1, c2.2⟩, L2.ret s1 (jok_range _ i _ c3)⟩⟩
def enC (n : Nat) (c : Cell) : Mo Src := match c with
  | .lst xs => if xs.length ≤ sizeLine then pure ⟨enumD xs, some (n, c)⟩ else bad
  | _ => bad
def enL (xs : List Dat) : Mo Src := if xs.length ≤ sizeLine then pure ⟨enumD xs, none⟩ else bad
def enA : List Dat → Mo Src
  | [.lst xs] => enL xs
  | [.ref n] => do let c ← cellOf n; enC n c
  | _ => bad
theorem enA_inv {X : Cx} {ds : List Dat} {β : Nat → Addr} {H : Hp} {h : Hm} {R : It → Hp → Prop} {E : Addr → Hp → Prop} (L : LandsI X β H h (enA ds h) R E) : (∃ xs, ds = [.lst xs] ∧ LandsI X β H h (enL xs h) R E) ∨ ∃ n, ds = [.ref n] ∧ LandsI X β H h ((do let c ← cellOf n; enC n c) h) R E := by
  unfold enA at L
  split at L
  · exact .inl ⟨_, rfl, L⟩
  · exact .inr ⟨_, rfl, L⟩
  · exact L.elim
theorem mi_enum {a : Expr} {ml : Ml} {p pos tpos : Pos} {elts : List Expr} {kk : Nat} (hg : Gl X "enumerate") (hm : X.mg "enumerate" = none) (ha : MA X Wx [a] ml) (hs : starEach [a] X.env = [(false, eval a X.env)] := by rfl) :
    MI X Wx (.Tuple elts kk tpos) (.Call (.Name "enumerate" p) [a] [] pos) (mSrcA enA ml) :=
  pi_weak (pi_enum hg hm ha hs) fun σ H R ⟨β, ρ, h, er, s, L⟩ =>
    ⟨β, ρ, h, er, s, (LandsI.bind (R' := fun β N H => Rels (wd X) β N H) (f := enA) L).mono fun vs H1 ⟨β1, h1, ds, s1, r1, A1, L1⟩ => by
      rcases enA_inv L1 with ⟨xs, rfl, L1⟩ | ⟨n, rfl, L1⟩
      ·
        obtain ⟨v, rfl, q⟩ := rels1 r1
        obtain ⟨c2, L2⟩ := LandsI.ifB L1
        obtain ⟨a, vs, rfl, k, rs⟩ : ∃ a vs, v = .ref a ∧ FzL (wd X).K H1 a vs ∧ Rels (wd X) β1 h1.length H1 xs vs := by unfold Rel at q; exact q
        exact ⟨a, vs, rfl, k.sq, L2.ret s1 (jok_enum (src := ⟨xs, none⟩) c2 (lnow_frz s1 k rs))⟩
      · obtain ⟨v, rfl, q⟩ := rels1 r1
        obtain ⟨c, ec, L2⟩ := cellOf_eq (f := enC n) L1
        obtain ⟨hn, rfl⟩ : n < h1.length ∧ v = .ref (β1 n) := by unfold Rel at q; exact q
        cases c with
        | lst xs =>
          obtain ⟨vs, k, rs⟩ := s1.cell n _ ec
          obtain ⟨c2, L3⟩ := LandsI.ifB L2
          exact ⟨β1 n, vs, rfl, .of k, LandsI.ret L3 s1 (jok_enum (src := ⟨xs, some (n, .lst xs)⟩) c2 (lnow_cell ec))⟩
        | _ => exact L2.elim⟩
def zpL (xs ys : List Dat) : Mo Src := if xs.length ≤ sizeLine then pure ⟨zipD xs ys, none⟩ else bad
def zpA : List Dat → Mo Src
  | [.tup xs, .tup ys] => zpL xs ys
  | _ => bad
theorem zpA_inv {X : Cx} {ds : List Dat} {β : Nat → Addr} {H : Hp} {h : Hm} {R : It → Hp → Prop} {E : Addr → Hp → Prop} (L : LandsI X β H h (zpA ds h) R E) : ∃ xs ys, ds = [.tup xs, .tup ys] ∧ LandsI X β H h (zpL xs ys h) R E := by
  unfold zpA at L
  split at L
  · exact ⟨_, _, rfl, L⟩
  · exact L.elim
theorem mi_zip {a b : Expr} {ml : Ml} {p pos tpos : Pos} {elts : List Expr} {kk : Nat} (hg : Gl X "zip") (hm : X.mg "zip" = none) (ha : MA X Wx [a, b] ml) (hs : starEach [a, b] X.env = (false, eval a X.env) :: starEach [b] X.env := by rfl) (hpl : (backTo pos (starEach [b] X.env)).any (·.1) = false := by rfl) :
    MI X Wx (.Tuple elts kk tpos) (.Call (.Name "zip" p) [a, b] [] pos) (mSrcA zpA ml) :=
  pi_weak (RZ.pi_zipA hg hm ha hs hpl) fun σ H R ⟨β, ρ, h, er, s, L⟩ =>
    ⟨β, ρ, h, er, s, (LandsI.bind (R' := fun β N H => Rels (wd X) β N H) (f := zpA) L).mono fun vs H1 ⟨β1, h1, ds, s1, r1, A1, L1⟩ => by
        obtain ⟨xs, ys, rfl, L1⟩ := zpA_inv L1
        obtain ⟨v, u, rfl, q, q2⟩ := rels2 r1
        obtain ⟨c2, L2⟩ := LandsI.ifB L1
        obtain ⟨a, vs, rfl, k, rs⟩ := rel_tup q
        obtain ⟨b, us, rfl, k2, rs2⟩ := rel_tup q2
        exact ⟨a, b, vs, us, rfl, .inr ⟨k.sq, k2.sq, L2.ret s1 (jok_zipT s1 k rs k2 rs2 c2)⟩⟩⟩
end

/-! ### for -/
def mGuard (s : Src) : Mo Unit := fun h => if s.ok h = true then .val () h else .bad
def forL (src : Src) (bd : Dat → Env' → Option Env') (body : Ms) : List Dat → Ms
  | [], ρ => do mGuard src; pure (.nx ρ)
  | d :: ds, ρ => do
    mGuard src
    let ρ' ← optM (bd d ρ)
    let f ← body ρ'
    match f with
    | .nx ρ2 => forL src bd body ds ρ2
    | .ct ρ2 => forL src bd body ds ρ2
    | .bk ρ2 => pure (.nx ρ2)
    | .rt d => pure (.rt d)
@[simp] def mFor (ms : MSrc) (bd : Dat → Env' → Option Env') (body : Ms) : Ms := fun ρ => do let src ← ms ρ; forL src bd body src.items ρ
theorem Lands.guard {α τ : Type} {W : Wd} {R : (Nat → Addr) → Nat → Hp → α → τ → Prop} {β : Nat → Addr} {H : Hp} {h : Hm} {src : Src} {f : Mo α} {Q : τ → Hp → Prop} {E : Addr → Hp → Prop} (L : Lands W R β H h ((do mGuard src; f) h) Q E) : src.ok h = true ∧ Lands W R β H h (f h) Q E := by
  by_cases e : src.ok h = true
  · have g : mGuard src h = .val () h := by unfold mGuard; rw [if_pos e]
    have : (do mGuard src; f) h = f h := bnd_val g
    rw [this] at L
    exact ⟨e, L⟩
  · have g : mGuard src h = .bad := by unfold mGuard; rw [if_neg e]
    have : (do mGuard src; f) h = .bad := bnd_bad g
    rw [this] at L
    exact L.elim
section
variable {X : Cx} {Wx : WX} {tg e : Expr}
theorem ms_for {body : List Stmt} {is : List Nat} {ms : MSrc} {bd : Dat → Env' → Option Env'} {mb : Ms} {pos : Pos} (hp : PassesOwn (model X.prog X.w) X.A X.env X.xe) (hc : X.calm = true) (hi : MI X Wx tg e ms) (hg : MG X tg is bd) (hb : MSs X Wx body mb)
    (hs : ∀ x, foldedSetIterable e X.env x = pure x := by intro _; rfl) : MS X Wx (.For tg e body [] pos) (mFor ms bd mb) :=
  ps_weak (ps_for hp hc hi hg hb hs) fun D σ H ⟨β, ρ, h, er, s, L⟩ => by
    refine ⟨β, ρ, h, er, s, ?_⟩
    have L : LandsS X Wx D β H h ((do let src ← ms ρ; forL src bd mb src.items ρ) h) := L
    cases em : ms ρ h with
    | bad => rw [bnd_bad em] at L; exact L
    | exc c h' =>
      rw [bnd_exc em] at L
      exact fun β' H' C A k => L β' H' C A k σ er.1.2
    | val src h1 =>
      rw [bnd_val em] at L
      intro β1 H1 J A1 J1
      have L1 : LandsS X Wx D β1 H1 h1 (forL src bd mb src.items ρ h1) := L.after A1
      refine ⟨fun i m σ H => m = src.items.length - i ∧ i ≤ src.items.length ∧ ∃ β' ρ' h', ER (wd X) X.N.length β' h'.length H ρ' σ ∧ Aft (wd X) β1 H1 h1 β' H h' ∧ LandsS X Wx D β' H h' (forL src bd mb (src.items.drop i) ρ' h'), ⟨src.items.length, by simp, Nat.zero_le _, β1, ρ, h1, A1.er s er, Aft.refl A1.sim, L1⟩, ?_⟩
      rintro i m σ2 H2 ⟨rfl, hi, β2, ρ2, h2, er2, A2, L2⟩
      by_cases hlt : i < src.items.length
      · rw [List.drop_eq_getElem_cons hlt] at L2
        obtain ⟨ok2, L3⟩ := Lands.guard L2
        refine .inr ⟨J1.go i β2 H2 h2 A2 ok2 hlt, fun σ' H' => ∃ β' ρ' h', ER (wd X) X.N.length β' h'.length H' ρ' σ' ∧ Aft (wd X) β1 H1 h1 β' H' h' ∧ LandsS X Wx D β' H' h' (forL src bd mb (src.items.drop (i + 1)) ρ' h'), fun σ' H' q => ⟨src.items.length - (i + 1), by omega, rfl, hlt, q⟩, fun x H3 y => ?_⟩
        obtain ⟨d, hd, rd⟩ := J1.yld i β2 H2 h2 x H3 A2 ok2 y hlt
        have sm := J1.same i β2 H2 h2 x H3 A2 ok2 y
        rw [List.getElem?_eq_getElem hlt] at hd
        cases hd
        have A3 := Aft.same A2.sim sm
        obtain ⟨ρ3, e3, L4⟩ := Lands.optB L3
        refine ⟨β2, ρ2, h2, _, ρ3, A3.er A2.sim er2, A3.sim, rd, e3, fun σ3 er3 _ => ⟨β2, ρ3, h2, er3, A3.sim, ?_⟩⟩
        refine (Lands.bind (R' := RFl (wd X) X.N.length) (L4.after A3)).mono fun fl H4 ⟨β4, h4, f4, s4, r4, A4, L5⟩ => ?_
        have A5 := A2.trans (A3.trans A4)
        cases f4 with
        | nx ρ4 => cases fl with
          | nx σ4 => exact ⟨β4, ρ4, h4, r4, A5, L5⟩
          | _ => exact r4.elim
        | ct ρ4 => cases fl with
          | ct σ4 => exact ⟨β4, ρ4, h4, r4, A5, L5⟩
          | _ => exact r4.elim
        | bk ρ4 => cases fl with
          | bk σ4 => exact Lands.nx (D := D) L5 s4 r4
          | _ => exact r4.elim
        | rt d => cases fl with
          | rt v => exact Lands.rt (D := D) L5 s4 r4
          | _ => exact r4.elim
      · have hl : src.items.length ≤ i := Nat.le_of_not_lt hlt
        rw [List.drop_eq_nil_of_le hl] at L2
        obtain ⟨ok2, L3⟩ := Lands.guard L2
        exact .inl ⟨J1.stop i β2 H2 h2 A2 ok2 hl, Lands.nx L3 A2.sim er2⟩
def whileF (c : Mb) (body : Ms) : Nat → Ms
  | 0, _ => bad
  | n + 1, ρ => do
    let b ← c ρ
    if b then (do
      let f ← body ρ
      match f with
      | .nx ρ2 => whileF c body n ρ2
      | .ct ρ2 => whileF c body n ρ2
      | .bk ρ2 => pure (.nx ρ2)
      | .rt d => pure (.rt d)) else pure (.nx ρ)
theorem ms_while {c : Expr} {body : List Stmt} {mc : Mb} {mb : Ms} {pos : Pos} (n : Nat) (hp : PassesOwn (model X.prog X.w) X.A X.env X.xe) (hc : MT X Wx c mc) (hb : MSs X Wx body mb) : MS X Wx (.While c body [] pos) (whileF mc mb n) :=
  ps_weak (ps_while hp hc hb) fun D σ H ⟨β, ρ, h, er, s, L⟩ => by
    refine ⟨fun m σ H => ∃ β ρ h, ER (wd X) X.N.length β h.length H ρ σ ∧ Sim (wd X) β H h ∧ LandsS X Wx D β H h (whileF mc mb m ρ h), ⟨n, β, ρ, h, er, s, L⟩, ?_⟩
    rintro m σ H ⟨β, ρ, h, er, s, L⟩
    cases m with
    | zero => exact L.elim
    | succ m =>
      refine oneBS (f := fun b => if b = true then (do
        let f ← mb ρ
        match f with
        | .nx ρ2 => whileF mc mb m ρ2
        | .ct ρ2 => whileF mc mb m ρ2
        | .bk ρ2 => pure (.nx ρ2)
        | .rt d => pure (.rt d)) else pure (.nx ρ)) er s L fun β1 H1 h1 b s1 er1 L1 => ?_
      cases b with
      | false => exact Lands.nx L1 s1 er1
      | true =>
        refine ⟨fun σ' H' => ∃ β ρ h, ER (wd X) X.N.length β h.length H' ρ σ' ∧ Sim (wd X) β H' h ∧ LandsS X Wx D β H' h (whileF mc mb m ρ h), fun σ' H' q => ⟨m, Nat.lt_succ_self _, q⟩, β1, ρ, h1, er1, s1, ?_⟩
        refine (Lands.bind (R' := RFl (wd X) X.N.length) (m := mb ρ) (f := fun f => match f with
          | .nx ρ2 => whileF mc mb m ρ2
          | .ct ρ2 => whileF mc mb m ρ2
          | .bk ρ2 => pure (.nx ρ2)
          | .rt d => pure (.rt d)) L1).mono fun fl H4 ⟨β4, h4, f4, s4, r4, A4, L5⟩ => ?_
        cases f4 with
        | nx ρ4 => cases fl with
          | nx σ4 => exact ⟨β4, ρ4, h4, r4, s4, L5⟩
          | _ => exact r4.elim
        | ct ρ4 => cases fl with
          | ct σ4 => exact ⟨β4, ρ4, h4, r4, s4, L5⟩
          | _ => exact r4.elim
        | bk ρ4 => cases fl with
          | bk σ4 => exact Lands.nx (D := D) L5 s4 r4
          | _ => exact r4.elim
        | rt d => cases fl with
          | rt v => exact Lands.rt (D := D) L5 s4 r4
          | _ => exact r4.elim
end
end Mir
end

section
set_option Elab.async false
set_option linter.all false
set_option maxRecDepth 100000
/-! Mir13: comprehensions. -/
namespace Mir
open PySem PySem.Spec
open PyProof.Rows L2

theorem upd_upd' {H : Hp} {a : Addr} {o p : HO} : upd (upd H a o) a p = upd H a p := funext fun b => by
  by_cases z : b = a
  · subst z; rw [upd_same, upd_same]
  · rw [upd_ne z, upd_ne z, upd_ne z]
/-- without what lies at D -/
def ers (H : Hp) (D : Addr) : Hp := fun a => if a = D then none else H a
theorem ers_same {H : Hp} {D : Addr} : ers H D D = none := if_pos rfl
theorem ers_ne {H : Hp} {D a : Addr} (h : a ≠ D) : ers H D a = H a := if_neg h
theorem ers_upd {H : Hp} {D : Addr} {o : HO} (h : H D = some o) : upd (ers H D) D o = H := funext fun b => by
  by_cases z : b = D
  · subst z; rw [upd_same, h]
  · rw [upd_ne z, ers_ne z]
/-- a list under way at D is no cell of the mirror's -/
theorem Aft.erase {W : Wd} {β β' : Nat → Addr} {Hb H' : Hp} {h h' : Hm} {D : Addr} {vs : List V} (s : Sim W β Hb h) (hD : Hb D = none) (A : Aft W β (upd Hb D (.lst vs)) h β' H' h') :
    H' D = some (.lst vs) ∧ Aft W β Hb h β' (ers H' D) h' ∧ PExt H' (ers H' D) := by
  have nl : ∀ n c, h[n]? = some c → c ≠ .dead → β n ≠ D := fun n c e d z => by
    obtain ⟨u, e2, _⟩ := (s.cell n c e).some d
    rw [z, hD] at e2; cases e2
  have hD' : H' D = some (.lst vs) := A.rest D _ upd_same fun ⟨n, c, e, d, z⟩ => nl n c e d z
  have pe : PExt H' (ers H' D) := ⟨fun a xs e => by rw [ers_ne fun z => by rw [z, hD'] at e; cases e]; exact e, fun a o u e => by rw [ers_ne fun z => by rw [z, hD'] at e; cases e]; exact e⟩
  have nl' : ∀ n c, h'[n]? = some c → c ≠ .dead → β' n ≠ D := fun n c e d z => by
    by_cases hn : n < h.length
    · have e0 : h[n]? = some h[n] := List.getElem?_eq_getElem hn
      by_cases d0 : h[n] = .dead
      · rw [d0] at e0
        rw [A.dead n e0] at e
        cases e
        exact d rfl
      · rw [A.agree n hn] at z
        exact nl n _ e0 d0 z
    · have := A.fresh n c (Nat.le_of_not_lt hn) e d
      rw [z, upd_same] at this
      cases this
  refine ⟨hD', ⟨A.len, A.agree, ⟨fun n c e => CRel.mono pe (Nat.le_refl _) (fun _ _ => rfl) (fun d => ers_ne (nl' n c e d)) (A.sim.cell n c e), A.sim.inj⟩, fun a o e k => ?_, A.dead, fun n c hn e d => ?_, fun a e => ?_, fun n t v kvs c' e e' => ?_⟩, pe⟩
  · have z : a ≠ D := fun z => by rw [z, hD] at e; cases e
    rw [ers_ne z]
    exact A.rest a o (by rw [upd_ne z]; exact e) k
  · have := A.fresh n c hn e d
    rwa [upd_ne (nl' n c e d)] at this
  · have z : a ≠ D := fun z => e (by rw [z, hD])
    rw [ers_ne z]
    exact A.keep a (by rw [upd_ne z]; exact e)
  · rcases A.vers n t v kvs c' e e' with k | ⟨t', v', kvs', e1, e2, e3⟩
    · exact .inl k
    · refine .inr ⟨t', v', kvs', e1, e2, fun ev => ?_⟩
      obtain ⟨q1, q2, q3⟩ := e3 ev
      refine ⟨q1, q2, ?_⟩
      rw [ers_ne (nl' n c' e' (by rw [e1]; simp)), q3, upd_ne (nl n _ e (by simp))]

@[simp] def wipeE (ρ : Env') : List Nat → Env'
  | [] => ρ
  | v :: vs => (wipeE ρ vs).set v none
theorem ER.wipe {W : Wd} {l : Nat} {β : Nat → Addr} {N : Nat} {H : Hp} {ρ : Env'} {σ : L2.St} (r : ER W l β N H ρ σ) : ∀ vs : List Nat, ER W l β N H (wipeE ρ vs) (wipe σ vs)
  | [] => r
  | v :: vs => (ER.wipe r vs).set_none
def noX {α : Type} (m : Mo α) : Mo α := fun h => match m h with
  | .exc _ _ => .bad
  | r => r
theorem noX_cases {α : Type} (m : Mo α) (h : Hm) : (noX m h = .bad) ∨ ∃ a h', m h = .val a h' ∧ noX m h = .val a h' := by
  unfold noX
  cases e : m h with
  | bad => exact .inl rfl
  | val a h' => exact .inr ⟨a, h', rfl, rfl⟩
  | exc c h' => exact .inl rfl
def lcL (src : Src) (bd : Dat → Env' → Option Env') (c : Mb) (e : Mv) (ρ0 : Env') : List Dat → List Dat → Mo (List Dat)
  | [], acc => do mGuard src; pure acc
  | d :: ds, acc => do
    mGuard src
    let ρ' ← optM (bd d ρ0)
    let b ← noX (c ρ')
    if b = true then (do let y ← noX (e ρ'); lcL src bd c e ρ0 ds (acc ++ [y])) else lcL src bd c e ρ0 ds acc
@[simp] def mLc (ms : MSrc) (vs : List Nat) (bd : Dat → Env' → Option Env') (c : Mb) (e : Mv) : Ml := fun ρ => do let src ← ms ρ; lcL src bd c e (wipeE ρ vs) src.items []
abbrev MTs (X : Cx) (Wx : WX) (es : List Expr) (m : Mb) : Prop := PTs X es (tMT X Wx m)
@[simp] def mYes : Mb := fun _ => pure true
theorem mts_nil {X : Cx} {Wx : WX} : MTs X Wx [] mYes := ⟨fun pins s σ H Q I ⟨β, ρ, h, er, sm, L⟩ => pts_nil.run pins s σ H Q I (L.ret (a := true) (v := true) sm rfl)⟩
theorem mts_one {X : Cx} {Wx : WX} {e : Expr} {m : Mb} (h : MT X Wx e m) : MTs X Wx [e] m := pts_one h
abbrev ML (X : Cx) (Wx : WX) (e : Expr) (m : Ml) : Prop := PE X e (tML X Wx m)
theorem Rels.snoc {W : Wd} {β : Nat → Addr} {N : Nat} {H : Hp} : ∀ {ds : List Dat} {vs : List V} {d : Dat} {v : V}, Rels W β N H ds vs → Rel W β N H d v → Rels W β N H (ds ++ [d]) (vs ++ [v])
  | [], vs, d, v, h, r => by
    unfold Rels at h
    subst h
    show Rels W β N H [d] [v]
    unfold Rels
    refine ⟨v, [], rfl, r, ?_⟩
    unfold Rels
    rfl
  | x :: ds, vs, d, v, h, r => by
    unfold Rels at h
    obtain ⟨u, us, rfl, q, qs⟩ := h
    show Rels W β N H (x :: (ds ++ [d])) (u :: (us ++ [v]))
    unfold Rels
    exact ⟨u, _, rfl, q, Rels.snoc qs r⟩
section
variable {X : Cx} {Wx : WX}
theorem lc_weak {is vs : List Nat} {ms : MSrc} {bd : Dat → Env' → Option Env'} {mc : Mb} {me : Mv} (hv : ∀ i ∈ is, i ∈ vs) (σ : L2.St) (H : Hp) (Q : VK) (q : tML X Wx (mLc ms vs bd mc me) σ H Q) :
    tLc (tMI X Wx ms) (tMG X is bd) (tMT X WNo mc) (tM X WNo me) vs σ H Q := by
  obtain ⟨β, ρ, h, er, s, L⟩ := q
  refine ⟨β, ρ, h, er, s, ?_⟩
  have L : Lands (wd X) (fun β N H => Rels (wd X) β N H) β H h ((do let src ← ms ρ; lcL src bd mc me (wipeE ρ vs) src.items []) h) (fun vs H' => ∀ p, H' p = none → Q (.ref p) (upd H' p (.lst vs))) (exW Wx σ) := L
  cases em : ms ρ h with
  | bad => rw [bnd_bad em] at L; exact L
  | exc c h' => rw [bnd_exc em] at L; exact L
  | val src h1 =>
    rw [bnd_val em] at L
    intro β1 H1 J A1 J1 D hD1
    have L1 := L.after A1
    refine ⟨fun i m H => m = src.items.length - i ∧ i ≤ src.items.length ∧ ∃ β' h' acc us Hb, Hb D = none ∧ H = upd Hb D (.lst us) ∧ acc.length ≤ i ∧ Aft (wd X) β1 H1 h1 β' Hb h' ∧ Rels (wd X) β' h'.length Hb acc us ∧
        Lands (wd X) (fun β N H => Rels (wd X) β N H) β' Hb h' (lcL src bd mc me (wipeE ρ vs) (src.items.drop i) acc h') (fun vs H' => ∀ p, H' p = none → Q (.ref p) (upd H' p (.lst vs))) (exW Wx σ),
      ⟨src.items.length, by simp, Nat.zero_le _, β1, h1, [], [], H1, hD1, rfl, Nat.le_refl _, Aft.refl A1.sim, (by unfold Rels; rfl), L1⟩, ?_⟩
    rintro i m H2 ⟨rfl, hi, β2, h2, acc, us, Hb, hDb, rfl, hacc, A2, ra, L2⟩
    have same2 : Same Hb (upd Hb D (.lst us)) := same_upd hDb
    have A2' := Aft.same A2.sim same2
    by_cases hlt : i < src.items.length
    · rw [List.drop_eq_getElem_cons hlt] at L2
      obtain ⟨ok2, L3⟩ := Lands.guard L2
      obtain ⟨ρ3, e3, L4⟩ := Lands.optB L3
      refine .inr ⟨J1.go i β2 _ h2 (A2.trans A2') ok2 hlt, fun H => ∃ β' h' acc us Hb, Hb D = none ∧ H = upd Hb D (.lst us) ∧ acc.length ≤ i + 1 ∧ Aft (wd X) β1 H1 h1 β' Hb h' ∧ Rels (wd X) β' h'.length Hb acc us ∧
        Lands (wd X) (fun β N H => Rels (wd X) β N H) β' Hb h' (lcL src bd mc me (wipeE ρ vs) (src.items.drop (i + 1)) acc h') (fun vs H' => ∀ p, H' p = none → Q (.ref p) (upd H' p (.lst vs))) (exW Wx σ),
        fun H' q => ⟨src.items.length - (i + 1), by omega, rfl, hlt, q⟩, fun x H3 y => ?_⟩
      obtain ⟨d, hd, rd⟩ := J1.yld i β2 _ h2 x H3 (A2.trans A2') ok2 y hlt
      have sm := J1.same i β2 _ h2 x H3 (A2.trans A2') ok2 y
      rw [List.getElem?_eq_getElem hlt] at hd
      cases hd
      have A3 := Aft.same A2'.sim sm
      have er3 : ER (wd X) X.N.length β2 h2.length H3 (wipeE ρ vs) (wipe σ vs) := A3.er A2'.sim (A2'.er A2.sim (A2.er A1.sim (A1.er s er))) |>.wipe vs
      refine ⟨β2, wipeE ρ vs, h2, _, ρ3, er3, A3.sim, rd, e3, fun σ3 er4 hw => ⟨?_, β2, ρ3, h2, er4, A3.sim, ?_⟩⟩
      · rw [hw vs hv]
        have key : ∀ ws : List Nat, (∀ i ∈ ws, i ∈ vs) → wipe (wipe σ ws) vs = wipe σ vs := fun ws => by
          induction ws with
          | nil => intro _; rfl
          | cons w ws ih =>
            intro hw
            show wipe ((wipe σ ws).set w none) vs = _
            rw [wipe_set (hw w (by simp)), ih fun i hi => hw i (List.mem_cons_of_mem _ hi)]
        exact key vs fun i hi => hi
      · have L4 : Lands (wd X) (fun β N H => Rels (wd X) β N H) β2 Hb h2 ((do let b ← noX (mc ρ3); if b = true then (do let y ← noX (me ρ3); lcL src bd mc me (wipeE ρ vs) (src.items.drop (i + 1)) (acc ++ [y])) else lcL src bd mc me (wipeE ρ vs) (src.items.drop (i + 1)) acc) h2) (fun vs H' => ∀ p, H' p = none → Q (.ref p) (upd H' p (.lst vs))) (exW Wx σ) := L4
        rcases noX_cases (mc ρ3) h2 with nb | ⟨b, h5, e5, e5'⟩
        · rw [bnd_bad nb] at L4; exact L4.elim
        rw [bnd_val e5'] at L4
        rw [e5]
        rintro β5 H5 _ A5 rfl
        have A35 := A3.trans A5
        obtain ⟨_, B5, pe5⟩ := Aft.erase A2.sim hDb (A3.trans A5)
        cases b with
        | false =>
          obtain ⟨hD5, B5, pe5⟩ := Aft.erase A2.sim hDb (A3.trans A5)
          exact iteF ⟨β5, h5, acc, us, ers H5 D, ers_same, (ers_upd hD5).symm, Nat.le_succ_of_le hacc, A2.trans B5, B5.rels A2.sim ra, L4.after B5⟩
        | true =>
          refine iteT ⟨β5, ρ3, h5, A5.er A3.sim er4, A5.sim, ?_⟩
          have L4 : Lands (wd X) (fun β N H => Rels (wd X) β N H) β2 Hb h2 ((do let y ← noX (me ρ3); lcL src bd mc me (wipeE ρ vs) (src.items.drop (i + 1)) (acc ++ [y])) h5) (fun vs H' => ∀ p, H' p = none → Q (.ref p) (upd H' p (.lst vs))) (exW Wx σ) := L4
          rcases noX_cases (me ρ3) h5 with nb | ⟨z, h6, e6, e6'⟩
          · rw [bnd_bad nb] at L4; exact L4.elim
          rw [bnd_val e6'] at L4
          rw [e6]
          intro β6 H6 v A6 r6
          obtain ⟨hD6, B6, pe6⟩ := Aft.erase A2.sim hDb (A3.trans (A5.trans A6))
          refine ⟨us, hD6, ?_, β6, h6, acc ++ [z], us ++ [v], ers H6 D, ers_same, ?_, ?_, A2.trans B6, (B6.rels A2.sim ra).snoc (Rel.mono pe6 (Nat.le_refl _) (fun _ _ => rfl) _ _ r6), L4.after B6⟩
          · rw [← ra.length]
            exact Nat.lt_of_le_of_lt hacc (Nat.lt_of_lt_of_le hlt J1.few)
          · rw [← ers_upd hD6, upd_upd', ers_upd hD6]
          · rw [List.length_append]
            exact Nat.succ_le_succ hacc
    · have hl : src.items.length ≤ i := Nat.le_of_not_lt hlt
      rw [List.drop_eq_nil_of_le hl] at L2
      obtain ⟨ok2, L3⟩ := Lands.guard L2
      exact .inl ⟨J1.stop i β2 _ h2 (A2.trans A2') ok2 hl, Lands.ret L3 A2.sim ra D hDb⟩
theorem ml_lc {elt tg iter : Expr} {ifs : List Expr} {scope : Scope} {own : List (Str × Nat)} {pos : Pos} {is : List Nat} {ms : MSrc} {bd : Dat → Env' → Option Env'} {mc : Mb} {me : Mv} (hc : X.calm = true) (hN : X.N.Nodup) (hi : MI X Wx tg iter ms) (ok : BlkOk X.N X.env.scope scope own)
    (hg : ∀ (s : Shared) (H : Hp) (C : Addr) (cl : List (Str × Addr)) (fp : List Addr), MG (X.blk s H scope (compEnvC scope cl C X.env) fp) tg is bd) (ht : ∀ (s : Shared) (H : Hp) (C : Addr) (cl : List (Str × Addr)) (fp : List Addr), MTs (X.blk s H scope (compEnvC scope cl C X.env) fp) WNo ifs mc)
    (he : ∀ (s : Shared) (H : Hp) (C : Addr) (cl : List (Str × Addr)) (fp : List Addr), ME (X.blk s H scope (compEnvC scope cl C X.env) fp) WNo elt me) (hv : ∀ i ∈ is, i ∈ own.map (·.2)) (hs : ∀ x, foldedSetIterable iter X.env x = pure x := by intro _; rfl) :
    ML X Wx (.ListComp elt [⟨tg, iter, ifs, 0⟩] scope pos) (mLc ms (own.map (·.2)) bd mc me) :=
  pe_weak (pe_lc hc hN hi ok hg ht he hs) fun σ H Q q => lc_weak hv σ H Q q
end
end Mir
end

section
set_option Elab.async false
set_option linter.all false
set_option maxRecDepth 100000
/-! Mir14: comprehensions that are stored on one line; defs; calls; closing a def. -/
namespace Mir
open PySem PySem.Spec
open PyProof.Rows L2

/-! ### name = [..] on one line -/
theorem ps_frz {X : Cx} {st : Stmt} {t : TS} (h : PS X st t) : PS X st (fun D σ H => t { D with nx := fun σ' H1 => ∃ S : Addr → Prop, (∀ a, S a → ∃ u, H1 a = some u ∧ Fzb u) ∧ ∀ H2, Fzn S H1 H2 → D.nx σ' H2 } σ H) := by
  refine ⟨fun pins s σ H D I q => ?_⟩
  refine thn (h.run pins s σ H _ I q) fun f s' hf => ?_
  cases f with
  | next =>
    obtain ⟨σ', H1, I1, S, hS, q1⟩ := hf
    obtain ⟨H2, z, I2⟩ := Inv.frz I1 hS
    exact ⟨σ', H2, I2, q1 H2 z⟩
  | brk => exact hf
  | cont => exact hf
  | ret v => exact hf
@[simp] def mSetC (i : Nat) (ml : Ml) : Ms := fun ρ => do let xs ← ml ρ; let d ← alloc (.lst xs); pure (.nx (ρ.set i (some d)))
@[simp] def mSetF (i : Nat) (ml : Ml) : Ms := fun ρ => do let xs ← ml ρ; pure (.nx (ρ.set i (some (.lst xs))))
section
variable {X : Cx} {Wx : WX}
theorem ms_setLcC {i : Nat} {y : Str} {py : Pos} {elt tg iter : Expr} {ifs : List Expr} {scope : Scope} {own : List (Str × Nat)} {pos spos : Pos} {is : List Nat} {ms : MSrc} {bd : Dat → Env' → Option Env'} {mc : Mb} {me : Mv} (hc : X.calm = true) (hN : X.N.Nodup) (hy : X.N[i]? = some y) (hyl : X.env.scope.names.lookup y = some .local)
    (hsw : swapsWith (.ListComp elt [⟨tg, iter, ifs, 0⟩] scope pos) (some (.Name y py)) spos.line X.env = pure true) (hi : MI X Wx tg iter ms) (ok : BlkOk X.N X.env.scope scope own)
    (hg : ∀ (s : Shared) (H : Hp) (C : Addr) (cl : List (Str × Addr)) (fp : List Addr), MG (X.blk s H scope (compEnvC scope cl C X.env) fp) tg is bd) (ht : ∀ (s : Shared) (H : Hp) (C : Addr) (cl : List (Str × Addr)) (fp : List Addr), MTs (X.blk s H scope (compEnvC scope cl C X.env) fp) WNo ifs mc)
    (he : ∀ (s : Shared) (H : Hp) (C : Addr) (cl : List (Str × Addr)) (fp : List Addr), ME (X.blk s H scope (compEnvC scope cl C X.env) fp) WNo elt me) (hv : ∀ i ∈ is, i ∈ own.map (·.2)) (hs : ∀ x, foldedSetIterable iter X.env x = pure x := by intro _; rfl) :
    MS X Wx (.Assign [.Name y py] (.ListComp elt [⟨tg, iter, ifs, 0⟩] scope pos) spos) (mSetC i (mLc ms (own.map (·.2)) bd mc me)) :=
  ps_weak (ps_setLc (g := tMG X is bd) (tt := tMT X WNo mc) (te := tM X WNo me) hc hN hy hyl hsw hi ok hg ht he hs) fun D σ H ⟨β, ρ, h, er, s, L⟩ => by
    refine lc_weak (bd := bd) (mc := mc) (me := me) hv σ H (fun x H1 => D.nx (σ.set i (some x)) H1) ⟨β, ρ, h, er, s, ?_⟩
    refine ((Lands.bind (R' := fun β N H => Rels (wd X) β N H) (f := fun xs => (do let d ← alloc (.lst xs); pure (Fl.nx (ρ.set i (some d))) : Mo Fl)) L).mono fun vs H1 ⟨β1, h1, ds, s1, r1, A1, L1⟩ p hp => ?_).monoE fun C H' q => q σ er.1.2
    have A := Aft.alloc (o := .lst vs) (c := .lst ds) s1 hp ⟨vs, upd_same, bx_rels (s1.pext_laid hp) r1⟩
    refine L1 _ _ (.nx (σ.set i (some (.ref p)))) A ?_
    refine ER.set (A.er s1 (A1.er s er)) ?_
    unfold Rel
    exact ⟨by simp, by rw [bx_eq]⟩
theorem ms_setLcF {i : Nat} {y : Str} {py : Pos} {elt tg iter : Expr} {ifs : List Expr} {scope : Scope} {own : List (Str × Nat)} {pos spos : Pos} {is : List Nat} {ms : MSrc} {bd : Dat → Env' → Option Env'} {mc : Mb} {me : Mv} (hc : X.calm = true) (hN : X.N.Nodup) (hy : X.N[i]? = some y) (hyl : X.env.scope.names.lookup y = some .local)
    (hsw : swapsWith (.ListComp elt [⟨tg, iter, ifs, 0⟩] scope pos) (some (.Name y py)) spos.line X.env = pure true) (hi : MI X Wx tg iter ms) (ok : BlkOk X.N X.env.scope scope own)
    (hg : ∀ (s : Shared) (H : Hp) (C : Addr) (cl : List (Str × Addr)) (fp : List Addr), MG (X.blk s H scope (compEnvC scope cl C X.env) fp) tg is bd) (ht : ∀ (s : Shared) (H : Hp) (C : Addr) (cl : List (Str × Addr)) (fp : List Addr), MTs (X.blk s H scope (compEnvC scope cl C X.env) fp) WNo ifs mc)
    (he : ∀ (s : Shared) (H : Hp) (C : Addr) (cl : List (Str × Addr)) (fp : List Addr), ME (X.blk s H scope (compEnvC scope cl C X.env) fp) WNo elt me) (hv : ∀ i ∈ is, i ∈ own.map (·.2)) (hs : ∀ x, foldedSetIterable iter X.env x = pure x := by intro _; rfl) :
    MS X Wx (.Assign [.Name y py] (.ListComp elt [⟨tg, iter, ifs, 0⟩] scope pos) spos) (mSetF i (mLc ms (own.map (·.2)) bd mc me)) :=
  ps_weak (ps_frz (ps_setLc (g := tMG X is bd) (tt := tMT X WNo mc) (te := tM X WNo me) hc hN hy hyl hsw hi ok hg ht he hs)) fun D σ H ⟨β, ρ, h, er, s, L⟩ => by
    refine lc_weak (bd := bd) (mc := mc) (me := me) hv σ H (fun x H1 => ∃ S : Addr → Prop, (∀ a, S a → ∃ u, H1 a = some u ∧ Fzb u) ∧ ∀ H2, Fzn S H1 H2 → D.nx (σ.set i (some x)) H2) ⟨β, ρ, h, er, s, ?_⟩
    refine ((Lands.bind (R' := fun β N H => Rels (wd X) β N H) (f := fun xs => (pure (Fl.nx (ρ.set i (some (.lst xs)))) : Mo Fl)) L).mono fun vs H1 ⟨β1, h1, ds, s1, r1, A1, L1⟩ p hp => ?_).monoE fun C H' q => q σ er.1.2
    refine ⟨fun a => a = p, fun a e => ⟨.lst vs, by rw [e, upd_same], trivial⟩, fun H2 z => ?_⟩
    obtain ⟨o, rfl⟩ := Fzn.one (fun _ => Iff.rfl) hp z
    have A := Aft.laid (o := .frz o (.lst vs)) s1 hp
    refine L1 _ _ (.nx (σ.set i (some (.ref p)))) A ?_
    refine ER.set (A.er s1 (A1.er s er)) ?_
    unfold Rel
    exact ⟨p, vs, rfl, .inl ⟨o, upd_same⟩, A.rels s1 r1⟩
end

/-! ### defs -/
def spM (W : Wd) (n : Nat) (f : List Dat → Mo Dat) : Sp := fun vs H Q E => vs.length = n ∧ ∃ β h ds, Rels W β h.length H ds vs ∧ Sim W β H h ∧ Lands W (Rel W) β H h (f ds h) Q (fun C H' => E (.ref C) none H')
@[simp] def startE (l : Nat) (ds : List Dat) : Env' := ds.map some ++ List.replicate (l - ds.length) none
@[simp] def retOf : Fl → Mo Dat
  | .rt d => pure d
  | .nx _ => pure .non
  | _ => bad
@[simp] def runFn (l : Nat) (m : Ms) : List Dat → Mo Dat := fun ds => do let f ← m (startE l ds); retOf f
theorem start_er {W : Wd} {β : Nat → Addr} {n : Nat} {H : Hp} {N : List Str} {ds : List Dat} {vs : List V} (r : Rels W β n H ds vs) (hl : vs.length ≤ N.length) : ER W N.length β n H (startE N.length ds) (L2.start N vs) := by
  have hd := r.length
  refine ⟨⟨by unfold startE; simp; omega, by unfold L2.start; simp; omega⟩, fun i d e => ?_⟩
  unfold startE at e
  by_cases hi : i < ds.length
  · rw [List.getElem?_append_left (by simpa using hi), List.getElem?_map, List.getElem?_eq_getElem hi] at e
    cases e
    obtain ⟨v, hv, rv⟩ := r.get (List.getElem?_eq_getElem hi)
    refine ⟨v, ?_, rv⟩
    unfold L2.start
    rw [List.getElem?_append_left (by rw [List.length_map, ← hd]; exact hi), List.getElem?_map, hv]
    rfl
  · rw [List.getElem?_append_right (by simpa using Nat.le_of_not_lt hi)] at e
    obtain ⟨_, e⟩ := List.getElem?_eq_some_iff.mp e
    simp at e
/-- the wish of an exception of a def's body -/
abbrev WxE (E : XK) : WX := fun cls d _ H => E cls d H
theorem body_core {X : Cx} {m : Ms} {E : XK} {n : Nat} {vs : List V} {H : Hp} {Q : VK} (hl : n ≤ X.N.length) (q : spM (wd X) n (runFn X.N.length m) vs H Q E) : tMS X (WxE E) m { nx := fun _ H' => Q .non H', rt := Q } (L2.start X.N vs) H := by
  obtain ⟨hn, β, h, ds, r, s, L⟩ := q
  refine ⟨β, startE X.N.length ds, h, start_er r (by rw [hn]; exact hl), s, ?_⟩
  refine ((Lands.bind (R' := RFl (wd X) X.N.length) (f := retOf) L).mono fun x H1 ⟨β1, h1, f1, s1, r1, A1, L1⟩ => ?_).monoE fun C H' q σ' _ => q
  cases f1 with
  | nx ρ1 => cases x with
    | nx σ1 => exact Lands.ret (v := V.non) L1 s1 (by unfold Rel; rfl)
    | _ => exact r1.elim
  | rt d => cases x with
    | rt v => show Q v H1; exact Lands.ret (a := d) L1 s1 r1
    | _ => exact r1.elim
  | bk ρ1 => exact L1.elim
  | ct ρ1 => exact L1.elim
section
variable {P : Program} {w : World} {K : PySem.W.Frag} {mg : Str → Option Value} {base : Heap}
/-- a def, by its mirror -/
theorem fn_mir {x qual : Str} {st : Stmt} {f : Addr} {fd : FuncData} {N ps : List Str} {k : Nat} {m : Ms} (F : Fun K x qual st f fd) (S : FnScope N ps (defScope st)) (hl : ps.length ≤ N.length)
    (hbody : ∀ (cdv : Value) (A : Around) (outer : List Env) (s : Shared) (H : Hp) (E : XK), Room k (A.deeper (envOfC qual (defScope st) s.heap.objs.size f cdv)) →
      MSs (cxOf (L2.CX P w) P w K mg base N qual (defScope st) f cdv A outer s H E) (WxE E) (defBody st) m) :
    FnOk P w K mg base (L2.CX P w) (k + 1) f fd ps (spM ⟨P, w, K, mg⟩ ps.length (runFn N.length m)) :=
  F.okX S (fun vs H Q E q => q.1) fun cdv A outer s H vs Q E hr q => ⟨_, hbody cdv A outer s H E hr, body_core (X := cxOf (L2.CX P w) P w K mg base N qual (defScope st) f cdv A outer s H E) hl q⟩
end

/-! ### calls -/
@[simp] def mCall (f : List Dat → Mo Dat) (ms : Ml) : Mv := fun ρ => do let xs ← ms ρ; f xs
section
variable {X : Cx} {Wx : WX} {k n : Nat} {f : Addr} {fd : FuncData} {ps : List Str} {fm : List Dat → Mo Dat} {x : Str} {p pos : Pos} {e : Expr} {es : List Expr} {ms : Ml}
theorem call_core {σ : L2.St} {H : Hp} {Q : VK} (hn : n = ps.length) (q : tM X Wx (mCall fm ms) σ H Q) (F : FnOk X.prog X.w X.K X.mg X.base (L2.CX X.prog X.w) k f fd ps (spM (wd X) n fm)) (hlen : ∀ ρ h xs h', ms ρ h = .val xs h' → xs.length = n) :
    tMA X Wx ms σ H fun vs H1 => spM (wd X) n fm vs H1 Q (WE Wx σ) := by
  obtain ⟨β, ρ, h, er, s, L⟩ := q
  have L : Lands (wd X) (Rel (wd X)) β H h ((do let xs ← ms ρ; fm xs) h) Q (exW Wx σ) := L
  refine ⟨β, ρ, h, er, s, ?_⟩
  cases em : ms ρ h with
  | bad => rw [bnd_bad em] at L; exact L
  | exc c h' => rw [bnd_exc em] at L; exact L
  | val xs h1 =>
    rw [bnd_val em] at L
    exact fun β1 H1 vs A r => ⟨by rw [← r.length]; exact hlen _ _ _ _ em, β1, h1, xs, r, A.sim, L.after A⟩
/-- argument lists have their length -/
def LenM (ms : Ml) (n : Nat) : Prop := ∀ ρ h xs h', ms ρ h = .val xs h' → xs.length = n
theorem len_nil : LenM mNil 0 := fun ρ h xs h' e => by cases e; rfl
theorem len_cons {ma : Mv} {ms : Ml} {n : Nat} (hm : LenM ms n) : LenM (mCons ma ms) (n + 1) := fun ρ h xs h' e => by
  have e : (do let x ← ma ρ; let xs ← ms ρ; pure (x :: xs) : Mo (List Dat)) h = .val xs h' := e
  cases e1 : ma ρ h with
  | bad => rw [bnd_bad e1] at e; cases e
  | exc c h1 => rw [bnd_exc e1] at e; cases e
  | val a h1 =>
    rw [bnd_val e1] at e
    cases e2 : ms ρ h1 with
    | bad => rw [bnd_bad e2] at e; cases e
    | exc c h1 => rw [bnd_exc e2] at e; cases e
    | val as h2 =>
      rw [bnd_val e2] at e
      cases e
      simp [hm _ _ _ _ e2]
theorem me_call (F : FnOk X.prog X.w X.K X.mg X.base (L2.CX X.prog X.w) k f fd ps (spM (wd X) n fm)) (hn : n = ps.length) (hr : Room k X.A) (hg : Gl X x) (hm : X.mg x = some (.ref f)) (hk : PySem.W.keepIn X.K (.ref f) = true) (hb : Binds X.K fd ps []) (tk : Takes X Wx)
    (ha : MA X Wx (e :: es) ms) (hlen : LenM ms n) (hdb : (x == ("__debug__" : Str)) = false := by decide) (he : starEach (e :: es) X.env = (false, eval e X.env) :: starEach es X.env := by rfl) (hpl : (backTo pos (starEach es X.env)).any (·.1) = false := by rfl) :
    ME X Wx (.Call (.Name x p) (e :: es) [] pos) (mCall fm ms) :=
  pe_weak (pe_callS F hr hg hm hk hb (E := WE Wx) (fun σ => passAt tk σ) ha hdb he hpl) fun σ H Q q => call_core hn q F hlen
end

/-! ### closing a def: its own cells go, what it gives is frozen -/
mutual
def thaw (N : Nat) (h : Hm) : Nat → Dat → Option Dat
  | _, .non => some .non
  | _, .bl b => some (.bl b)
  | _, .int i => some (.int i)
  | _, .str x => some (.str x)
  | 0, _ => none
  | k + 1, .tup xs => (thaws N h k xs).map .tup
  | k + 1, .lst xs => (thaws N h k xs).map .lst
  | k + 1, .dct t ks vs => match thaws N h k ks, thaws N h k vs with
    | some a, some b => if ks = a then some (.dct t a b) else none
    | _, _ => none
  | k + 1, .ref n => if n < N then some (.ref n) else match h[n]? with
    | some (.lst xs) => (thaws N h k xs).map .lst
    | some (.dct t _ kvs) => match thaws N h k (kvs.map (·.1)), thaws N h k (kvs.map (·.2)) with
      | some a, some b => if kvs.map (·.1) = a then some (.dct t a b) else none
      | _, _ => none
    | _ => none
  | _ + 1, .exn _ => none
def thaws (N : Nat) (h : Hm) : Nat → List Dat → Option (List Dat)
  | _, [] => some []
  | k, d :: ds => match thaw N h k d, thaws N h k ds with
    | some a, some as => some (a :: as)
    | _, _ => none
end
/-- the cells from N on that may be frozen -/
def Own (β : Nat → Addr) (N : Nat) (h : Hm) (a : Addr) : Prop := ∃ n, N ≤ n ∧ β n = a ∧ ((∃ xs, h[n]? = some (.lst xs)) ∨ ∃ t v kvs, h[n]? = some (.dct t v kvs))
section
variable {W : Wd} {β : Nat → Addr} {H H2 : Hp} {h : Hm} {N : Nat}
theorem own_fz (s : Sim W β H h) : ∀ a, Own β N h a → ∃ u, H a = some u ∧ Fzb u := fun a ⟨n, hn, e, q⟩ => by
  subst e
  rcases q with ⟨xs, q⟩ | ⟨t, v, kvs, q⟩
  · obtain ⟨vs, k, _⟩ := s.cell n _ q
    exact ⟨_, k, trivial⟩
  · obtain ⟨o, ns, ks, vs, k, _⟩ := s.cell n _ q
    exact ⟨_, k, trivial⟩
theorem FzL.fzn {K : PySem.W.Frag} {S : Addr → Prop} {a : Addr} {vs : List V} (z : Fzn S H H2) (k : FzL K H a vs) : FzL K H2 a vs := by
  rcases k with ⟨o, k⟩ | k
  · exact .inl ⟨o, z.nofrz k (fun f => f)⟩
  · exact .inr k
theorem FzT.fzn {K : PySem.W.Frag} {S : Addr → Prop} {a : Addr} {vs : List V} (z : Fzn S H H2) (k : FzT K H a vs) : FzT K H2 a vs := by
  rcases k with k | k
  · exact .inl (z.nofrz k (fun f => f))
  · exact .inr k
theorem opt_map {α γ : Type} {o : Option α} {g : α → γ} {y : γ} (e : o.map g = some y) : ∃ x, o = some x ∧ g x = y := by
  cases o with
  | none => cases e
  | some x => exact ⟨x, rfl, Option.some.inj e⟩
mutual
theorem thaw_rel (s : Sim W β H h) (hN : N ≤ h.length) (z : Fzn (Own β N h) H H2) : ∀ (k : Nat) (d d' : Dat) (v : V), thaw N h k d = some d' → Rel W β h.length H d v → Rel W β N H2 d' v
  | k, .non, d', v, e, r => by
    have : d' = .non := by unfold thaw at e; exact (Option.some.inj e).symm
    subst this; unfold Rel at r ⊢; exact r
  | k, .bl b, d', v, e, r => by
    have : d' = .bl b := by unfold thaw at e; exact (Option.some.inj e).symm
    subst this; unfold Rel at r ⊢; exact r
  | k, .int b, d', v, e, r => by
    have : d' = .int b := by unfold thaw at e; exact (Option.some.inj e).symm
    subst this; unfold Rel at r ⊢; exact r
  | k, .str b, d', v, e, r => by
    have : d' = .str b := by unfold thaw at e; exact (Option.some.inj e).symm
    subst this; unfold Rel at r ⊢; exact r
  | 0, .tup _, d', v, e, r => by unfold thaw at e; cases e
  | 0, .lst _, d', v, e, r => by unfold thaw at e; cases e
  | 0, .dct _ _ _, d', v, e, r => by unfold thaw at e; cases e
  | 0, .ref _, d', v, e, r => by unfold thaw at e; cases e
  | 0, .exn _, d', v, e, r => by unfold thaw at e; cases e
  | k + 1, .exn _, d', v, e, r => by unfold thaw at e; cases e
  | k + 1, .tup xs, d', v, e, r => by
    unfold thaw at e
    obtain ⟨ys, e1, rfl⟩ := opt_map e
    unfold Rel at r ⊢
    obtain ⟨a, vs, rfl, q, rs⟩ := r
    exact ⟨a, vs, rfl, q.fzn z, thaws_rel s hN z k xs ys vs e1 rs⟩
  | k + 1, .lst xs, d', v, e, r => by
    unfold thaw at e
    obtain ⟨ys, e1, rfl⟩ := opt_map e
    unfold Rel at r ⊢
    obtain ⟨a, vs, rfl, q, rs⟩ := r
    exact ⟨a, vs, rfl, q.fzn z, thaws_rel s hN z k xs ys vs e1 rs⟩
  | k + 1, .dct t ks xs, d', v, e, r => by
    unfold thaw at e
    split at e
    · rename_i a b e1 e2
      by_cases hk : ks = a
      · rw [if_pos hk] at e
        cases e
        unfold Rel at r ⊢
        obtain ⟨p, o, od, ns, kvs, vs, e3, h1, h2, h3, h4, h5⟩ := r
        refine ⟨p, o, od, ns, kvs, vs, e3, z.nofrz h1 (fun f => f), thaws_rel s hN z k ks a kvs e1 h2, thaws_rel s hN z k xs b vs e2 h3, ?_, hk ▸ h5⟩
        have l1 := (thaws_rel s hN z k ks a kvs e1 h2).length
        have l2 := (thaws_rel s hN z k xs b vs e2 h3).length
        rw [l1, l2, ← h2.length, ← h3.length, h4]
      · rw [if_neg hk] at e; cases e
    · cases e
  | k + 1, .ref n, d', v, e, r => by
    unfold Rel at r
    obtain ⟨hn, rfl⟩ := r
    unfold thaw at e
    by_cases c : n < N
    · rw [if_pos c] at e
      cases e
      unfold Rel
      exact ⟨c, rfl⟩
    · rw [if_neg c] at e
      have c := Nat.le_of_not_lt c
      split at e
      · rename_i xs q
        obtain ⟨ys, e1, rfl⟩ := opt_map e
        obtain ⟨vs, k1, rs⟩ := s.cell n _ q
        obtain ⟨o, u, e2, _, e3⟩ := (z (β n)).2 ⟨n, c, rfl, .inl ⟨xs, q⟩⟩
        rw [k1] at e2
        cases e2
        unfold Rel
        exact ⟨β n, vs, rfl, .inl ⟨o, e3⟩, thaws_rel s hN z k xs ys vs e1 rs⟩
      · rename_i t ve kvs q
        split at e
        · rename_i a b e1 e2
          by_cases hk : kvs.map (·.1) = a
          · rw [if_pos hk] at e
            cases e
            obtain ⟨od, ns, ks, vs, k1, h2, h3, h5⟩ := s.cell n _ q
            obtain ⟨o, u, e4, _, e3⟩ := (z (β n)).2 ⟨n, c, rfl, .inr ⟨t, ve, kvs, q⟩⟩
            rw [k1] at e4
            cases e4
            have r1 := thaws_rel s hN z k _ a ks e1 h2
            have r2 := thaws_rel s hN z k _ b vs e2 h3
            unfold Rel
            refine ⟨β n, o, od, ns, ks, vs, rfl, e3, r1, r2, ?_, hk ▸ h5⟩
            rw [r1.length, r2.length, ← h2.length, ← h3.length]
            simp
          · rw [if_neg hk] at e; cases e
        · cases e
      · cases e
theorem thaws_rel (s : Sim W β H h) (hN : N ≤ h.length) (z : Fzn (Own β N h) H H2) : ∀ (k : Nat) (ds ds' : List Dat) (vs : List V), thaws N h k ds = some ds' → Rels W β h.length H ds vs → Rels W β N H2 ds' vs
  | k, [], ds', vs, e, r => by
    unfold thaws at e
    cases e
    unfold Rels at r ⊢
    exact r
  | k, d :: ds, ds', vs, e, r => by
    unfold thaws at e
    split at e
    · rename_i a as e1 e2
      cases e
      unfold Rels at r ⊢
      obtain ⟨v, us, rfl, r1, r2⟩ := r
      exact ⟨v, us, rfl, thaw_rel s hN z k d a v e1 r1, thaws_rel s hN z k ds as us e2 r2⟩
    · cases e
end
end
end Mir
end

section
set_option Elab.async false
set_option linter.all false
set_option maxRecDepth 100000
/-! Mir15: closing a def. -/
namespace Mir
open PySem PySem.Spec
open PyProof.Rows L2
section
variable {W : Wd} {β β1 : Nat → Addr} {N N1 : Nat} {H H1 H2 : Hp} {S : Addr → Prop}
mutual
theorem Rel.low : ∀ (d : Dat) (v u : V), Rel W β N H d v → Rel W β1 N1 H1 d u → Rel W β1 N H1 d u
  | .non, v, u, a, b => by unfold Rel at b ⊢; exact b
  | .bl _, v, u, a, b => by unfold Rel at b ⊢; exact b
  | .int _, v, u, a, b => by unfold Rel at b ⊢; exact b
  | .str _, v, u, a, b => by unfold Rel at b ⊢; exact b
  | .exn _, v, u, a, b => by unfold Rel at b ⊢; exact b
  | .ref _, v, u, a, b => by unfold Rel at a b ⊢; exact ⟨a.1, b.2⟩
  | .tup xs, v, u, a, b => by
    unfold Rel at a b ⊢
    obtain ⟨_, vs, _, _, r⟩ := a
    obtain ⟨p, us, e, k, q⟩ := b
    exact ⟨p, us, e, k, Rels.low xs vs us r q⟩
  | .lst xs, v, u, a, b => by
    unfold Rel at a b ⊢
    obtain ⟨_, vs, _, _, r⟩ := a
    obtain ⟨p, us, e, k, q⟩ := b
    exact ⟨p, us, e, k, Rels.low xs vs us r q⟩
  | .dct t ks xs, v, u, a, b => by
    unfold Rel at a b ⊢
    obtain ⟨_, _, _, _, kvs, vs, _, _, r1, r2, _, _⟩ := a
    obtain ⟨p, o, od, ns, kus, us, e, k, q1, q2, l, pk⟩ := b
    exact ⟨p, o, od, ns, kus, us, e, k, Rels.low ks kvs kus r1 q1, Rels.low xs vs us r2 q2, l, pk⟩
theorem Rels.low : ∀ (ds : List Dat) (vs us : List V), Rels W β N H ds vs → Rels W β1 N1 H1 ds us → Rels W β1 N H1 ds us
  | [], vs, us, a, b => by unfold Rels at b ⊢; exact b
  | d :: ds, vs, us, a, b => by
    unfold Rels at a b ⊢
    obtain ⟨v, r, _, h1, h2⟩ := a
    obtain ⟨u, q, e, k1, k2⟩ := b
    exact ⟨u, q, e, Rel.low d v u h1 k1, Rels.low ds r q h2 k2⟩
end
mutual
theorem Rel.fzn (z : Fzn S H H2) : ∀ (d : Dat) (v : V), Rel W β N H d v → Rel W β N H2 d v
  | .non, v, b => by unfold Rel at b ⊢; exact b
  | .bl _, v, b => by unfold Rel at b ⊢; exact b
  | .int _, v, b => by unfold Rel at b ⊢; exact b
  | .str _, v, b => by unfold Rel at b ⊢; exact b
  | .exn _, v, b => by unfold Rel at b ⊢; exact b
  | .ref _, v, b => by unfold Rel at b ⊢; exact b
  | .tup xs, v, b => by
    unfold Rel at b ⊢
    obtain ⟨p, us, e, k, q⟩ := b
    exact ⟨p, us, e, k.fzn z, Rels.fzn z xs us q⟩
  | .lst xs, v, b => by
    unfold Rel at b ⊢
    obtain ⟨p, us, e, k, q⟩ := b
    exact ⟨p, us, e, k.fzn z, Rels.fzn z xs us q⟩
  | .dct t ks xs, v, b => by
    unfold Rel at b ⊢
    obtain ⟨p, o, od, ns, kus, us, e, k, q1, q2, l, pk⟩ := b
    exact ⟨p, o, od, ns, kus, us, e, z.nofrz k (fun f => f), Rels.fzn z ks kus q1, Rels.fzn z xs us q2, l, pk⟩
theorem Rels.fzn (z : Fzn S H H2) : ∀ (ds : List Dat) (vs : List V), Rels W β N H ds vs → Rels W β N H2 ds vs
  | [], vs, b => by unfold Rels at b ⊢; exact b
  | d :: ds, vs, b => by
    unfold Rels at b ⊢
    obtain ⟨u, q, e, k1, k2⟩ := b
    exact ⟨u, q, e, Rel.fzn z d u k1, Rels.fzn z ds q k2⟩
end
end
theorem close_aft {W : Wd} {β β1 : Nat → Addr} {H H1 H2 : Hp} {h h1 : Hm} {S : Addr → Prop} (s : Sim W β H h) (A : Aft W β H h β1 H1 h1) (tk : h1.take h.length = h) (z : Fzn S H1 H2) (hS : ∀ a, S a → Own β1 h.length h1 a) : Aft W β H h β1 H2 h := by
  have up : ∀ (n : Nat) c, h[n]? = some c → h1[n]? = some c := fun n c e => by
    have hn : n < h.length := (List.getElem?_eq_some_iff.mp e).1
    rw [← tk, List.getElem?_take_of_lt (hn)] at e
    exact e
  have nS : ∀ (n : Nat) c, h[n]? = some c → c ≠ .dead → H2 (β1 n) = H1 (β1 n) := fun n c e d => (z (β1 n)).1 fun q => by
    obtain ⟨m, hm, e1, q⟩ := hS _ q
    have hn : n < h.length := (List.getElem?_eq_some_iff.mp e).1
    have : m = n := by
      rcases q with ⟨xs, q⟩ | ⟨t, v, kvs, q⟩
      · exact A.sim.inj m n _ c q (by simp) (up n c e) d e1
      · exact A.sim.inj m n _ c q (by simp) (up n c e) d e1
    omega
  refine ⟨Nat.le_refl _, A.agree, ⟨fun n c e => ?_, fun n m c d e1 d1 e2 d2 q => A.sim.inj n m c d (up n c e1) d1 (up m d e2) d2 q⟩, fun a o e nl => ?_, fun n e => e, fun n c hn e _ => ?_, fun a e => ?_, fun n t v kvs c' e e' => ?_⟩
  · have c0 := s.cell n c e
    have c1 := A.sim.cell n c (up n c e)
    cases c with
    | lst xs =>
      obtain ⟨vs, _, r0⟩ := c0
      obtain ⟨us, k, r1⟩ := c1
      exact ⟨us, (nS n _ e (by simp)).trans k, (Rels.low _ _ _ r0 r1).fzn z⟩
    | dct t v kvs =>
      obtain ⟨_, _, ks, vs, _, r0, q0, _⟩ := c0
      obtain ⟨o, ns, ks1, us, k, r1, q1, pk⟩ := c1
      exact ⟨o, ns, ks1, us, (nS n _ e (by simp)).trans k, (Rels.low _ _ _ r0 r1).fzn z, (Rels.low _ _ _ q0 q1).fzn z, pk⟩
    | ins c fs =>
      obtain ⟨C, dx, vs, _, _, r0⟩ := c0
      obtain ⟨C1, dx1, us, g, k, r1⟩ := c1
      exact ⟨C1, dx1, us, g, (nS n _ e (by simp)).trans k, (Rels.low _ _ _ r0 r1).fzn z⟩
    | dead => trivial
  · have e1 := A.rest a o e nl
    rw [(z a).1 fun q => ?_]
    · exact e1
    · obtain ⟨m, hm, e2, q'⟩ := hS _ q
      subst e2
      have : H (β1 m) = none := by
        rcases q' with ⟨xs, q⟩ | ⟨t, v, kvs, q⟩
        · exact A.fresh m _ hm q (by simp)
        · exact A.fresh m _ hm q (by simp)
      rw [this] at e; cases e
  · rw [List.getElem?_eq_none hn] at e; cases e
  · have e1 := A.keep a e
    by_cases q : S a
    · obtain ⟨o, u, _, _, e2⟩ := (z a).2 q
      rw [e2]; simp
    · rw [(z a).1 q]; exact e1
  · rw [e] at e'
    cases e'
    refine .inr ⟨t, v, kvs, rfl, Nat.le_refl _, fun _ => ⟨rfl, rfl, ?_⟩⟩
    rw [nS n _ e (by simp)]
    rcases A.vers n t v kvs _ e (up n _ e) with k | ⟨t', v', kvs', e1, _, e3⟩
    · cases k
    · cases e1
      exact (e3 rfl).2.2
def closeM (f : List Dat → Mo Dat) : List Dat → Mo Dat := fun ds h => match f ds h with
  | .val d h1 => if h1.take h.length = h then (match thaw h.length h1 30 d with
    | some d' => .val d' h
    | none => .bad) else .bad
  | .exc c h1 => if h1.take h.length = h then .exc c h else .bad
  | .bad => .bad
theorem close_core {W : Wd} {f : List Dat → Mo Dat} {β : Nat → Addr} {H : Hp} {h : Hm} {ds : List Dat} {Q : VK} {E : Addr → Hp → Prop} (s : Sim W β H h) (L : Lands W (Rel W) β H h (closeM f ds h) Q E) :
    Lands W (Rel W) β H h (f ds h) (fun v H1 => ∃ S : Addr → Prop, (∀ a, S a → ∃ u, H1 a = some u ∧ Fzb u) ∧ ∀ H2, Fzn S H1 H2 → Q v H2) E := by
  unfold closeM at L
  cases e : f ds h with
  | bad => rw [e] at L; exact L
  | exc c h1 =>
    rw [e] at L
    simp only at L
    by_cases tk : h1.take h.length = h
    · rw [if_pos tk] at L
      exact fun β' H' C A g => L β' H' C (close_aft s A tk (S := fun _ => False) (fun a => ⟨fun _ => rfl, fun q => q.elim⟩) fun a q => q.elim) g
    · rw [if_neg tk] at L; exact L.elim
  | val d h1 =>
    rw [e] at L
    simp only at L
    by_cases tk : h1.take h.length = h
    · rw [if_pos tk] at L
      cases et : thaw h.length h1 30 d with
      | none => rw [et] at L; exact L.elim
      | some d' =>
        rw [et] at L
        exact fun β' H' v A r => ⟨Own β' h.length h1, own_fz A.sim, fun H2 z => L β' H2 v (close_aft s A tk z fun _ q => q) (thaw_rel A.sim A.len z 30 d d' v et r)⟩
    · rw [if_neg tk] at L; exact L.elim
theorem fn_close {P : Program} {w : World} {K : PySem.W.Frag} {mg : Str → Option Value} {base : Heap} {k n : Nat} {f : Addr} {fd : FuncData} {ps : List Str} {fm : List Dat → Mo Dat} (hn : n = ps.length)
    (F : FnOk P w K mg base (L2.CX P w) k f fd ps (spM ⟨P, w, K, mg⟩ n fm)) : FnOk P w K mg base (L2.CX P w) k f fd ps (spM ⟨P, w, K, mg⟩ n (closeM fm)) :=
  (fn_frz F fun vs H Q E q => q.1.trans hn).imp fun vs H Q E ⟨h1, β, h, ds, r, s, L⟩ => ⟨h1, β, h, ds, r, s, close_core s L⟩
/-- by equal mirrors: on what is a value -/
theorem fn_eq {P : Program} {w : World} {K : PySem.W.Frag} {mg : Str → Option Value} {base : Heap} {k n : Nat} {f : Addr} {fd : FuncData} {ps : List Str} {fm gm : List Dat → Mo Dat} (F : FnOk P w K mg base (L2.CX P w) k f fd ps (spM ⟨P, w, K, mg⟩ n fm)) (h : ∀ ds hm, gm ds hm = .bad ∨ fm ds hm = gm ds hm) :
    FnOk P w K mg base (L2.CX P w) k f fd ps (spM ⟨P, w, K, mg⟩ n gm) := F.imp fun vs H Q E ⟨h1, β, hm, ds, r, s, L⟩ => by
  refine ⟨h1, β, hm, ds, r, s, ?_⟩
  rcases h ds hm with e | e
  · rw [e] at L; exact L.elim
  · rw [e]; exact L
end Mir
end

section
set_option Elab.async false
set_option linter.all false
set_option maxRecDepth 100000
/-! Mir16: subscripts, in, ==; try .. except .. as e; isinstance of the exception. -/
namespace Mir
open PySem PySem.Spec
open PyProof.Rows L2
section
variable {X : Cx} {Wx : WX} {a b : Expr} {ma mb : Mv} {pos : Pos}
@[simp] def mIx (ma mb : Mv) : Mv := fun ρ => mBin ixSq ma mb ρ
theorem me_ix (ha : ME X Wx a ma) (hb : ME X Wx b mb) (hs : PlainIx b := by intro _ _; rfl) : ME X Wx (.Subscript a b pos) (mIx ma mb) :=
  pe_weak (pe_ix ix_seq ha hb hs) fun σ H Q ⟨β, ρ, h, er, s, L⟩ => two (f := ixSq) er s L fun β2 H2 h2 d1 d2 x y s2 r1 r2 L2 => Lands.ixM L2 s2 r1 r2
/-! ### in -/
@[simp] def cInT (x y : Dat) : Mo Bool := do let z ← strOf y; let b ← signIn x z; pure b
@[simp] def cNinT (x y : Dat) : Mo Bool := do let z ← strOf y; let b ← signIn x z; pure (!b)
def cIn (x y : Dat) : Mo Bool := do let b ← memD x y; pure b
def cNin (x y : Dat) : Mo Bool := do let b ← memD x y; pure (!b)
theorem opM_inT {W : Wd} : OpMB W cInT (fun x y H Q => ∃ (c : Nat) (z : Str), x = .str ⟨#[c]⟩ ∧ y = .str z ∧ Q (.bl (decide (c ∈ z.cps.toList))) H) := fun β H h d1 d2 x y Q E s r1 r2 L => by
  obtain ⟨z, e2, L1⟩ := Lands.strB L r2
  have L1 : Lands W EqB β H h ((signIn d1 z >>= pure) h) Q E := by rw [bind_pure]; exact L1
  obtain ⟨c, e1, L2⟩ := Lands.signB (f := pure) L1 r1
  exact ⟨c, z, e1, e2, _, rfl, L2.ret s rfl⟩
theorem opM_ninT {W : Wd} : OpMB W cNinT (fun x y H Q => ∃ (c : Nat) (z : Str), x = .str ⟨#[c]⟩ ∧ y = .str z ∧ Q (.bl (!decide (c ∈ z.cps.toList))) H) := fun β H h d1 d2 x y Q E s r1 r2 L => by
  obtain ⟨z, e2, L1⟩ := Lands.strB L r2
  obtain ⟨c, e1, L2⟩ := Lands.signB (f := fun b => pure (!b)) L1 r1
  exact ⟨c, z, e1, e2, _, rfl, L2.ret s rfl⟩
theorem opM_in {W : Wd} : OpMB W cIn (rInS W.K false) := fun β H h d1 d2 x y Q E s r1 r2 L => by
  have L : Lands W EqB β H h ((memD d1 d2 >>= pure) h) Q E := by rw [bind_pure]; exact L
  obtain ⟨p, xs, d, ds, e, k1, k2, k3, s1, s2, L2⟩ := Lands.memB (f := pure) L s r1 r2
  exact ⟨p, xs, d, ds, e, k1, k2, k3, s1, s2, _, rfl, by
    have : (false != ds.any fun e => PyData.eqv e d) = ds.any fun e => PyData.eqv e d := by cases ds.any fun e => PyData.eqv e d <;> rfl
    rw [this]
    exact L2.ret s rfl⟩
theorem opM_nin {W : Wd} : OpMB W cNin (rInS W.K true) := fun β H h d1 d2 x y Q E s r1 r2 L => by
  obtain ⟨p, xs, d, ds, e, k1, k2, k3, s1, s2, L2⟩ := Lands.memB (f := fun b => pure (!b)) L s r1 r2
  exact ⟨p, xs, d, ds, e, k1, k2, k3, s1, s2, _, rfl, by
    have : (true != ds.any fun e => PyData.eqv e d) = !ds.any fun e => PyData.eqv e d := by cases ds.any fun e => PyData.eqv e d <;> rfl
    rw [this]
    exact L2.ret s rfl⟩
theorem me_inT (ha : ME X Wx a ma) (hb : ME X Wx b mb) (hm : behindInMarks .In b = false := by rfl) : ME X Wx (.Compare a [.In] [b] pos) (mCmp cInT ma mb) := me_cmp op_in_sign opM_inT ha hb hm
theorem mt_inT (ha : ME X Wx a ma) (hb : ME X Wx b mb) (hm : behindInMarks .In b = false := by rfl) : MT X Wx (.Compare a [.In] [b] pos) (mCmpT cInT ma mb) := mt_cmp op_in_sign opM_inT ha hb hm
theorem me_ninT (ha : ME X Wx a ma) (hb : ME X Wx b mb) (hm : behindInMarks .NotIn b = false := by rfl) : ME X Wx (.Compare a [.NotIn] [b] pos) (mCmp cNinT ma mb) := me_cmp op_notIn_sign opM_ninT ha hb hm
theorem mt_ninT (ha : ME X Wx a ma) (hb : ME X Wx b mb) (hm : behindInMarks .NotIn b = false := by rfl) : MT X Wx (.Compare a [.NotIn] [b] pos) (mCmpT cNinT ma mb) := mt_cmp op_notIn_sign opM_ninT ha hb hm
theorem me_in (hu : X.A.units + 65 < cLine) (ha : ME X Wx a ma) (hb : ME X Wx b mb) (hm : behindInMarks .In b = false := by rfl) : ME X Wx (.Compare a [.In] [b] pos) (mCmp cIn ma mb) := me_cmp (op_inS hu) opM_in ha hb hm
theorem mt_in (hu : X.A.units + 65 < cLine) (ha : ME X Wx a ma) (hb : ME X Wx b mb) (hm : behindInMarks .In b = false := by rfl) : MT X Wx (.Compare a [.In] [b] pos) (mCmpT cIn ma mb) := mt_cmp (op_inS hu) opM_in ha hb hm
theorem me_nin (hu : X.A.units + 65 < cLine) (ha : ME X Wx a ma) (hb : ME X Wx b mb) (hm : behindInMarks .NotIn b = false := by rfl) : ME X Wx (.Compare a [.NotIn] [b] pos) (mCmp cNin ma mb) := me_cmp (op_ninS hu) opM_nin ha hb hm
theorem mt_nin (hu : X.A.units + 65 < cLine) (ha : ME X Wx a ma) (hb : ME X Wx b mb) (hm : behindInMarks .NotIn b = false := by rfl) : MT X Wx (.Compare a [.NotIn] [b] pos) (mCmpT cNin ma mb) := mt_cmp (op_ninS hu) opM_nin ha hb hm
theorem me_eq (hu : X.A.units + 64 < cLine) (ha : ME X Wx a ma) (hb : ME X Wx b mb) : ME X Wx (.Compare a [.Eq] [b] pos) (mCmp cEqD ma mb) := me_cmp (op_eqD hu) opM_eqD ha hb (nomark _)
theorem mt_eq (hu : X.A.units + 64 < cLine) (ha : ME X Wx a ma) (hb : ME X Wx b mb) : MT X Wx (.Compare a [.Eq] [b] pos) (mCmpT cEqD ma mb) := mt_cmp (op_eqD hu) opM_eqD ha hb (nomark _)
theorem me_ne (hu : X.A.units + 64 < cLine) (ha : ME X Wx a ma) (hb : ME X Wx b mb) : ME X Wx (.Compare a [.NotEq] [b] pos) (mCmp cNeD ma mb) := me_cmp (op_neD hu) opM_neD ha hb (nomark _)
theorem mt_ne (hu : X.A.units + 64 < cLine) (ha : ME X Wx a ma) (hb : ME X Wx b mb) : MT X Wx (.Compare a [.NotEq] [b] pos) (mCmpT cNeD ma mb) := mt_cmp (op_neD hu) opM_neD ha hb (nomark _)
end

/-! ### try -/
def blank (l : Nat) : Env' := List.replicate l none
@[simp] def outFl (i : Nat) : Fl → Fl
  | .nx ρ => .nx (ρ.set i none)
  | .bk ρ => .bk (ρ.set i none)
  | .ct ρ => .ct (ρ.set i none)
  | .rt d => .rt d
def mTry (l i : Nat) (hs : List (Str × (Addr → Ms))) (m : Ms) : Ms := fun ρ h => match m ρ h with
  | .exc c h' => (match hs.lookup c with
    | some mh => (do let f ← noX (mh 0 ((blank l).set i (some (.exn 0)))); pure (outFl i f)) h'
    | none => .bad)
  | r => r
theorem lookup_mem {α : Type} {c : Str} {x : α} : ∀ {hs : List (Str × α)}, hs.lookup c = some x → (c, x) ∈ hs
  | [], h => by cases h
  | (a, y) :: hs, h => by
    rw [List.lookup_cons] at h
    by_cases e : c == a
    · rw [e] at h
      cases h
      rw [eq_of_beq e]
      exact List.mem_cons_self
    · rw [Bool.not_eq_true] at e
      rw [e] at h
      exact List.mem_cons_of_mem _ (lookup_mem h)
theorem blank_er {W : Wd} {l : Nat} {β : Nat → Addr} {N : Nat} {H : Hp} {σ : L2.St} (hl : σ.length = l) : ER W l β N H (blank l) σ := by
  refine ⟨⟨by unfold blank; simp, hl⟩, fun i d e => ?_⟩
  unfold blank at e
  obtain ⟨_, e⟩ := List.getElem?_eq_some_iff.mp e
  simp at e
section
variable {X : Cx} {Wx : WX} {x n : Str} {C : Value} {i : Nat} {body suite : List Stmt} {b₀ : Stmt} {np pos pos' : Pos}
/-- a clause's way with an exception of the class c -/
def TryC (X : Cx) (C : Value) (i l : Nat) (suite : List Stmt) (p : Str × (Addr → Ms)) : Prop :=
  ∃ D0, X.mg p.1 = some (.ref D0) ∧ (∀ (a : Addr) (oe : Obj) (pn : List (Addr × Obj)), Zc (.ref D0) none oe → (∃ vs, oe.data = .fields vs) → MSs (X.suite a ((a, oe) :: pn)) WNo suite (p.2 a)) ∧ PySem.W.exmOne X.K (.ref D0) C = some true ∧
    ∀ a h, p.2 a ((blank l).set i (some (.exn a))) h = p.2 0 ((blank l).set i (some (.exn 0))) h
def TryCs (X : Cx) (C : Value) (i l : Nat) (suite : List Stmt) (hs : List (Str × (Addr → Ms))) : Prop := ∀ p ∈ hs, TryC X C i l suite p
theorem tc_nil {l : Nat} : TryCs X C i l suite [] := fun _ h => absurd h (by simp)
theorem tc_cons {l : Nat} {p : Str × (Addr → Ms)} {hs : List (Str × (Addr → Ms))} (h : TryC X C i l suite p) (t : TryCs X C i l suite hs) : TryCs X C i l suite (p :: hs) := fun q hq => by
  rcases List.mem_cons.mp hq with e | e
  · rw [e]; exact h
  · exact t q e
theorem ms_try {m : Ms} {hms : List (Str × (Addr → Ms))} {l : Nat} (hl : l = X.N.length) (hs : X.stack = X.env :: X.outer) (hf : X.env.frame = some X.env.locals) (hN : X.N.Nodup) (hi : X.N[i]? = some n) (hln : X.env.kindOf n = some .local) (hc : Names X x C) (tk : Takes X Wx)
    (hb : ∀ (W : WX) (pn : List (Addr × Obj)) (xe : Value → Shared → Prop), Takes (X.tr pn xe) W → PassesOwn (model X.prog X.w) X.A X.env xe → MSs (X.tr pn xe) W body m)
    (hsu : TryCs X C i l (b₀ :: suite) hms) :
    MS X Wx (.Try body [.ExceptHandler (some (.Name x np)) (some n) (b₀ :: suite) pos'] [] [] pos) (mTry l i hms m) := by
  let ts : Addr → Value → Option Addr → TS := fun a cls d D σ H => ∃ p D0, p ∈ hms ∧ X.mg p.1 = some (.ref D0) ∧ cls = .ref D0 ∧ d = none ∧ tMS X WNo (p.2 a) D σ H
  have hsu' : ∀ (a : Addr) (oe : Obj) (cls : Value) (d : Option Addr) (pn : List (Addr × Obj)), Zc cls d oe → (∃ vs, oe.data = .fields vs) → PSs (X.suite a ((a, oe) :: pn)) (b₀ :: suite) (ts a cls d) := fun a oe cls d pn hz hfl =>
    ⟨fun pins s σ H D I ⟨p, D0, hm, g, e1, e2, q⟩ => by
      subst e1 e2
      obtain ⟨D1, g1, k1, _⟩ := hsu p hm
      rw [g] at g1
      cases g1
      exact (k1 a oe pn hz hfl).run pins s σ H D I q⟩
  refine ps_weak (ps_try_as (tb := fun W => tMS X W m) (ts := ts) (Wout := Wx) hs hf hN hi hln hc tk (fun W pn xe t p => hb W pn xe t p) hsu') fun D σ H ⟨β, ρ, h, er, s, L⟩ => ⟨β, ρ, h, er, s, ?_⟩
  have L : LandsS X Wx D β H h (mTry l i hms m ρ h) := L
  unfold mTry at L
  cases em : m ρ h with
  | bad => rw [em] at L; exact L
  | val f h' => rw [em] at L; exact L
  | exc c h' =>
    rw [em] at L
    simp only at L
    cases el : hms.lookup c with
    | none => rw [el] at L; exact L.elim
    | some mh =>
      rw [el] at L
      have L : LandsS X Wx D β H h ((noX (mh 0 ((blank l).set i (some (.exn 0)))) >>= fun f => pure (outFl i f)) h') := L
      have hm := lookup_mem el
      obtain ⟨D1, g1, _, hcl, hpar⟩ := hsu _ hm
      refine fun β' H' D2 A g σ' hσ => ?_
      have g' : X.mg c = some (.ref D2) := g
      rw [show X.mg c = some (.ref D1) from g1] at g'
      cases g'
      refine ⟨true, hcl, fun _ a ha => ?_, fun z => nomatch z⟩
      refine ⟨(c, mh), D1, hm, g, rfl, rfl, β', (blank l).set i (some (.exn a)), h', ?_, A.sim, ?_⟩
      · refine ER.set ?_ (by unfold Rel; rfl)
        rw [hl]
        exact blank_er hσ
      · rw [hpar a h']
        have L1 := L.after A
        rcases noX_cases (mh 0 ((blank l).set i (some (.exn 0)))) h' with nb | ⟨f4, h4, e4, e4'⟩
        · rw [bnd_bad nb] at L1; exact L1.elim
        rw [bnd_val e4'] at L1
        show Lands _ _ _ _ _ (mh 0 ((blank l).set i (some (.exn 0))) h') _ _
        rw [e4]
        intro β4 H4 fl A4 r4
        have s4 := A4.sim
        have L5 := L1.after A4
        cases f4 with
        | nx ρ4 => cases fl with
          | nx σ4 => exact Lands.nx (D := D) L5 s4 r4.set_none
          | _ => exact r4.elim
        | ct ρ4 => cases fl with
          | ct σ4 => show dQ D (.ct (σ4.set i none)) H4; exact Lands.ret (v := FlV.ct (σ4.set i none)) L5 s4 r4.set_none
          | _ => exact r4.elim
        | bk ρ4 => cases fl with
          | bk σ4 => show dQ D (.bk (σ4.set i none)) H4; exact Lands.ret (v := FlV.bk (σ4.set i none)) L5 s4 r4.set_none
          | _ => exact r4.elim
        | rt d => cases fl with
          | rt v => exact Lands.rt (D := D) L5 s4 r4
          | _ => exact r4.elim
/-- isinstance(e, C2), e the exception held -/
def mIsE (i : Nat) (a : Addr) (b : Bool) : Mv := fun ρ => match ρ[i]? with
  | some (some (.exn a')) => if a' = a then pure (.bl b) else bad
  | _ => bad
theorem mIsE_at {i : Nat} {a : Addr} {b : Bool} {ρ : Env'} (e : ρ[i]? = some (some (.exn a))) : mIsE i a b ρ = pure (.bl b) := by
  unfold mIsE
  rw [e]
  exact if_pos rfl
theorem isE_core {X : Cx} {i : Nat} {a D : Addr} {b : Bool} {c : V} {cv : Value} {σ : L2.St} {H : Hp} {Q : VK} (hc : ∀ u, RelV c u → u = cv) (hk : PySem.W.kitOne X.K (.ref D) cv = some b) (q : tM X WNo (mIsE i a b) σ H Q) :
    tVar i σ H fun x H1 => rIsE X.K D a [x, c] H1 Q := by
  obtain ⟨β, ρ, h, er, s, L⟩ := q
  have L : Lands (wd X) (Rel (wd X)) β H h ((match ρ[i]? with
    | some (some (.exn a')) => if a' = a then pure (.bl b) else bad
    | _ => bad : Mo Dat) h) Q (exW WNo σ) := L
  cases e : ρ[i]? with
  | none => rw [e] at L; exact L.elim
  | some o =>
    cases o with
    | none => rw [e] at L; exact L.elim
    | some d =>
      rw [e] at L
      cases d with
      | exn a' =>
        have L9 : Lands (wd X) (Rel (wd X)) β H h ((if a' = a then pure (.bl b) else bad : Mo Dat) h) Q (exW WNo σ) := L
        by_cases z : a' = a
        · rw [if_pos z] at L9
          obtain ⟨v, e1, r⟩ := er.2 i _ e
          unfold Rel at r
          subst r z
          exact ⟨_, e1, c, cv, b, rfl, hc, hk, L9.ret s mk_bl⟩
        · rw [if_neg z] at L9; exact L9.elim
      | _ => exact L.elim
theorem me_isE {e y : Str} {i : Nat} {a D C2 : Addr} {oe : Obj} {pn : List (Addr × Obj)} {b : Bool} {p p1 p2 pos : Pos} (EC : ExcC X.K D) (hz : Zc (.ref D) none oe) (hf : ∃ vs, oe.data = .fields vs) (he : PE (X.suite a ((a, oe) :: pn)) (.Name e p1) (tVar i)) (hm : X.mg "isinstance" = none) (hy : X.mg y = some (.ref C2)) (hk : PySem.W.kitOne X.K (.ref D) (.ref C2) = some b)
    (hg : Gl (X.suite a ((a, oe) :: pn)) "isinstance" := by rfl) (hgy : Gl (X.suite a ((a, oe) :: pn)) y := by rfl) (hd : (y == ("__debug__" : Str)) = false := by decide)
    (hst : starEach [.Name e p1, .Name y p2] X.env = (false, eval (.Name e p1) X.env) :: starEach [.Name y p2] X.env := by rfl) (hpl : (backTo pos (starEach [.Name y p2] X.env)).any (·.1) = false := by rfl) :
    ME (X.suite a ((a, oe) :: pn)) WNo (.Call (.Name "isinstance" p) [.Name e p1, .Name y p2] [] pos) (mIsE i a b) :=
  pe_weak (pe_callB (X := X.suite a ((a, oe) :: pn)) (call_isE (X := X) (pn := pn) EC hz hf) hg hm PyProof.Rows.boot_isinstance (pa_cons he (pa_cons (pe_glob (v := V.ref C2) hgy hy rfl hd) pa_nil) hst) (by decide) (by decide) hst hpl) fun σ H Q q =>
    isE_core (X := X) (c := V.ref C2) (cv := .ref C2) (fun u r => r) hk q
theorem me_isEB {e y : Str} {T : String} {i : Nat} {a D : Addr} {oe : Obj} {pn : List (Addr × Obj)} {b : Bool} {p p1 p2 pos : Pos} (EC : ExcC X.K D) (hz : Zc (.ref D) none oe) (hf : ∃ vs, oe.data = .fields vs) (he : PE (X.suite a ((a, oe) :: pn)) (.Name e p1) (tVar i)) (hm : X.mg "isinstance" = none) (hy : X.mg y = none) (hv : bootBuiltins y = some (.type T)) (hk : PySem.W.kitOne X.K (.ref D) (.type T) = some b)
    (hg : Gl (X.suite a ((a, oe) :: pn)) "isinstance" := by rfl) (hgy : Gl (X.suite a ((a, oe) :: pn)) y := by rfl) (hn : y ≠ "__name__" := by decide) (hd : (y == ("__debug__" : Str)) = false := by decide)
    (hst : starEach [.Name e p1, .Name y p2] X.env = (false, eval (.Name e p1) X.env) :: starEach [.Name y p2] X.env := by rfl) (hpl : (backTo pos (starEach [.Name y p2] X.env)).any (·.1) = false := by rfl) :
    ME (X.suite a ((a, oe) :: pn)) WNo (.Call (.Name "isinstance" p) [.Name e p1, .Name y p2] [] pos) (mIsE i a b) :=
  pe_weak (pe_callB (X := X.suite a ((a, oe) :: pn)) (call_isE (X := X) (pn := pn) EC hz hf) hg hm PyProof.Rows.boot_isinstance (pa_cons he (pa_cons (pe_ty (X := X.suite a ((a, oe) :: pn)) hy hv hgy hn hd) pa_nil) hst) (by decide) (by decide) hst hpl) fun σ H Q q =>
    isE_core (X := X) (c := V.ty T) (cv := .type T) (fun u r => r) hk q
end
theorem hu64 {k : Nat} {A : Around} (h : Room k A) : A.units + 64 < cLine := by have := h.un; omega
theorem hu65 {k : Nat} {A : Around} (h : Room k A) : A.units + 65 < cLine := by have := h.un; omega
end Mir
end

section
set_option Elab.async false
set_option linter.all false
set_option maxRecDepth 100000
/-! Mir17: the end of a law. -/
namespace Mir
open PySem PySem.Spec
open PyProof.Rows L2
/-- a law's promise -/
def spLaw (K : PySem.W.Frag) : Sp := fun vs H Q E => ∃ (a : Addr) (ns : List Int), vs = [.ref a] ∧ Only H ∧ SqL K H a (ns.map V.int) ∧ ns.length ≤ 63 ∧ (∀ H', Q (.bl true) H')
theorem rels_ints {W : Wd} {β : Nat → Addr} {N : Nat} {H : Hp} : ∀ (ns : List Int), Rels W β N H (ns.map Dat.int) (ns.map V.int)
  | [] => by simp [Rels]
  | n :: ns => by
    rw [List.map_cons, List.map_cons]
    unfold Rels
    exact ⟨_, _, rfl, mk_int, rels_ints ns⟩
theorem law_fn {P : Program} {w : World} {K : PySem.W.Frag} {mg : Str → Option Value} {base : Heap} {k : Nat} {f : Addr} {fd : FuncData} {x : Str} {fm : List Dat → Mo Dat} (F : FnOk P w K mg base (L2.CX P w) k f fd [x] (spM ⟨P, w, K, mg⟩ 1 fm))
    (h : ∀ ns : List Int, ns.length ≤ 63 → ∃ h', fm [.lst (ns.map Dat.int)] [] = .val (.bl true) h') : FnOk P w K mg base (L2.CX P w) k f fd [x] (spLaw K) := F.imp fun vs H Q E ⟨a, ns, e, hO, hS, hl, q⟩ => by
  subst e
  obtain ⟨h', e'⟩ := h ns hl
  refine ⟨rfl, fun _ => 0, [], [.lst (ns.map Dat.int)], ?_, ⟨fun n c e => by simp at e, fun n m c d e => by simp at e⟩, ?_⟩
  · unfold Rels
    refine ⟨.ref a, [], rfl, ?_, by unfold Rels; rfl⟩
    unfold Rel
    refine ⟨a, _, rfl, ?_, rels_ints ns⟩
    rcases hS with hS | hS
    · rcases hS with hS | ⟨o, hS⟩
      · rcases hO a with z | ⟨o, xs, z⟩
        · rw [z] at hS; cases hS
        · rw [z] at hS; cases hS
      · exact .inl ⟨o, hS⟩
    · exact .inr hS
  · rw [e']
    intro β' H' v A r
    unfold Rel at r
    subst r
    exact q H'
theorem names_of {X : Cx} {x : Str} {C : Addr} (hg : Gl X x) (hd : (x == ("__debug__" : Str)) = false) (g : X.mg x = some (.ref C)) : Names X x (.ref C) := ⟨hg, hd, .inl g⟩
end Mir
end

section
set_option Elab.async false
set_option linter.all false
set_option maxRecDepth 100000
/-! Mir18: new dicts. -/
namespace Mir
open PySem PySem.Spec
open PyProof.Rows L2
section
variable {X : Cx} {Wx : WX} {pos : Pos}
theorem dD_empty {P : Program} {w : World} {H : Hp} (h : Heap) (hb : sysModules < h.objs.size) : ObjOk P w H (h.push { cls := .type "dict", data := .dict #[] }) h.objs.size (dD w h.objs.size { cls := .type "dict", data := .dict #[] } []) := by
  refine ⟨⟨Heap.get?_push_size _ rfl, beq_eq_false_iff_ne.mpr (Ne.symm (Nat.ne_of_lt hb)), Nat.zero_le _, ⟨rfl, rfl, rfl⟩, #[], _, rfl, .nil, List.nodup_nil⟩, ⟨_, Heap.get?_push_size _ rfl⟩, fun h1 h2 q k => ?_⟩
  exact ⟨k _ q.1, q.2⟩
theorem pe_dnewD : PE X (.Dict [] [] pos) (fun _ H Q => ∀ p o, H p = none → Q (.ref p) (upd H p (dD X.w p o []))) := ⟨fun pins s σ H Q I h =>
  wpAny_Dict_empty ⟨.ref s.heap.objs.size, _, I.laid (a := s.heap.objs.size) (o := dD X.w s.heap.objs.size { cls := .type "dict", data := .dict #[] } []) (t' := s.toks) (fun _ _ q => Heap.get?_push_of_some _ q) (Nat.le_refl _) (dD_empty s.heap I.big), rfl, h _ _ (I.hok.fresh (Nat.le_refl _))⟩⟩
@[simp] def mEmpD : Mv := fun _ => pure (.dct false [] [])
theorem me_empD : ME X Wx (.Dict [] [] pos) mEmpD :=
  pe_weak (pe_frz pe_dnewD) fun σ H Q ⟨β, ρ, h, er, s, L⟩ p o hp => ⟨fun a => a = p, fun a e => ⟨dD X.w p o [], by rw [e, upd_same], trivial⟩, fun H2 z => by
    obtain ⟨o2, rfl⟩ := Fzn.one (fun _ => Iff.rfl) hp z
    have A := Aft.laid (o := .frz o2 (dD X.w p o [])) s hp
    refine L β _ _ A ?_
    unfold Rel
    exact ⟨p, o2, o, [], [], [], rfl, upd_same, by unfold Rels; rfl, by unfold Rels; rfl, rfl, .nil⟩⟩
end
end Mir
end

section
set_option Elab.async false
set_option linter.all false
set_option maxRecDepth 100000
/-! Mir19: running mirrors. -/
namespace Mir
open PySem PySem.Spec
open PyProof.Rows L2

/-- what follows an outcome -/
def Res.bind {α γ : Type} (r : Res α) (f : α → Mo γ) : Res γ := match r with
  | .bad => .bad
  | .val a h => f a h
  | .exc c h => .exc c h
section
variable {α γ : Type}
@[simp] theorem mo_bind (m : Mo α) (f : α → Mo γ) (h : Hm) : (m >>= f) h = (m h).bind f := rfl
@[simp] theorem mo_pure (a : α) (h : Hm) : (pure a : Mo α) h = .val a h := rfl
@[simp] theorem mo_bad (h : Hm) : (bad : Mo α) h = .bad := rfl
@[simp] theorem mo_map (f : α → γ) (m : Mo α) (h : Hm) : (f <$> m) h = (m h).bind fun a => pure (f a) := by rw [map_eq_pure_bind]; rfl
@[simp] theorem rb_val (a : α) (h : Hm) (f : α → Mo γ) : (Res.val a h).bind f = f a h := rfl
@[simp] theorem rb_bad (f : α → Mo γ) : (Res.bad : Res α).bind f = .bad := rfl
@[simp] theorem rb_exc (c : Str) (h : Hm) (f : α → Mo γ) : (Res.exc c h : Res α).bind f = .exc c h := rfl
@[simp] theorem mo_ite (c : Prop) [Decidable c] (a b : Mo α) (h : Hm) : (if c then a else b) h = if c then a h else b h := by
  by_cases q : c
  · rw [if_pos q, if_pos q]
  · rw [if_neg q, if_neg q]
theorem rb_ite (c : Prop) [Decidable c] (a b : Res α) (f : α → Mo γ) : (if c then a else b).bind f = if c then a.bind f else b.bind f := by
  by_cases q : c
  · rw [if_pos q, if_pos q]
  · rw [if_neg q, if_neg q]
@[simp] theorem noX_val {m : Mo α} {h h' : Hm} {a : α} (e : m h = .val a h') : noX m h = .val a h' := by unfold noX; rw [e]
end
@[simp] theorem size_le {n : Nat} (h : n ≤ 16777216) : n ≤ sizeLine := h
/-- not a cell, not an exception -/
def Pl : Dat → Prop
  | .ref _ => False
  | .exn _ => False
  | _ => True
def tyP : Dat → String
  | .non => "NoneType" | .bl _ => "bool" | .int _ => "int" | .str _ => "str" | .tup _ => "tuple" | .lst _ => "list" | .dct _ _ _ => "dict"
  | _ => ""
theorem tyName_pl {d : Dat} (p : Pl d) (h : Hm) : tyName d h = .val (tyP d) h := by
  cases d <;> first | rfl | exact p.elim
/-! ### comprehensions that only look -/
theorem guard_none {src : Src} (hl : src.lk = none) (h : Hm) : mGuard src h = .val () h := by
  unfold mGuard Src.ok
  rw [hl]
  rfl
theorem lc_map {src : Src} (hl : src.lk = none) {bd : Dat → Env' → Option Env'} {c : Mb} {e : Mv} {ρ0 : Env'} {h : Hm} (g : Dat → Option Dat) : ∀ (ds acc : List Dat), (∀ d ∈ ds, ∃ ρ', bd d ρ0 = some ρ' ∧
    ((g d = none ∧ c ρ' h = .val false h) ∨ ∃ y, g d = some y ∧ c ρ' h = .val true h ∧ e ρ' h = .val y h)) → lcL src bd c e ρ0 ds acc h = .val (acc ++ ds.filterMap g) h
  | [], acc, _ => by
    show (mGuard src >>= fun _ => pure acc) h = _
    rw [mo_bind, guard_none hl, rb_val]
    simp
  | d :: ds, acc, k => by
    obtain ⟨ρ', e1, k1⟩ := k d (by simp)
    have ih := fun acc' => lc_map hl g ds acc' fun d' hd => k d' (List.mem_cons_of_mem _ hd)
    show (mGuard src >>= fun _ => optM (bd d ρ0) >>= fun ρ' => noX (c ρ') >>= fun b => if b = true then (noX (e ρ') >>= fun y => lcL src bd c e ρ0 ds (acc ++ [y])) else lcL src bd c e ρ0 ds acc) h = _
    rw [mo_bind, guard_none hl, rb_val, e1]
    show (noX (c ρ') >>= fun b => if b = true then (noX (e ρ') >>= fun y => lcL src bd c e ρ0 ds (acc ++ [y])) else lcL src bd c e ρ0 ds acc) h = _
    rcases k1 with ⟨g1, c1⟩ | ⟨y, g1, c1, y1⟩
    · rw [mo_bind, noX_val c1, rb_val, if_neg Bool.false_ne_true, ih, List.filterMap_cons, g1]
    · rw [mo_bind, noX_val c1, rb_val, if_pos rfl, mo_bind, noX_val y1, rb_val, ih, List.filterMap_cons, g1, List.append_assoc]
      rfl
/-- with no test -/
theorem lc_all {src : Src} (hl : src.lk = none) {bd : Dat → Env' → Option Env'} {e : Mv} {ρ0 : Env'} {h : Hm} (g : Dat → Dat) (ds : List Dat) (k : ∀ d ∈ ds, ∃ ρ', bd d ρ0 = some ρ' ∧ e ρ' h = .val (g d) h) : lcL src bd mYes e ρ0 ds [] h = .val (ds.map g) h := by
  rw [lc_map hl (fun d => some (g d)) ds [] fun d hd => ?_]
  · simp [List.filterMap_eq_map]
  · obtain ⟨ρ', e1, e2⟩ := k d hd
    exact ⟨ρ', e1, .inr ⟨g d, rfl, rfl, e2⟩⟩
theorem optBl (xs : List Dat) (p : Dat → Bool) : optAll isBl (xs.map fun x => .bl (p x)) = some (xs.map p) := by
  induction xs with
  | nil => rfl
  | cons x xs ih =>
    rw [List.map_cons, List.map_cons, optAll, ih]
    rfl
theorem all_bls (xs : List Dat) (p : Dat → Bool) (h : Hm) : allD (.lst (xs.map fun x => .bl (p x))) h = .val (.bl (xs.all p)) h := by
  show (optM (optAll isBl (xs.map fun x => .bl (p x))) >>= fun bs => pure (Dat.bl (bs.all id))) h = _
  rw [optBl]
  show Res.val (Dat.bl ((xs.map p).all id)) h = _
  rw [List.all_map]
  rfl
theorem any_bls (xs : List Dat) (p : Dat → Bool) (h : Hm) : anyD (.lst (xs.map fun x => .bl (p x))) h = .val (.bl (xs.any p)) h := by
  show (optM (optAll isBl (xs.map fun x => .bl (p x))) >>= fun bs => pure (Dat.bl (bs.any id))) h = _
  rw [optBl]
  show Res.val (Dat.bl ((xs.map p).any id)) h = _
  rw [List.any_map]
  rfl
end Mir
end

section
set_option Elab.async false
set_option linter.all false
set_option maxRecDepth 100000
namespace K1
open PySem PySem.Spec
open PyProof.Rows L2 Mir
def m_is_whole : Ms := mRet (mAndV (mUn (isD "int") (mVar 0)) (mNotV (mUn (isD "bool") (mVar 0))))
def f_is_whole : List Dat → Mo Dat := runFn 1 m_is_whole
def m_is_name : Ms := mSeq (mIfS (mOrT (mNotT (mTest (mUn (isD "str") (mVar 0)))) (mNotT (mChT (cmpI (fun i j => decide (i ≤ j))) (cmpI (fun i j => decide (i ≤ j))) (mC (.int 1)) (mUn lenD (mVar 0)) (mC (.int 8))))) (mRet (mC (.bl false))) (mNext)) (mRet (mUn allD (mFz (mLc (mSrc (mVar 0)) [1] (bName 1) mYes (mCmp cInT (mVar 1) (mC (.str "abcdefghijklmnopqrstuvwxyz")))))))
def f_is_name : List Dat → Mo Dat := runFn 2 m_is_name
def m_is_word : Ms := mSeq (mIfS (mOrT (mNotT (mTest (mUn (isD "str") (mVar 0)))) (mNotT (mChT (cmpI (fun i j => decide (i ≤ j))) (cmpI (fun i j => decide (i ≤ j))) (mC (.int 1)) (mUn lenD (mVar 0)) (mC (.int 8))))) (mRet (mC (.bl false))) (mNext)) (mRet (mAndV (mCmp cInT (mIx (mVar 0) (mC (.int 0))) (mC (.str "ABCDEFGHIJKLMNOPQRSTUVWXYZ"))) (mUn allD (mFz (mLc (mSrc (mSl (mVar 0) (mPs (mC (.int 1))) (mPn))) [1] (bName 1) mYes (mCmp cInT (mVar 1) (mC (.str "abcdefghijklmnopqrstuvwxyz"))))))))
def f_is_word : List Dat → Mo Dat := runFn 2 m_is_word
def m_is_value : Ms := mRet (mOrV (mCall f_is_name (mCons (mVar 0) (mNil))) (mAndV (mCall f_is_whole (mCons (mVar 0) (mNil))) (mChV (cmpI (fun i j => decide (i ≤ j))) (cmpI (fun i j => decide (i ≤ j))) (mUn aNeg (mC (.int 999999999))) (mVar 0) (mC (.int 999999999)))))
def f_is_value : List Dat → Mo Dat := runFn 1 m_is_value
def m_is_row : Ms := mRet (mAndV (mUn (isD "tuple") (mVar 0)) (mAndV (mChV (cmpI (fun i j => decide (i ≤ j))) (cmpI (fun i j => decide (i ≤ j))) (mC (.int 1)) (mUn lenD (mVar 0)) (mBin aAdd (mC (.int 1)) (mC (.int 4)))) (mCall f_is_name (mCons (mIx (mVar 0) (mC (.int 0))) (mNil)))))
def f_is_row : List Dat → Mo Dat := runFn 1 m_is_row
def m_is_thing : Ms := mRet (mAndV (mCall f_is_row (mCons (mVar 0) (mNil))) (mUn allD (mFz (mLc (mSrc (mSl (mVar 0) (mPs (mC (.int 1))) (mPn))) [1] (bName 1) mYes (mCall f_is_value (mCons (mVar 1) (mNil)))))))
def f_is_thing : List Dat → Mo Dat := runFn 2 m_is_thing
def m_is_pattern : Ms := mRet (mAndV (mCall f_is_row (mCons (mVar 0) (mNil))) (mUn allD (mFz (mLc (mSrc (mSl (mVar 0) (mPs (mC (.int 1))) (mPn))) [1] (bName 1) mYes (mOrV (mCall f_is_value (mCons (mVar 1) (mNil))) (mCall f_is_word (mCons (mVar 1) (mNil))))))))
def f_is_pattern : List Dat → Mo Dat := runFn 2 m_is_pattern
def m_need_thing : Ms := mSeq (mIfS (mNotT (mTest (mCall f_is_thing (mCons (mVar 0) (mNil))))) (mRaise "BadThing") (mNext)) (mRet (mVar 0))
def f_need_thing : List Dat → Mo Dat := runFn 1 m_need_thing
def m__law_at : Ms := mSeq (mIfS (mCmpT cLt (mVar 1) (mUn lenD (mVar 0))) (mRet (mIx (mVar 0) (mVar 1))) (mNext)) (mRet (mC (.int 0)))
def f__law_at : List Dat → Mo Dat := runFn 2 m__law_at
def m__law_text : Ms := mSeq (mSet 1 (mC (.str "abcdefghijklmnopqrstuvwxyz"))) (mSeq (mSet 2 (mIx (mFz (mSized (mCons (mC (.int 1)) (mCons (mC (.int 2)) (mCons (mC (.int 8)) (mCons (mC (.int 9)) (mCons (mC (.int 0)) (mCons (mC (.int 5)) (mCons (mC (.int 7)) (mNil)))))))))) (mBin aMod (mVar 0) (mC (.int 7))))) (mSeq (mSet 3 (mJoin (mC (.str "")) (mFz (mLc (mSrcA rng1 (mCons (mVar 2) (mNil))) [7] (bName 7) mYes (mIx (mVar 1) (mBin aMod (mBin aAdd (mBin aDiv (mVar 0) (mC (.int 7))) (mBin aMul (mC (.int 5)) (mVar 7))) (mC (.int 26)))))))) (mSeq (mIfS (mCmpT cEqD (mBin aMod (mBin aDiv (mVar 0) (mC (.int 182))) (mC (.int 2))) (mC (.int 1))) (mSet 3 (mBin aAdd (mUn upD (mSl (mVar 3) (mPn) (mPs (mC (.int 1))))) (mSl (mVar 3) (mPs (mC (.int 1))) (mPn)))) (mNext)) (mSeq (mIfS (mCmpT cEqD (mBin aMod (mBin aDiv (mVar 0) (mC (.int 364))) (mC (.int 2))) (mC (.int 1))) (mSeq (mSet 4 (mBin aAdd (mC (.str " !\"#$&'()*+,-./0123456789:;<=>?\x40[\\]^_{|}~\n")) (mUn upD (mVar 1)))) (mSeq (mSet 5 (mBin aMod (mBin aDiv (mVar 0) (mC (.int 728))) (mBin aAdd (mUn lenD (mVar 3)) (mC (.int 1))))) (mSeq (mSet 6 (mIx (mVar 4) (mBin aMod (mBin aDiv (mVar 0) (mC (.int 7))) (mUn lenD (mVar 4))))) (mSet 3 (mBin aAdd (mBin aAdd (mSl (mVar 3) (mPn) (mPs (mVar 5))) (mVar 6)) (mSl (mVar 3) (mPs (mBin aAdd (mVar 5) (mC (.int 1)))) (mPn))))))) (mNext)) (mRet (mVar 3))))))
def f__law_text : List Dat → Mo Dat := runFn 8 m__law_text
def m__law_part : Ms := mSeq (mIfS (mCmpT cLt (mBin aMod (mVar 0) (mC (.int 4))) (mC (.int 2))) (mRet (mCall f__law_text (mCons (mBin aDiv (mVar 0) (mC (.int 4))) (mNil)))) (mNext)) (mSeq (mIfS (mCmpT cEqD (mBin aMod (mVar 0) (mC (.int 4))) (mC (.int 2))) (mSeq (mSet 1 (mFz (mSized (mCons (mC (.int 0)) (mCons (mC (.int 999999999)) (mCons (mC (.int 1000000000)) (mCons (mUn aNeg (mC (.int 999999999))) (mCons (mUn aNeg (mC (.int 1000000000))) (mCons (mC (.int 1)) (mCons (mUn aNeg (mC (.int 1))) (mNil))))))))))) (mRet (mBin aAdd (mIx (mVar 1) (mBin aMod (mBin aDiv (mVar 0) (mC (.int 4))) (mC (.int 7)))) (mBin aMul (mBin aMod (mBin aDiv (mVar 0) (mC (.int 28))) (mC (.int 2))) (mBin aDiv (mVar 0) (mC (.int 56))))))) (mNext)) (mRet (mIx (mFz (mSized (mCons (mC (.bl true)) (mCons (mC .non) (mCons (mFz (mSized (mCons (mC (.str "a")) (mNil)))) (mCons (mTup (mCons (mC (.str "a")) (mNil))) (mCons (mEmpD) (mCons (mC (.int 1000000000000000000000000000000)) (mCons (mC (.bl false)) (mNil)))))))))) (mBin aMod (mBin aDiv (mVar 0) (mC (.int 4))) (mC (.int 7))))))
def f__law_part : List Dat → Mo Dat := runFn 2 m__law_part
def m__law_letters : Ms := mSeq (mIfS (mOrT (mNotT (mTest (mUn (isD "str") (mVar 0)))) (mOrT (mCmpT cLt (mUn lenD (mVar 0)) (mC (.int 1))) (mCmpT cGt (mUn lenD (mVar 0)) (mC (.int 8))))) (mRet (mC (.bl false))) (mNext)) (mSeq (mSet 2 (mC (.str "abcdefghijklmnopqrstuvwxyz"))) (mSeq (mIfS (mCmpT cNinT (mIx (mVar 0) (mC (.int 0))) (mIx (mFz (mSized (mCons (mVar 2) (mCons (mUn upD (mVar 2)) (mNil))))) (mUn intD (mVar 1)))) (mRet (mC (.bl false))) (mNext)) (mRet (mCmp cEqD (mFz (mLc (mSrc (mSl (mVar 0) (mPs (mC (.int 1))) (mPn))) [3] (bName 3) (mCmpT cNinT (mVar 3) (mVar 2)) (mVar 3))) (mFz (mSized (mNil)))))))
def f__law_letters : List Dat → Mo Dat := runFn 4 m__law_letters
def m__law_value : Ms := mSeq (mIfS (mTest (mCall f__law_letters (mCons (mVar 0) (mCons (mC (.bl false)) (mNil))))) (mRet (mC (.bl true))) (mNext)) (mSeq (mIfS (mOrT (mNotT (mTest (mUn (isD "int") (mVar 0)))) (mTest (mUn (isD "bool") (mVar 0)))) (mRet (mC (.bl false))) (mNext)) (mRet (mAndV (mNotV (mCmp cGt (mVar 0) (mC (.int 999999999)))) (mNotV (mCmp cLt (mVar 0) (mUn aNeg (mC (.int 999999999))))))))
def f__law_value : List Dat → Mo Dat := runFn 1 m__law_value
def m__law_row : Ms := mSeq (mIfS (mOrT (mNotT (mTest (mUn (isD "tuple") (mVar 0)))) (mOrT (mNotT (mChT (cmpI (fun i j => decide (i < j))) (cmpI (fun i j => decide (i < j))) (mC (.int 0)) (mUn lenD (mVar 0)) (mC (.int 6)))) (mNotT (mTest (mCall f__law_letters (mCons (mIx (mVar 0) (mC (.int 0))) (mCons (mC (.bl false)) (mNil)))))))) (mRet (mC (.bl false))) (mNext)) (mSeq (mFor (mSrc (mSl (mVar 0) (mPs (mC (.int 1))) (mPn))) (bName 2) (mIfS (mAndT (mNotT (mTest (mCall f__law_value (mCons (mVar 2) (mNil))))) (mNotT (mAndT (mTest (mVar 1)) (mTest (mCall f__law_letters (mCons (mVar 2) (mCons (mC (.bl true)) (mNil)))))))) (mRet (mC (.bl false))) (mNext))) (mRet (mC (.bl true))))
def f__law_row : List Dat → Mo Dat := runFn 3 m__law_row
def m__law_same : Ms := mRet (mAndV (mUn (isD "bool") (mVar 0)) (mCmp cEqD (mVar 0) (mVar 1)))
def f__law_same : List Dat → Mo Dat := runFn 2 m__law_same
def mh__law_refused_BadThing (a : Addr) : Ms := mSeq (mSet 2 (mFz (mSized (mCons (mIsE 1 a false) (mCons (mIsE 1 a false) (mCons (mIsE 1 a false) (mCons (mIsE 1 a false) (mNil)))))))) (mSeq (mIfS (mOrT (mCmpT cIn (mC (.bl true)) (mVar 2)) (mOrT (mTest (mIsE 1 a false)) (mNotT (mTest (mIsE 1 a true))))) (mRet (mC (.bl false))) (mNext)) (mRet (mIsE 1 a true)))
def hs__law_refused : List (Str × (Addr → Ms)) := [("BadThing", mh__law_refused_BadThing)]
def m__law_refused : Ms := mSeq (mTry 3 1 hs__law_refused (mDrop (mCall f_need_thing (mCons (mVar 0) (mNil))))) (mRet (mC (.bl false)))
def f__law_refused : List Dat → Mo Dat := runFn 3 m__law_refused
def m_law : Ms := mSeq (mSetF 1 (mLc (mSrcA rng1 (mCons (mBin aMod (mCall f__law_at (mCons (mVar 0) (mCons (mC (.int 0)) (mNil)))) (mC (.int 7))) (mNil))) [5] (bName 5) mYes (mCall f__law_part (mCons (mBin aMod (mBin aMul (mCall f__law_at (mCons (mVar 0) (mCons (mBin aAdd (mC (.int 2)) (mVar 5)) (mNil)))) (mC (.int 48271))) (mC (.int 100003))) (mNil))))) (mSeq (mIfS (mCmpT cEqD (mBin aMod (mBin aDiv (mCall f__law_at (mCons (mVar 0) (mCons (mC (.int 0)) (mNil)))) (mC (.int 7))) (mC (.int 2))) (mC (.int 1))) (mSet 1 (mFz (mCat (mFz (mSized (mCons (mIx (mFz (mSized (mCons (mC (.str "kind")) (mCons (mC (.str "a")) (mCons (mC (.str "abcdefgh")) (mNil)))))) (mBin aMod (mCall f__law_at (mCons (mVar 0) (mCons (mC (.int 1)) (mNil)))) (mC (.int 3)))) (mNil)))) (mSl (mVar 1) (mPs (mC (.int 1))) (mPn))))) (mNext)) (mSeq (mIfS (mCmpT cEqD (mBin aMod (mBin aDiv (mCall f__law_at (mCons (mVar 0) (mCons (mC (.int 0)) (mNil)))) (mC (.int 14))) (mC (.int 3))) (mC (.int 1))) (mSetF 1 (mLc (mSrc (mVar 1)) [2] (bName 2) (mOrT (mTest (mCall f__law_value (mCons (mVar 2) (mNil)))) (mTest (mCall f__law_letters (mCons (mVar 2) (mCons (mC (.bl true)) (mNil)))))) (mVar 2))) (mNext)) (mSeq (mFor (mSrc (mFz (mCat (mVar 1) (mFz (mSized (mCons (mCall f__law_text (mCons (mBin aMod (mBin aMul (mCall f__law_at (mCons (mVar 0) (mCons (mC (.int 1)) (mNil)))) (mC (.int 48271))) (mC (.int 100003))) (mNil))) (mNil))))))) (bName 2) (mSeq (mIfS (mNotT (mTest (mCall f__law_same (mCons (mCall f_is_name (mCons (mVar 2) (mNil))) (mCons (mCall f__law_letters (mCons (mVar 2) (mCons (mC (.bl false)) (mNil)))) (mNil)))))) (mRet (mC (.bl false))) (mNext)) (mIfS (mOrT (mNotT (mTest (mCall f__law_same (mCons (mCall f_is_word (mCons (mVar 2) (mNil))) (mCons (mCall f__law_letters (mCons (mVar 2) (mCons (mC (.bl true)) (mNil)))) (mNil)))))) (mNotT (mTest (mCall f__law_same (mCons (mCall f_is_value (mCons (mVar 2) (mNil))) (mCons (mCall f__law_value (mCons (mVar 2) (mNil))) (mNil))))))) (mRet (mC (.bl false))) (mNext)))) (mSeq (mFor (mSrc (mFz (mSized (mCons (mUn tupD (mVar 1)) (mCons (mFz (mListD (mVar 1))) (mCons (mUn tupD (mSl (mVar 1) (mPn) (mPs (mC (.int 1))))) (mCons (mUn tupD (mFz (mCat (mFz (mSized (mCons (mC (.str "kind")) (mNil)))) (mVar 1)))) (mNil)))))))) (bName 3) (mSeq (mSet 4 (mCall f__law_row (mCons (mVar 3) (mCons (mC (.bl false)) (mNil))))) (mSeq (mIfS (mOrT (mNotT (mTest (mCall f__law_same (mCons (mCall f_is_thing (mCons (mVar 3) (mNil))) (mCons (mVar 4) (mNil)))))) (mNotT (mTest (mCall f__law_same (mCons (mCall f_is_pattern (mCons (mVar 3) (mNil))) (mCons (mCall f__law_row (mCons (mVar 3) (mCons (mC (.bl true)) (mNil)))) (mNil))))))) (mRet (mC (.bl false))) (mNext)) (mIfS (mOrT (mAndT (mTest (mVar 4)) (mCmpT cNeD (mCall f_need_thing (mCons (mVar 3) (mNil))) (mVar 3))) (mAndT (mNotT (mTest (mVar 4))) (mNotT (mTest (mCall f__law_refused (mCons (mVar 3) (mNil))))))) (mRet (mC (.bl false))) (mNext))))) (mRet (mC (.bl true)))))))
def f_law : List Dat → Mo Dat := runFn 6 m_law
end K1
end

section
set_option linter.all false
set_option maxRecDepth 100000
set_option maxHeartbeats 2000000
namespace K1
open PySem Mir L2
abbrev smallS : Str := "abcdefghijklmnopqrstuvwxyz"
abbrev greatS : Str := "ABCDEFGHIJKLMNOPQRSTUVWXYZ"
def inS (z : Str) (c : Nat) : Bool := decide (c ∈ z.cps.toList)
def allS (w : Str) (xs : List Nat) : Bool := xs.all (inS w)
def len8 (z : Str) : Bool := decide (1 ≤ z.length ∧ z.length ≤ 8)
def isNameS (z : Str) : Bool := len8 z && allS smallS z.cps.toList
def isWordS (z : Str) : Bool := len8 z && (inS greatS (z.cps.getD 0 0) && allS smallS (z.cps.toList.drop 1))
def isName : Dat → Bool
  | .str z => isNameS z
  | _ => false
def isWord : Dat → Bool
  | .str z => isWordS z
  | _ => false
def isWhole : Dat → Bool
  | .int _ => true
  | _ => false
def isValue : Dat → Bool
  | .str z => isNameS z
  | .int i => decide (-999999999 ≤ i ∧ i ≤ 999999999)
  | _ => false
def isRow : Dat → Bool
  | .tup (x :: xs) => decide (xs.length ≤ 4) && isName x
  | _ => false
def isThing : Dat → Bool
  | .tup (x :: xs) => (decide (xs.length ≤ 4) && isName x) && xs.all isValue
  | _ => false
def isPattern : Dat → Bool
  | .tup (x :: xs) => (decide (xs.length ≤ 4) && isName x) && xs.all fun y => isValue y || isWord y
  | _ => false
/-- short texts of signs -/
def OkS (z : Str) : Prop := z.length ≤ 100 ∧ ∀ c ∈ z.cps.toList, c < 1114112
def Ok : Dat → Prop
  | .str z => OkS z
  | .ref _ => False
  | .exn _ => False
  | _ => True
def OkT : Dat → Prop
  | .str z => OkS z
  | .ref _ => False
  | .exn _ => False
  | .tup xs => ∀ x ∈ xs, Ok x
  | .lst xs => ∀ x ∈ xs, Ok x
  | _ => True
theorem len_line {z : Str} (o : OkS z) : z.length ≤ sizeLine := Nat.le_trans o.1 (by decide)
theorem sign_in (c : Nat) (z : Str) (h : Hm) : cInT (.str ⟨#[c]⟩) (.str z) h = .val (inS z c) h := by simp [inS]
theorem sign_nin (c : Nat) (z : Str) (h : Hm) : cNinT (.str ⟨#[c]⟩) (.str z) h = .val (!inS z c) h := by simp [inS]
theorem lc_signs (z w : Str) (a : Option Dat) (h : Hm) : lcL ⟨signsOf z, none⟩ (bName 1) mYes (mCmp cInT (mVar 1) (mC (.str w))) [a, none] (signsOf z) [] h = .val (z.cps.toList.map fun c => .bl (inS w c)) h := by
  have k := lc_all (src := ⟨signsOf z, none⟩) rfl (bd := bName 1) (e := mCmp cInT (mVar 1) (mC (.str w))) (ρ0 := [a, none]) (h := h) (fun x => .bl (match x with | .str y => inS w (y.cps.getD 0 0) | _ => false)) (signsOf z) fun d hd => ⟨_, rfl, by
    unfold signsOf at hd
    obtain ⟨c, hc, rfl⟩ := List.mem_map.mp hd
    simp [inS]⟩
  refine k.trans ?_
  unfold signsOf
  rw [List.map_map]
  rfl
theorem optBlN (xs : List Nat) (p : Nat → Bool) : optAll isBl (xs.map fun x => .bl (p x)) = some (xs.map p) := by
  induction xs with
  | nil => rfl
  | cons x xs ih => simp [ih]
theorem all_blsN (w : Str) (xs : List Nat) (h : Hm) : allD (.lst (xs.map fun x => .bl (inS w x))) h = .val (.bl (allS w xs)) h := by
  show (optM (optAll isBl (xs.map fun x => .bl (inS w x))) >>= fun bs => pure (Dat.bl (bs.all id))) h = _
  rw [optBlN]
  show Res.val (Dat.bl ((xs.map fun x => inS w x).all id)) h = _
  rw [List.all_map]
  rfl
theorem eq_is_name {d : Dat} (o : Ok d) (h : Hm) : f_is_name [d] h = .val (.bl (isName d)) h := by
  cases d with
  | str z =>
    have hz := len_line o
    have key := lc_signs z smallS (some (.str z)) h
    by_cases q1 : 1 ≤ z.length
    · have e1 : (1 : Int) ≤ (z.length : Int) := by omega
      by_cases q2 : z.length ≤ 8
      · have e2 : (z.length : Int) ≤ 8 := by omega
        have e3 : len8 z = true := decide_eq_true ⟨q1, q2⟩
        simp [f_is_name, m_is_name, isName, isNameS, e1, e2, e3, hz, key, all_blsN]
      · have e2 : ¬ (z.length : Int) ≤ 8 := by omega
        have e3 : len8 z = false := decide_eq_false fun q => q2 q.2
        simp [f_is_name, m_is_name, isName, isNameS, e1, e2, e3, hz]
    · have e1 : ¬ (1 : Int) ≤ (z.length : Int) := by omega
      have e3 : len8 z = false := decide_eq_false fun q => q1 q.1
      simp [f_is_name, m_is_name, isName, isNameS, e1, e3, hz]
  | ref _ => exact o.elim
  | exn _ => exact o.elim
  | _ => simp [f_is_name, m_is_name, isName]
theorem cut1 (z : Str) : (cutS z (some 1) none).cps.toList = z.cps.toList.drop 1 := by
  unfold cutS
  have e : HT.sIx z.length 0 (some 1) = min 1 z.length := HT.sIx_nat _ _ 1
  rw [e]
  show (List.take (z.length - min 1 z.length) (List.drop (min 1 z.length) z.cps.toList)) = _
  have hl : z.cps.toList.length = z.length := by rw [Array.length_toList]; rfl
  by_cases q : 1 ≤ z.length
  · rw [Nat.min_eq_left q, List.take_of_length_le (by rw [List.length_drop, hl]; exact Nat.le_refl _)]
  · have q0 : z.length = 0 := by omega
    have : z.cps.toList = [] := List.eq_nil_of_length_eq_zero (by rw [hl, q0])
    rw [this]
    simp
theorem cut1_len (z : Str) : (cutS z (some 1) none).length ≤ z.length := by
  have e : (cutS z (some 1) none).length = (cutS z (some 1) none).cps.toList.length := by rw [Array.length_toList]; rfl
  rw [e, cut1, List.length_drop, Array.length_toList]
  exact Nat.sub_le _ _
theorem first_sign {z : Str} (q : 1 ≤ z.length) : atI z.cps.toList 0 = some (z.cps.getD 0 0) := by
  have hl : z.cps.toList.length = z.length := by rw [Array.length_toList]; rfl
  unfold atI ixN
  rw [if_pos (by decide), if_pos (by rw [hl]; omega)]
  show z.cps.toList[0]? = _
  have h0 : 0 < z.cps.size := q
  rw [Array.getElem?_toList]
  simp [Array.getD, h0]
theorem eq_is_word {d : Dat} (o : Ok d) (h : Hm) : f_is_word [d] h = .val (.bl (isWord d)) h := by
  cases d with
  | str z =>
    have hz := len_line o
    have hc : (cutS z (some 1) none).length ≤ sizeLine := Nat.le_trans (cut1_len z) hz
    have key := lc_signs (cutS z (some 1) none) smallS (some (.str z)) h
    rw [cut1] at key
    by_cases q1 : 1 ≤ z.length
    · have e1 : (1 : Int) ≤ (z.length : Int) := by omega
      have e4 := first_sign q1
      by_cases q2 : z.length ≤ 8
      · have e2 : (z.length : Int) ≤ 8 := by omega
        have e3 : len8 z = true := decide_eq_true ⟨q1, q2⟩
        have er : isWord (.str z) = (inS greatS (z.cps.getD 0 0) && allS smallS (z.cps.toList.drop 1)) := by
          show (len8 z && _) = _
          rw [e3, Bool.true_and]
        rw [er]
        generalize z.cps.getD 0 0 = c0 at e4 ⊢
        generalize z.cps.toList.drop 1 = t at key ⊢
        have e5 := all_blsN smallS t h
        have e6 : inS greatS c0 = decide (c0 ∈ (Str.ofString "ABCDEFGHIJKLMNOPQRSTUVWXYZ").cps) := by simp [inS]
        by_cases q3 : c0 ∈ (Str.ofString "ABCDEFGHIJKLMNOPQRSTUVWXYZ").cps
        · simp [f_is_word, m_is_word, e1, e2, hz, key, e5, e4, hc, e6, q3]
        · simp [f_is_word, m_is_word, e1, e2, hz, key, e5, e4, hc, e6, q3]
      · have e2 : ¬ (z.length : Int) ≤ 8 := by omega
        have e3 : len8 z = false := decide_eq_false fun q => q2 q.2
        simp [f_is_word, m_is_word, isWord, isWordS, e1, e2, e3, hz]
    · have e1 : ¬ (1 : Int) ≤ (z.length : Int) := by omega
      have e3 : len8 z = false := decide_eq_false fun q => q1 q.1
      simp [f_is_word, m_is_word, isWord, isWordS, e1, e3, hz]
  | ref _ => exact o.elim
  | exn _ => exact o.elim
  | _ => simp [f_is_word, m_is_word, isWord]
theorem eq_is_whole {d : Dat} (o : Ok d) (h : Hm) : f_is_whole [d] h = .val (.bl (isWhole d)) h := by
  cases d with
  | ref _ => exact o.elim
  | exn _ => exact o.elim
  | _ => simp [f_is_whole, m_is_whole, isWhole]
theorem eq_is_value {d : Dat} (o : Ok d) (h : Hm) : f_is_value [d] h = .val (.bl (isValue d)) h := by
  cases d with
  | ref _ => exact o.elim
  | exn _ => exact o.elim
  | int i =>
    by_cases q1 : -999999999 ≤ i <;> by_cases q2 : i ≤ 999999999 <;> simp [f_is_value, m_is_value, isValue, eq_is_name o, eq_is_whole o, isName, isWhole, q1, q2]
  | str z => cases q : isNameS z <;> simp [f_is_value, m_is_value, isValue, eq_is_name o, eq_is_whole o, isName, isWhole, q]
  | _ => simp [f_is_value, m_is_value, isValue, eq_is_name o, eq_is_whole o, isName, isWhole]
theorem lenI (xs : List Dat) (h : Hm) : lenD (.tup xs) h = .val (.int xs.length) h := by simp
theorem at0 {α : Type} (x : α) (xs : List α) : atI (x :: xs) 0 = some x := by
  unfold atI ixN
  rw [if_pos (by decide), if_pos (by simp)]
  rfl
theorem eq_is_row {d : Dat} (o : OkT d) (h : Hm) : f_is_row [d] h = .val (.bl (isRow d)) h := by
  cases d with
  | ref _ => exact o.elim
  | exn _ => exact o.elim
  | tup xs =>
    cases xs with
    | nil => simp [f_is_row, m_is_row, isRow]
    | cons x xs =>
      have ox : Ok x := o x (by simp)
      have e0 : atI (x :: xs) 0 = some x := at0 x xs
      by_cases q : xs.length ≤ 4
      · have e1 : (1 : Int) ≤ ((xs.length : Int) + 1) := by omega
        have e2 : (xs.length : Int) + 1 ≤ 5 := by omega
        simp [f_is_row, m_is_row, isRow, q, e0, e1, e2, eq_is_name ox]
      · have e1 : (1 : Int) ≤ ((xs.length : Int) + 1) := by omega
        have e2 : ¬ (xs.length : Int) + 1 ≤ 5 := by omega
        simp [f_is_row, m_is_row, isRow, q, e0, e1, e2, eq_is_name ox]
  | _ => simp [f_is_row, m_is_row, isRow]
/-- a comprehension of looks over plain parts -/
theorem lc_looks {p : Dat → Bool} {e : Mv} {a : Option Dat} {h : Hm} (ds : List Dat) (k : ∀ d ∈ ds, ∀ ρ : Env', ρ[1]? = some (some d) → e ρ h = .val (.bl (p d)) h) : lcL ⟨ds, none⟩ (bName 1) mYes e [a, none] ds [] h = .val (ds.map fun d => .bl (p d)) h :=
  lc_all (src := ⟨ds, none⟩) rfl (fun d => .bl (p d)) ds fun d hd => ⟨_, rfl, k d hd _ rfl⟩
theorem cutT1 (x : Dat) (xs : List Dat) : cutD (x :: xs) (some 1) none = xs := by
  unfold cutD
  have e : HT.sIx (x :: xs).length 0 (some 1) = min 1 (x :: xs).length := HT.sIx_nat _ _ 1
  rw [e]
  show List.take ((x :: xs).length - min 1 (x :: xs).length) (List.drop (min 1 (x :: xs).length) (x :: xs)) = xs
  have : min 1 (x :: xs).length = 1 := by simp
  rw [this]
  simp
theorem eq_is_thing {d : Dat} (o : OkT d) (h : Hm) : f_is_thing [d] h = .val (.bl (isThing d)) h := by
  cases d with
  | ref _ => exact o.elim
  | exn _ => exact o.elim
  | tup xs =>
    cases xs with
    | nil => simp [f_is_thing, m_is_thing, isThing, eq_is_row o, isRow]
    | cons x xs =>
      have k := lc_looks (p := isValue) (e := mCall f_is_value (mCons (mVar 1) mNil)) (a := some (.tup (x :: xs))) (h := h) xs fun d hd ρ e => by
        have := eq_is_value (o d (List.mem_cons_of_mem _ hd)) h
        simp [e, this]
      have e5 := all_bls xs isValue h
      have er : isThing (.tup (x :: xs)) = (isRow (.tup (x :: xs)) && xs.all isValue) := rfl
      rw [er]
      generalize xs.all isValue = b at e5 ⊢
      cases q : isRow (.tup (x :: xs))
      · simp [f_is_thing, m_is_thing, eq_is_row o, q]
      · simp [f_is_thing, m_is_thing, eq_is_row o, q, cutT1, k, e5]
  | _ => simp [f_is_thing, m_is_thing, isThing, eq_is_row o, isRow]
theorem eq_is_pattern {d : Dat} (o : OkT d) (h : Hm) : f_is_pattern [d] h = .val (.bl (isPattern d)) h := by
  cases d with
  | ref _ => exact o.elim
  | exn _ => exact o.elim
  | tup xs =>
    cases xs with
    | nil => simp [f_is_pattern, m_is_pattern, isPattern, eq_is_row o, isRow]
    | cons x xs =>
      have k := lc_looks (p := fun y => isValue y || isWord y) (e := mOrV (mCall f_is_value (mCons (mVar 1) mNil)) (mCall f_is_word (mCons (mVar 1) mNil))) (a := some (.tup (x :: xs))) (h := h) xs fun d hd ρ e => by
        have o1 := o d (List.mem_cons_of_mem _ hd)
        have e1 := eq_is_value o1 h
        have e2 := eq_is_word o1 h
        cases q : isValue d <;> simp [e, e1, e2, q]
      have e5 := all_bls xs (fun y => isValue y || isWord y) h
      have er : isPattern (.tup (x :: xs)) = (isRow (.tup (x :: xs)) && xs.all fun y => isValue y || isWord y) := rfl
      rw [er]
      generalize (xs.all fun y => isValue y || isWord y) = b at e5 ⊢
      cases q : isRow (.tup (x :: xs))
      · simp [f_is_pattern, m_is_pattern, eq_is_row o, q]
      · simp [f_is_pattern, m_is_pattern, eq_is_row o, q, cutT1, k, e5]
  | _ => simp [f_is_pattern, m_is_pattern, isPattern, eq_is_row o, isRow]
theorem eq_need_thing {d : Dat} (o : OkT d) (h : Hm) : f_need_thing [d] h = if isThing d = true then .val d h else .exc "BadThing" h := by
  cases q : isThing d <;> simp [f_need_thing, m_need_thing, eq_is_thing o, q]
theorem up_small : Txt.upper smallS = greatS := by decide +kernel
theorem eq_nil (ys : List Dat) (h : Hm) (k : ∀ y ∈ ys, ∃ z, y = .str z ∧ PyData.strOk z = true) : cEqD (.lst ys) (.lst []) h = .val ys.isEmpty h := by
  have e : ∀ (n : Nat) (ys : List Dat), (∀ y ∈ ys, ∃ z, y = .str z ∧ PyData.strOk z = true) → ∃ ps, optAll (toPy h (n + 1)) ys = some ps ∧ ps.length = ys.length := fun n ys => by
    induction ys with
    | nil => intro _; exact ⟨[], rfl, rfl⟩
    | cons y ys ih =>
      intro k
      obtain ⟨z, rfl, hz⟩ := k y (by simp)
      obtain ⟨ps, e1, e2⟩ := ih fun y hy => k y (List.mem_cons_of_mem _ hy)
      have hz' : PyData.canLay0 (.str z) = true := by simp [PyData.canLay0, hz]
      exact ⟨.str z :: ps, by simp [toPy, hz', e1], by simp [e2]⟩
  obtain ⟨ps, e1, e2⟩ := e 28 ys k
  have p1 : pyOf (.lst ys) h = .val (.list ps) h := pyOf_val (by simp [toPy, e1])
  have p2 : pyOf (.lst []) h = .val (.list []) h := pyOf_val (by simp [toPy])
  have q : PyData.eqv (.list ps) (.list []) = ys.isEmpty := by
    cases ps with
    | nil =>
      have : ys = [] := List.eq_nil_of_length_eq_zero (by rw [← e2]; rfl)
      rw [this]
      simp [PyData.eqv, PyData.eqvAll]
    | cons p ps =>
      cases ys with
      | nil => simp at e2
      | cons y ys => simp [PyData.eqv, PyData.eqvAll]
  simp [cEqD, p1, p2, q]
theorem lc_bad (z : Str) (b : Option Dat) (a : Dat) (h : Hm) : lcL ⟨signsOf z, none⟩ (bName 3) (mCmpT cNinT (mVar 3) (mVar 2)) (mVar 3) [some a, b, some (.str smallS), none] (signsOf z) [] h = .val ((z.cps.toList.filter fun c => !inS smallS c).map fun c => .str ⟨#[c]⟩) h := by
  have k := lc_map (src := ⟨signsOf z, none⟩) rfl (bd := bName 3) (c := mCmpT cNinT (mVar 3) (mVar 2)) (e := mVar 3) (ρ0 := [some a, b, some (.str smallS), none]) (h := h) (fun x => match x with | .str y => if inS smallS (y.cps.getD 0 0) = true then none else some x | _ => none) (signsOf z) [] fun d hd => ⟨_, rfl, by
    unfold signsOf at hd
    obtain ⟨c, hc, rfl⟩ := List.mem_map.mp hd
    have e := sign_nin c smallS h
    cases q : inS smallS c
    · refine .inr ⟨.str ⟨#[c]⟩, ?_, ?_, ?_⟩
      · show (if inS smallS c = true then none else some (Dat.str ⟨#[c]⟩)) = _
        rw [q, if_neg Bool.false_ne_true]
      · rw [q] at e
        simpa using e
      · simp
    · refine .inl ⟨?_, ?_⟩
      · show (if inS smallS c = true then none else some (Dat.str ⟨#[c]⟩)) = _
        rw [q, if_pos rfl]
      · rw [q] at e
        simpa using e⟩
  refine k.trans ?_
  congr 1
  unfold signsOf
  induction z.cps.toList with
  | nil => rfl
  | cons c cs ih =>
    rw [List.map_cons, List.filterMap_cons, List.filter_cons]
    have e0 : (match (Dat.str ⟨#[c]⟩) with | .str y => if inS smallS (y.cps.getD 0 0) = true then none else some (Dat.str ⟨#[c]⟩) | _ => none) = if inS smallS c = true then none else some (Dat.str ⟨#[c]⟩) := rfl
    rw [e0]
    cases q : inS smallS c
    · simp only [Bool.false_eq_true, if_false, Bool.not_false, if_true, List.map_cons, List.nil_append] at ih ⊢
      rw [ih]
    · simp only [if_true, Bool.not_true, Bool.false_eq_true, if_false, List.nil_append] at ih ⊢
      exact ih
theorem bad_empty (xs : List Nat) : ((xs.filter fun c => !inS smallS c).map fun c => Dat.str ⟨#[c]⟩).isEmpty = allS smallS xs := by
  unfold allS
  induction xs with
  | nil => rfl
  | cons c cs ih =>
    rw [List.filter_cons, List.all_cons]
    cases q : inS smallS c
    · simp
    · simpa using ih
theorem strOk1 {c : Nat} (q : c < 1114112) : PyData.strOk ⟨#[c]⟩ = true := by simp [PyData.strOk, q]
def letD (b : Bool) (d : Dat) : Bool := if b then isWord d else isName d
theorem isName_nl (z : Str) (q : len8 z = false) (b : Bool) : letD b (.str z) = false := by
  cases b
  · show (len8 z && _) = false
    rw [q]; rfl
  · show (len8 z && _) = false
    rw [q]; rfl
theorem up_lit : Txt.upper (Str.ofString "abcdefghijklmnopqrstuvwxyz") = Str.ofString "ABCDEFGHIJKLMNOPQRSTUVWXYZ" := up_small
theorem small_len : (Str.ofString "abcdefghijklmnopqrstuvwxyz").length ≤ 5592405 := by decide +kernel
theorem at1 {α : Type} (x y : α) (xs : List α) : atI (x :: y :: xs) 1 = some y := by
  unfold atI ixN
  rw [if_pos (by decide), if_pos (by simp; omega)]
  rfl
theorem eq__law_letters {d : Dat} (o : Ok d) (b : Bool) (h : Hm) : f__law_letters [d, .bl b] h = .val (.bl (letD b d)) h := by
  cases d with
  | str z =>
    have hz := len_line o
    have hc : (cutS z (some 1) none).length ≤ sizeLine := Nat.le_trans (cut1_len z) hz
    by_cases q1 : 1 ≤ z.length
    · have e1 : ¬ (z.length : Int) < 1 := by omega
      have e4 := first_sign q1
      by_cases q2 : z.length ≤ 8
      · have e2 : ¬ (8 : Int) < (z.length : Int) := by omega
        have e3 : len8 z = true := decide_eq_true ⟨q1, q2⟩
        have l1 := lc_bad (cutS z (some 1) none) (some (.bl b)) (.str z) h
        rw [cut1] at l1
        have l2 : cEqD (.lst ((z.cps.toList.drop 1).filter (fun c => !inS smallS c) |>.map fun c => Dat.str ⟨#[c]⟩)) (.lst []) h = .val (allS smallS (z.cps.toList.drop 1)) h := by
          rw [eq_nil, bad_empty]
          intro y hy
          obtain ⟨c, hc, rfl⟩ := List.mem_map.mp hy
          exact ⟨_, rfl, strOk1 (o.2 c (List.mem_of_mem_drop (List.mem_filter.mp hc).1))⟩
        cases b
        · have er : letD false (.str z) = (allS smallS z.cps.toList) := by
            show (len8 z && _) = _
            rw [e3, Bool.true_and]
          have ec : z.cps.toList = z.cps.getD 0 0 :: z.cps.toList.drop 1 := by
            have hl : z.cps.toList.length = z.length := by rw [Array.length_toList]; rfl
            cases hh : z.cps.toList with
            | nil => rw [hh] at hl; simp at hl; omega
            | cons c cs =>
              rw [hh, at0] at e4
              rw [← Option.some.inj e4]
              rfl
          have er2 : letD false (.str z) = (inS smallS (z.cps.getD 0 0) && allS smallS (z.cps.toList.drop 1)) := by
            rw [er]
            conv => lhs; rw [ec]
            rfl
          rw [er2]
          generalize z.cps.getD 0 0 = c0 at e4 ⊢
          generalize z.cps.toList.drop 1 = t at l1 l2 ⊢
          have e5 := sign_nin c0 smallS h
          cases q3 : inS smallS c0
          · rw [q3] at e5
            simp at e5
            simp [f__law_letters, m__law_letters, e1, e2, hz, e4, hc, up_lit, small_len, at0, e5]
          · rw [q3] at e5
            simp at e5
            simp [f__law_letters, m__law_letters, e1, e2, hz, e4, hc, up_lit, small_len, at0, e5, l1, l2]
        · have er2 : letD true (.str z) = (inS greatS (z.cps.getD 0 0) && allS smallS (z.cps.toList.drop 1)) := by
            show (len8 z && _) = _
            rw [e3, Bool.true_and]
          rw [er2]
          generalize z.cps.getD 0 0 = c0 at e4 ⊢
          generalize z.cps.toList.drop 1 = t at l1 l2 ⊢
          have e5 := sign_nin c0 greatS h
          cases q3 : inS greatS c0
          · rw [q3] at e5
            simp at e5
            simp [f__law_letters, m__law_letters, e1, e2, hz, e4, hc, up_lit, small_len, at1, e5]
          · rw [q3] at e5
            simp at e5
            simp [f__law_letters, m__law_letters, e1, e2, hz, e4, hc, up_lit, small_len, at1, e5, l1, l2]
      · have e2 : (8 : Int) < (z.length : Int) := by omega
        have e3 : len8 z = false := decide_eq_false fun q => q2 q.2
        simp [f__law_letters, m__law_letters, isName_nl z e3, e1, e2, hz]
    · have e1 : (z.length : Int) < 1 := by omega
      have e3 : len8 z = false := decide_eq_false fun q => q1 q.1
      simp [f__law_letters, m__law_letters, isName_nl z e3, e1, hz]
  | ref _ => exact o.elim
  | exn _ => exact o.elim
  | _ => cases b <;> simp [f__law_letters, m__law_letters, letD, isName, isWord]
end K1
end

section
set_option linter.all false
set_option maxRecDepth 100000
set_option maxHeartbeats 2000000
namespace K1
open PySem Mir L2
theorem eq__law_value {d : Dat} (o : Ok d) (h : Hm) : f__law_value [d] h = .val (.bl (isValue d)) h := by
  have l := eq__law_letters o false h
  have e : letD false d = isName d := rfl
  rw [e] at l
  cases d with
  | ref _ => exact o.elim
  | exn _ => exact o.elim
  | int i =>
    by_cases q1 : 999999999 < i
    · have : ¬ (i ≤ 999999999) := by omega
      simp [f__law_value, m__law_value, l, isName, isValue, q1, this]
    · have e1 : i ≤ 999999999 := by omega
      by_cases q2 : i < -999999999
      · have : ¬ (-999999999 ≤ i) := by omega
        simp [f__law_value, m__law_value, l, isName, isValue, q1, q2, this, e1]
      · have : (-999999999 ≤ i) := by omega
        simp [f__law_value, m__law_value, l, isName, isValue, q1, q2, this, e1]
  | str z => cases q : isNameS z <;> simp [f__law_value, m__law_value, l, isValue, isName, q]
  | _ => simp [f__law_value, m__law_value, l, isValue, isName]
def partD (b : Bool) (d : Dat) : Bool := isValue d || (b && isWord d)
def rowD (b : Bool) (d : Dat) : Bool := if b then isPattern d else isThing d
/-- for x in xs: if not good(x): return False -/
theorem for_good {src : Src} (hl : src.lk = none) {bd : Dat → Env' → Option Env'} {body : Ms} {h : Hm} (p : Dat → Bool) (J : Env' → Prop) : ∀ (ds : List Dat), (∀ d ∈ ds, ∀ ρ, J ρ → ∃ ρ', bd d ρ = some ρ' ∧ J ρ' ∧ body ρ' h = .val (if p d = true then .nx ρ' else .rt (.bl false)) h) →
    ∀ ρ, J ρ → (ds.all p = true ∧ ∃ ρ', J ρ' ∧ forL src bd body ds ρ h = .val (.nx ρ') h) ∨ (ds.all p = false ∧ forL src bd body ds ρ h = .val (.rt (.bl false)) h)
  | [], _, ρ, j => .inl ⟨rfl, ρ, j, by
    show (mGuard src >>= fun _ => pure (Fl.nx ρ)) h = _
    rw [mo_bind, guard_none hl, rb_val]
    rfl⟩
  | d :: ds, k, ρ, j => by
    obtain ⟨ρ', e1, j1, e2⟩ := k d (by simp) ρ j
    have ih := for_good hl p J ds (fun d' hd => k d' (List.mem_cons_of_mem _ hd)) ρ' j1
    have step : forL src bd body (d :: ds) ρ h = (body ρ' h).bind fun f => match f with
      | .nx ρ2 => forL src bd body ds ρ2
      | .ct ρ2 => forL src bd body ds ρ2
      | .bk ρ2 => pure (.nx ρ2)
      | .rt d => pure (.rt d) := by
      show (mGuard src >>= fun _ => optM (bd d ρ) >>= fun ρ' => body ρ' >>= _) h = _
      rw [mo_bind, guard_none hl, rb_val, e1]
      rfl
    rw [step, e2]
    cases q : p d
    · exact .inr ⟨by simp [q], rfl⟩
    · rw [if_pos rfl]
      rcases ih with ⟨a1, ρ2, j2, a2⟩ | ⟨a1, a2⟩
      · exact .inl ⟨by simp [q, a1], ρ2, j2, a2⟩
      · exact .inr ⟨by simp [q, a1], a2⟩
theorem eq__law_row {d : Dat} (o : OkT d) (b : Bool) (h : Hm) : f__law_row [d, .bl b] h = .val (.bl (rowD b d)) h := by
  cases d with
  | ref _ => exact o.elim
  | exn _ => exact o.elim
  | tup xs =>
    cases xs with
    | nil => cases b <;> simp [f__law_row, m__law_row, rowD, isThing, isPattern]
    | cons x xs =>
      have ox : Ok x := o x (by simp)
      have lx := eq__law_letters ox false h
      have e : letD false x = isName x := rfl
      rw [e] at lx
      have key := for_good (src := ⟨xs, none⟩) rfl (bd := bName 2) (body := mIfS (mAndT (mNotT (mTest (mCall f__law_value (mCons (mVar 2) (mNil))))) (mNotT (mAndT (mTest (mVar 1)) (mTest (mCall f__law_letters (mCons (mVar 2) (mCons (mC (.bl true)) (mNil)))))))) (mRet (mC (.bl false))) (mNext)) (h := h) (partD b) (fun ρ => ∃ v, ρ = [some (.tup (x :: xs)), some (.bl b), v]) xs (fun d hd ρ ⟨v, e⟩ => by
        subst e
        have o1 := o d (List.mem_cons_of_mem _ hd)
        have e1 := eq__law_value o1 h
        have e2 := eq__law_letters o1 true h
        have e3 : letD true d = isWord d := rfl
        rw [e3] at e2
        refine ⟨_, rfl, ⟨some d, rfl⟩, ?_⟩
        cases q1 : isValue d <;> cases b <;> cases q2 : isWord d <;> simp [partD, e1, e2, q1, q2]) [some (.tup (x :: xs)), some (.bl b), none] ⟨none, rfl⟩
      have er : rowD b (.tup (x :: xs)) = ((decide (xs.length ≤ 4) && isName x) && xs.all (partD b)) := by
        cases b
        · show (_ && xs.all isValue) = _
          congr 1
          unfold partD
          simp
        · show (_ && xs.all fun y => isValue y || isWord y) = _
          congr 1
      rw [er]
      by_cases q : xs.length ≤ 4
      · have q1 : (0 : Int) < (xs.length : Int) + 1 := by omega
        have q2 : (xs.length : Int) + 1 < 6 := by omega
        cases qn : isName x
        · simp [f__law_row, m__law_row, q, q1, q2, at0, lx, qn]
        · rcases key with ⟨a1, ρ', ⟨v, e⟩, a2⟩ | ⟨a1, a2⟩
          · simp [f__law_row, m__law_row, q, q1, q2, at0, lx, qn, cutT1, a1, a2]
          · simp [f__law_row, m__law_row, q, q1, q2, at0, lx, qn, cutT1, a1, a2]
      · have q1 : (0 : Int) < (xs.length : Int) + 1 := by omega
        have q2 : ¬ (xs.length : Int) + 1 < 6 := by omega
        simp [f__law_row, m__law_row, q, q1, q2]
  | _ => cases b <;> simp [f__law_row, m__law_row, rowD, isThing, isPattern]
theorem eqB (a b : Bool) (h : Hm) : cEqD (.bl a) (.bl b) h = .val (a == b) h := by
  have p1 : pyOf (.bl a) h = .val (.bool a) h := pyOf_val (by simp [toPy])
  have p2 : pyOf (.bl b) h = .val (.bool b) h := pyOf_val (by simp [toPy])
  simp [cEqD, p1, p2, PyData.eqv]
theorem eqI (a b : Int) (h : Hm) : cEqD (.int a) (.int b) h = .val (a == b) h := by
  have p1 : pyOf (.int a) h = .val (.int a) h := pyOf_val (by simp [toPy])
  have p2 : pyOf (.int b) h = .val (.int b) h := pyOf_val (by simp [toPy])
  simp [cEqD, p1, p2, PyData.eqv]
theorem eq__law_same (a b : Bool) (h : Hm) : f__law_same [.bl a, .bl b] h = .val (.bl (a == b)) h := by
  simp [f__law_same, m__law_same, eqB]
end K1
end

section
set_option linter.all false
set_option maxRecDepth 100000
set_option maxHeartbeats 2000000
namespace K1
open PySem Mir L2
/-- at most n signs, each allowed by p -/
def Few (n : Nat) (p : Nat → Prop) (z : Str) : Prop := z.length ≤ n ∧ ∀ c ∈ z.cps.toList, p c
def lt8 (c : Nat) : Prop := c < 1114112
def small (c : Nat) : Prop := c ∈ smallS.cps.toList
theorem len_tl (z : Str) : z.length = z.cps.toList.length := by rw [Array.length_toList]; rfl
theorem few_mono {n m : Nat} {p q : Nat → Prop} {z : Str} (h : Few n p z) (hn : n ≤ m) (hp : ∀ c, p c → q c) : Few m q z := ⟨Nat.le_trans h.1 hn, fun c hc => hp c (h.2 c hc)⟩
theorem few_cut {n : Nat} {p : Nat → Prop} {z : Str} (h : Few n p z) (lo hi : Option Int) : Few n p (cutS z lo hi) := by
  have e : (cutS z lo hi).cps.toList = (z.cps.toList.drop (HT.sIx z.length 0 lo)).take (HT.sIx z.length z.length hi - HT.sIx z.length 0 lo) := rfl
  refine ⟨?_, fun c hc => ?_⟩
  · rw [len_tl, e, List.length_take, List.length_drop]
    have := h.1
    rw [len_tl] at this
    omega
  · rw [e] at hc
    exact h.2 c (List.mem_of_mem_drop (List.mem_of_mem_take hc))
theorem few_first {n : Nat} {p : Nat → Prop} {z : Str} (h : Few n p z) : Few 1 p (cutS z none (some 1)) := by
  have k := few_cut h none (some 1)
  have e : (cutS z none (some 1)).cps.toList = (z.cps.toList.drop 0).take (HT.sIx z.length z.length (some 1) - 0) := rfl
  refine ⟨?_, k.2⟩
  have e1 : HT.sIx z.length z.length (some 1) = min 1 z.length := HT.sIx_nat _ _ 1
  rw [len_tl, e, e1, List.length_take]
  omega
theorem few_app {n m : Nat} {p : Nat → Prop} {z w : Str} (h : Few n p z) (k : Few m p w) : Few (n + m) p (z ++ w) := by
  have e : (z ++ w).cps.toList = z.cps.toList ++ w.cps.toList := by
    show (z.cps ++ w.cps).toList = _
    simp
  refine ⟨?_, fun c hc => ?_⟩
  · rw [len_tl, e, List.length_append, ← len_tl, ← len_tl]
    exact Nat.add_le_add h.1 k.1
  · rw [e] at hc
    rcases List.mem_append.mp hc with q | q
    · exact h.2 c q
    · exact k.2 c q
theorem upper_small : ∀ c ∈ smallS.cps.toList, Txt.upper ⟨#[c]⟩ = ⟨#[c - 32]⟩ ∧ c < 128 := by decide +kernel
theorem few_up {z : Str} (h : Few 1 small z) : Few 1 lt8 (Txt.upper z) := by
  obtain ⟨⟨l⟩⟩ := z
  match l, h with
  | [], _ => exact ⟨by decide +kernel, fun c hc => by
      have : (Txt.upper ⟨#[]⟩).cps.toList = [] := by decide +kernel
      rw [this] at hc
      exact absurd hc (by simp)⟩
  | [c], h =>
    obtain ⟨e, hc⟩ := upper_small c (h.2 c (by simp))
    rw [e]
    refine ⟨Nat.le_refl 1, fun d hd => ?_⟩
    have : d = c - 32 := by simpa using hd
    rw [this]
    show c - 32 < 1114112
    omega
  | _ :: _ :: l, h => exact absurd h.1 (by show ¬ (l.length + 1 + 1 ≤ 1); omega)
theorem small_lt {c : Nat} (h : small c) : lt8 c := Nat.lt_of_lt_of_le (upper_small c h).2 (by decide)
/-- a sign of a text at a place within -/
theorem at_in {α : Type} (xs : List α) {i : Int} (h0 : 0 ≤ i) (h1 : i < xs.length) : ∃ x ∈ xs, atI xs i = some x := by
  have hi : i.toNat < xs.length := by omega
  refine ⟨xs[i.toNat], List.getElem_mem _, ?_⟩
  unfold atI ixN
  rw [if_pos h0, if_pos h1]
  exact List.getElem?_eq_getElem hi
theorem opt_strs : ∀ (zs : List Str), optAll isStr (zs.map Dat.str) = some zs
  | [] => rfl
  | z :: zs => by simp [opt_strs zs]
theorem join_few {p : Nat → Prop} : ∀ (cs : List Nat), (∀ c ∈ cs, p c) → Few cs.length p (Txt.join (Str.ofString "") (cs.map fun c => ⟨#[c]⟩)) := fun cs k => by
  have e : (Txt.join (Str.ofString "") (cs.map fun c => (⟨#[c]⟩ : Str))).cps.toList = cs := by
    rw [TL.join_eq]
    refine (TL.tl_join _ _).trans ?_
    have : TL.tl (Str.ofString "") = [] := rfl
    rw [this, List.map_map]
    induction cs with
    | nil => rfl
    | cons c cs ih =>
      cases cs with
      | nil => rfl
      | cons d ds =>
        show [c] ++ ([] ++ TL.joinL [] (((d :: ds).map _))) = _
        rw [ih (fun c hc => k c (List.mem_cons_of_mem _ hc))]
        rfl
  refine ⟨?_, fun c hc => ?_⟩
  · rw [len_tl, e]
    exact Nat.le_refl _
  · rw [e] at hc
    exact k c hc
theorem join_sum (cs : List Nat) : ((cs.map fun c => (⟨#[c]⟩ : Str)).map (·.length)).sum = cs.length := by
  induction cs with
  | nil => rfl
  | cons c cs ih =>
    rw [List.map_cons, List.map_cons, List.sum_cons, ih, List.length_cons]
    show 1 + cs.length = _
    omega
theorem join_signs (cs : List Nat) (hc : cs.length ≤ 1000) (h : Hm) : joinD (Str.ofString "") (.lst (cs.map fun c => .str ⟨#[c]⟩)) h = .val (.str (Txt.join (Str.ofString "") (cs.map fun c => ⟨#[c]⟩))) h := by
  have e : (cs.map fun c => Dat.str ⟨#[c]⟩) = (cs.map fun c => (⟨#[c]⟩ : Str)).map Dat.str := by rw [List.map_map]; rfl
  have e2 := join_sum cs
  have e3 : (Str.ofString "").length = 0 := rfl
  have hl : cs.length ≤ 16777216 := by omega
  rw [e]
  show (optM (optAll isStr _) >>= fun ys => if (ys.map (·.length)).sum + ys.length * (Str.ofString "").length ≤ 16777216 then pure (Dat.str (Txt.join (Str.ofString "") ys)) else (bad : Mo Dat)) h = _
  rw [opt_strs, e3]
  show (if ((cs.map fun c => (⟨#[c]⟩ : Str)).map (·.length)).sum + (cs.map fun c => (⟨#[c]⟩ : Str)).length * 0 ≤ 16777216 then pure (Dat.str (Txt.join (Str.ofString "") (cs.map fun c => (⟨#[c]⟩ : Str)))) else bad : Mo Dat) h = _
  rw [e2, Nat.mul_zero, Nat.add_zero, if_pos hl]
  rfl
theorem mulS (a b : Int) (h : -18446744073709551616 < a ∧ a < 18446744073709551616) : mulOk a b = true := by
  unfold mulOk
  simp
  exact .inl h
theorem mulS2 (a b : Int) (h : -18446744073709551616 < b ∧ b < 18446744073709551616) : mulOk a b = true := by
  unfold mulOk
  simp
  exact .inr h
theorem mod_in (i k : Int) (hk : 0 < k) : 0 ≤ i % k ∧ i % k < k := ⟨Int.emod_nonneg _ (by omega), Int.emod_lt_of_pos _ hk⟩
/-- the letters -/
theorem letters (i : Int) (n : Int) (hn : 0 ≤ n ∧ n ≤ 9) (h : Hm) : ∃ cs : List Nat, cs.length ≤ 9 ∧ (∀ c ∈ cs, small c) ∧
    lcL ⟨rngD 0 n.toNat, none⟩ (bName 7) mYes (mIx (mVar 1) (mBin aMod (mBin aAdd (mBin aDiv (mVar 0) (mC (.int 7))) (mBin aMul (mC (.int 5)) (mVar 7))) (mC (.int 26)))) [some (.int i), some (.str smallS), some (.int n), none, none, none, none, none] (rngD 0 n.toNat) [] h = .val (cs.map fun c => Dat.str ⟨#[c]⟩) h := by
  have key : ∀ j : Int, ∃ c ∈ smallS.cps.toList, atI smallS.cps.toList ((i / 7 + 5 * j) % 26) = some c := fun j => by
    have m := mod_in (i / 7 + 5 * j) 26 (by decide)
    exact at_in _ m.1 (by have : smallS.cps.toList.length = 26 := by decide +kernel
                          rw [this]; exact m.2)
  let f : Int → Nat := fun j => (atI smallS.cps.toList ((i / 7 + 5 * j) % 26)).getD 0
  have k := lc_all (src := ⟨rngD 0 n.toNat, none⟩) rfl (bd := bName 7) (e := (mIx (mVar 1) (mBin aMod (mBin aAdd (mBin aDiv (mVar 0) (mC (.int 7))) (mBin aMul (mC (.int 5)) (mVar 7))) (mC (.int 26)))))
    (ρ0 := [some (.int i), some (.str smallS), some (.int n), none, none, none, none, none]) (h := h) (fun x => match x with | .int j => .str ⟨#[f j]⟩ | _ => .non) (rngD 0 n.toNat) fun d hd => ⟨_, rfl, by
      unfold rngD at hd
      obtain ⟨j, hj, rfl⟩ := List.mem_map.mp hd
      obtain ⟨c, hc, ec⟩ := key (0 + (j : Int))
      have e2 : f (0 + (j : Int)) = c := by show (atI _ _).getD 0 = c; rw [ec]; rfl
      have sl : smallS.length ≤ sizeLine := by decide +kernel
      have ml := mulS 5 (0 + (j : Int)) ⟨by decide, by decide⟩
      show _ = Res.val (Dat.str ⟨#[f (0 + (j : Int))]⟩) h
      rw [e2]
      rw [Int.zero_add] at ec ml
      simp [ec, sl, ml]⟩
  refine ⟨(List.range n.toNat).map fun (j : Nat) => f (0 + (j : Int)), ?_, fun c hc => ?_, k.trans ?_⟩
  · rw [List.length_map, List.length_range]; omega
  · obtain ⟨j, _, rfl⟩ := List.mem_map.mp hc
    obtain ⟨c, hc, ec⟩ := key (0 + (j : Int))
    show (atI _ _).getD 0 ∈ _
    rw [ec]
    exact hc
  · unfold rngD
    rw [List.map_map, List.map_map]
    rfl
end K1
end

section
set_option linter.all false
set_option maxRecDepth 100000
set_option maxHeartbeats 4000000
namespace K1
open PySem Mir L2
abbrev SG : Str := Str.ofString " !\"#$&'()*+,-./0123456789:;<=>?\x40[\\]^_{|}~\n" ++ Str.ofString "ABCDEFGHIJKLMNOPQRSTUVWXYZ"
theorem sg_len : (Str.ofString " !\"#$&'()*+,-./0123456789:;<=>?\x40[\\]^_{|}~\n").length + (Str.ofString "ABCDEFGHIJKLMNOPQRSTUVWXYZ").length ≤ sizeLine ∧ SG.length ≤ sizeLine := by decide +kernel
theorem sg_in : (∀ c ∈ SG.cps.toList, c < 1114112) ∧ 0 < SG.length ∧ SG.length < 1000 := by decide +kernel
/-- the second half of the text -/
def tail2 : Ms := mSeq (mIfS (mCmpT cEqD (mBin aMod (mBin aDiv (mVar 0) (mC (.int 364))) (mC (.int 2))) (mC (.int 1))) (mSeq (mSet 4 (mBin aAdd (mC (.str " !\"#$&'()*+,-./0123456789:;<=>?\x40[\\]^_{|}~\n")) (mUn upD (mVar 1)))) (mSeq (mSet 5 (mBin aMod (mBin aDiv (mVar 0) (mC (.int 728))) (mBin aAdd (mUn lenD (mVar 3)) (mC (.int 1))))) (mSeq (mSet 6 (mIx (mVar 4) (mBin aMod (mBin aDiv (mVar 0) (mC (.int 7))) (mUn lenD (mVar 4))))) (mSet 3 (mBin aAdd (mBin aAdd (mSl (mVar 3) (mPn) (mPs (mVar 5))) (mVar 6)) (mSl (mVar 3) (mPs (mBin aAdd (mVar 5) (mC (.int 1)))) (mPn))))))) (mNext)) (mRet (mVar 3))
theorem eq_tail2 (i n : Int) {z : Str} (fz : Few 10 lt8 z) (h : Hm) : ∃ w, Few 30 lt8 w ∧ tail2 [some (.int i), some (.str smallS), some (.int n), some (.str z), none, none, none, none] h = .val (.rt (.str w)) h := by
  have hz : z.length ≤ sizeLine := Nat.le_trans fz.1 (by decide)
  cases q : (i / 364 % 2 == 1)
  · have e := eqI (i / 364 % 2) 1 h
    rw [q] at e
    exact ⟨z, few_mono fz (by decide) fun _ k => k, by simp [tail2, e]⟩
  · have e := eqI (i / 364 % 2) 1 h
    rw [q] at e
    have p1 : (0 : Int) < (z.length : Int) + 1 := by omega
    have ml := mod_in (i / 7) (SG.length : Int) (by have := sg_in.2.1; omega)
    obtain ⟨c, hc, ec⟩ := at_in SG.cps.toList ml.1 (by rw [← len_tl]; exact ml.2)
    have f1 : Few 10 lt8 (cutS z none (some (i / 728 % ((z.length : Int) + 1)))) := few_cut fz _ _
    have f2 : Few 10 lt8 (cutS z (some (i / 728 % ((z.length : Int) + 1) + 1)) none) := few_cut fz _ _
    have fc : Few 1 lt8 ⟨#[c]⟩ := ⟨Nat.le_refl 1, fun d hd => by
      have : d = c := by simpa using hd
      rw [this]
      exact sg_in.1 c hc⟩
    have f3 := few_app f1 fc
    have l1 : (cutS z none (some (i / 728 % ((z.length : Int) + 1)))).length + (⟨#[c]⟩ : Str).length ≤ sizeLine := Nat.le_trans (Nat.add_le_add f1.1 fc.1) (by decide)
    have l2 : (cutS z none (some (i / 728 % ((z.length : Int) + 1))) ++ (⟨#[c]⟩ : Str)).length + (cutS z (some (i / 728 % ((z.length : Int) + 1) + 1)) none).length ≤ sizeLine := Nat.le_trans (Nat.add_le_add f3.1 f2.1) (by decide)
    have sp : (0 : Int) < (SG.length : Int) := by have := sg_in.2.1; omega
    refine ⟨_, few_mono (few_app f3 f2) (by decide) fun _ k => k, ?_⟩
    simp [tail2, e, up_lit, small_len, sg_len.1, sg_len.2, hz, p1, sp, sg_in.2.1, ec, l1, l2]
theorem eq__law_text (i : Int) (h : Hm) : ∃ w, Few 30 lt8 w ∧ f__law_text [.int i] h = .val (.str w) h := by
  have m := mod_in i 7 (by decide)
  obtain ⟨d, hd, ed⟩ := at_in [Dat.int 1, .int 2, .int 8, .int 9, .int 0, .int 5, .int 7] m.1 (by show i % 7 < 7; exact m.2)
  obtain ⟨n, hn, rfl⟩ : ∃ n : Int, (0 ≤ n ∧ n ≤ 9) ∧ d = .int n := by
    simp at hd
    rcases hd with rfl | rfl | rfl | rfl | rfl | rfl | rfl <;> exact ⟨_, by decide, rfl⟩
  obtain ⟨cs, hl, hs, l1⟩ := letters i n hn h
  have j1 := join_signs cs (by omega) h
  have fz := join_few (p := small) cs hs
  have i62n : i62 n = true := decide_eq_true ⟨by omega, by omega⟩
  have nl : n.toNat ≤ sizeLine := Nat.le_trans (show n.toNat ≤ 9 by omega) (by decide)
  have nl2 : n ≤ (sizeLine : Int) := by omega
  generalize Txt.join (Str.ofString "") (cs.map fun c => ⟨#[c]⟩) = z at j1 fz
  have fz9 : Few 9 small z := few_mono fz hl fun _ k => k
  have hz : z.length ≤ sizeLine := Nat.le_trans fz9.1 (by decide)
  have pre : ∀ X : Ms, ∃ z1, Few 10 lt8 z1 ∧ (mSeq (mSet 1 (mC (.str "abcdefghijklmnopqrstuvwxyz"))) (mSeq (mSet 2 (mIx (mFz (mSized (mCons (mC (.int 1)) (mCons (mC (.int 2)) (mCons (mC (.int 8)) (mCons (mC (.int 9)) (mCons (mC (.int 0)) (mCons (mC (.int 5)) (mCons (mC (.int 7)) (mNil)))))))))) (mBin aMod (mVar 0) (mC (.int 7))))) (mSeq (mSet 3 (mJoin (mC (.str "")) (mFz (mLc (mSrcA rng1 (mCons (mVar 2) (mNil))) [7] (bName 7) mYes (mIx (mVar 1) (mBin aMod (mBin aAdd (mBin aDiv (mVar 0) (mC (.int 7))) (mBin aMul (mC (.int 5)) (mVar 7))) (mC (.int 26)))))))) (mSeq (mIfS (mCmpT cEqD (mBin aMod (mBin aDiv (mVar 0) (mC (.int 182))) (mC (.int 2))) (mC (.int 1))) (mSet 3 (mBin aAdd (mUn upD (mSl (mVar 3) (mPn) (mPs (mC (.int 1))))) (mSl (mVar 3) (mPs (mC (.int 1))) (mPn)))) (mNext)) X)))) [some (.int i), none, none, none, none, none, none, none] h = X [some (.int i), some (.str smallS), some (.int n), some (.str z1), none, none, none, none] h := fun X => by
    cases q : (i / 182 % 2 == 1)
    · have e := eqI (i / 182 % 2) 1 h
      rw [q] at e
      refine ⟨z, few_mono fz9 (by decide) fun _ k => small_lt k, ?_⟩
      simp [-joinD, ed, i62n, nl, nl2, l1, j1, e]
    · have e := eqI (i / 182 % 2) 1 h
      rw [q] at e
      have f1 := few_up (few_first fz9)
      have f2 : Few 9 lt8 (cutS z (some 1) none) := few_mono (few_cut fz9 (some 1) none) (Nat.le_refl _) fun _ k => small_lt k
      have s1 : (Txt.upper (cutS z none (some 1))).length + (cutS z (some 1) none).length ≤ sizeLine := Nat.le_trans (Nat.add_le_add f1.1 f2.1) (by decide)
      have s2 : (cutS z none (some 1)).length ≤ 5592405 := Nat.le_trans (few_first fz9).1 (by decide)
      refine ⟨_, few_app f1 f2, ?_⟩
      simp [-joinD, ed, i62n, nl, nl2, l1, j1, e, hz, s1, s2]
  obtain ⟨z1, f1, e1⟩ := pre tail2
  obtain ⟨w, fw, ew⟩ := eq_tail2 i n f1 h
  refine ⟨w, fw, ?_⟩
  show (runFn 8 m__law_text) [.int i] h = _
  have e2 := e1.trans ew
  have e3 : m__law_text (startE 8 [.int i]) h = .val (.rt (.str w)) h := e2
  unfold runFn
  rw [mo_bind, e3]
  rfl
end K1
end

section
set_option linter.all false
set_option maxRecDepth 100000
set_option maxHeartbeats 4000000
namespace K1
open PySem Mir L2
theorem few_ok {n : Nat} {z : Str} (h : Few n lt8 z) (hn : n ≤ 100) : Ok (.str z) := ⟨Nat.le_trans h.1 hn, h.2⟩
theorem eq__law_at (ns : List Int) (k : Int) (hk : 0 ≤ k) (h : Hm) : ∃ v, f__law_at [.lst (ns.map Dat.int), .int k] h = .val (.int v) h := by
  by_cases q : k < (ns.length : Int)
  · obtain ⟨x, hx, e⟩ := at_in (ns.map Dat.int) hk (by simpa using q)
    obtain ⟨v, _, rfl⟩ := List.mem_map.mp hx
    exact ⟨v, by simp [f__law_at, m__law_at, q, e]⟩
  · exact ⟨0, by simp [f__law_at, m__law_at, q]⟩
theorem eq__law_part (i : Int) (h : Hm) : ∃ d, Ok d ∧ f__law_part [.int i] h = .val d h := by
  by_cases q1 : i % 4 < 2
  · obtain ⟨w, fw, ew⟩ := eq__law_text (i / 4) h
    exact ⟨.str w, few_ok fw (by decide), by simp [f__law_part, m__law_part, q1, ew]⟩
  · have m7 := mod_in (i / 4) 7 (by decide)
    cases q2 : (i % 4 == 2)
    · have e := eqI (i % 4) 2 h
      rw [q2] at e
      obtain ⟨d, hd, ed⟩ := at_in [Dat.bl true, .non, .lst [.str (Str.ofString "a")], .tup [.str (Str.ofString "a")], .dct false [] [], .int 1000000000000000000000000000000, .bl false] m7.1 (by show i / 4 % 7 < 7; exact m7.2)
      refine ⟨d, ?_, ?_⟩
      · simp at hd
        rcases hd with rfl | rfl | rfl | rfl | rfl | rfl | rfl <;> exact True.intro
      · simp [f__law_part, m__law_part, q1, e, ed]
    · have e := eqI (i % 4) 2 h
      rw [q2] at e
      obtain ⟨d, hd, ed⟩ := at_in [Dat.int 0, .int 999999999, .int 1000000000, .int (-999999999), .int (-1000000000), .int 1, .int (-1)] m7.1 (by show i / 4 % 7 < 7; exact m7.2)
      obtain ⟨v, rfl⟩ : ∃ v, d = .int v := by
        simp at hd
        rcases hd with rfl | rfl | rfl | rfl | rfl | rfl | rfl <;> exact ⟨_, rfl⟩
      have m2 := mod_in (i / 28) 2 (by decide)
      have ml := mulS (i / 28 % 2) (i / 56) ⟨by omega, by omega⟩
      exact ⟨.int (v + i / 28 % 2 * (i / 56)), True.intro, by simp [f__law_part, m__law_part, q1, e, ed, ml]⟩
theorem in4 (h : Hm) : cIn (.bl true) (.lst [.bl false, .bl false, .bl false, .bl false]) h = .val false h := by
  have p1 : pyOf (.bl true) h = .val (.bool true) h := pyOf_val (by simp [toPy])
  have p2 : pysM [.bl false, .bl false, .bl false, .bl false] h = .val [.bool false, .bool false, .bool false, .bool false] h := pysM_val (by simp [toPy])
  simp [cIn, memD, p1, p2, PyData.eqv]
theorem mh_val (a : Addr) (h : Hm) : mh__law_refused_BadThing a ((blank 3).set 1 (some (.exn a))) h = .val (.rt (.bl true)) h := by
  have e : ((blank 3).set 1 (some (.exn a)) : Env') = [none, some (.exn a), none] := rfl
  rw [e]
  simp [mh__law_refused_BadThing, mIsE, in4]
theorem hpar__law_refused_BadThing (a : Addr) (h : Hm) : mh__law_refused_BadThing a ((blank 3).set 1 (some (.exn a))) h = mh__law_refused_BadThing 0 ((blank 3).set 1 (some (.exn 0))) h := by
  rw [mh_val, mh_val]
theorem eq__law_refused {d : Dat} (o : OkT d) (q : isThing d = false) (h : Hm) : f__law_refused [d] h = .val (.bl true) h := by
  have e := eq_need_thing o h
  rw [q] at e
  have e : f_need_thing [d] h = .exc (Str.ofString "BadThing") h := e
  have l : List.lookup (Str.ofString "BadThing") hs__law_refused = some mh__law_refused_BadThing := by simp [hs__law_refused, List.lookup]
  have t : mTry 3 1 hs__law_refused (mDrop (mCall f_need_thing (mCons (mVar 0) (mNil)))) [some d, none, none] h = .val (.rt (.bl true)) h := by
    unfold mTry
    have e2 : mDrop (mCall f_need_thing (mCons (mVar 0) (mNil))) [some d, none, none] h = .exc (Str.ofString "BadThing") h := by simp [e]
    rw [e2]
    simp only [l]
    rw [mo_bind, noX_val (mh_val 0 h)]
    rfl
  simp [f__law_refused, m__law_refused, t]
theorem for_nx {src : Src} (hl : src.lk = none) {bd : Dat → Env' → Option Env'} {body : Ms} {h : Hm} (J : Env' → Prop) : ∀ (ds : List Dat), (∀ d ∈ ds, ∀ ρ, J ρ → ∃ ρ' ρ2, bd d ρ = some ρ' ∧ J ρ2 ∧ body ρ' h = .val (.nx ρ2) h) →
    ∀ ρ, J ρ → ∃ ρ2, J ρ2 ∧ forL src bd body ds ρ h = .val (.nx ρ2) h
  | [], _, ρ, j => ⟨ρ, j, by
    show (mGuard src >>= fun _ => pure (Fl.nx ρ)) h = _
    rw [mo_bind, guard_none hl, rb_val]
    rfl⟩
  | d :: ds, k, ρ, j => by
    obtain ⟨ρ', ρ2, e1, j2, e2⟩ := k d (by simp) ρ j
    obtain ⟨ρ3, j3, e3⟩ := for_nx hl J ds (fun d' hd => k d' (List.mem_cons_of_mem _ hd)) ρ2 j2
    refine ⟨ρ3, j3, ?_⟩
    show (mGuard src >>= fun _ => optM (bd d ρ) >>= fun ρ' => body ρ' >>= _) h = _
    rw [mo_bind, guard_none hl, rb_val, e1]
    show (body ρ' >>= _) h = _
    rw [mo_bind, e2]
    exact e3
/-- a comprehension whose parts all come -/
theorem lc_ex {src : Src} (hl : src.lk = none) {bd : Dat → Env' → Option Env'} {e : Mv} {ρ0 : Env'} {h : Hm} (P : Dat → Prop) (ds : List Dat) (k : ∀ d ∈ ds, ∃ ρ' y, bd d ρ0 = some ρ' ∧ e ρ' h = .val y h ∧ P y) :
    ∃ ys, (∀ y ∈ ys, P y) ∧ ys.length = ds.length ∧ lcL src bd mYes e ρ0 ds [] h = .val ys h := by
  classical
  let g : Dat → Dat := fun d => if q : ∃ ρ' y, bd d ρ0 = some ρ' ∧ e ρ' h = .val y h ∧ P y then q.choose_spec.choose else .non
  refine ⟨ds.map g, fun y hy => ?_, by simp, lc_all hl g ds fun d hd => ?_⟩
  · obtain ⟨d, hd, rfl⟩ := List.mem_map.mp hy
    have q := k d hd
    show P (if q : _ then _ else _)
    rw [dif_pos q]
    exact q.choose_spec.choose_spec.2.2
  · have q := k d hd
    refine ⟨q.choose, q.choose_spec.choose_spec.1, ?_⟩
    show _ = Res.val (if q : _ then _ else _) h
    rw [dif_pos q]
    exact q.choose_spec.choose_spec.2.1
theorem optPy {h : Hm} {n : Nat} : ∀ (xs : List Dat), (∀ x ∈ xs, ∃ p, toPy h n x = some p ∧ PyData.eqv p p = true) → ∃ ps, optAll (toPy h n) xs = some ps ∧ PyData.eqvAll ps ps = true
  | [], _ => ⟨[], rfl, by simp [PyData.eqvAll]⟩
  | x :: xs, k => by
    obtain ⟨p, e1, e2⟩ := k x (by simp)
    obtain ⟨ps, e3, e4⟩ := optPy xs fun y hy => k y (List.mem_cons_of_mem _ hy)
    exact ⟨p :: ps, by simp [e1, e3], by simp [PyData.eqvAll, e2, e4]⟩
theorem okS_py {z : Str} (o : OkS z) : PyData.strOk z = true := by
  unfold PyData.strOk
  rw [Array.all_eq_true']
  intro c hc
  exact decide_eq_true (o.2 c (by simpa using hc))
theorem value_py {d : Dat} (o : Ok d) (q : isValue d = true) (h : Hm) (n : Nat) : ∃ p, toPy h (n + 1) d = some p ∧ PyData.eqv p p = true := by
  cases d with
  | int i => exact ⟨.int i, by simp [toPy], by simp [PyData.eqv]⟩
  | str z =>
    have c : PyData.canLay0 (.str z) = true := by simp [PyData.canLay0, okS_py o]
    exact ⟨.str z, by simp [toPy, c], by simp [PyData.eqv]⟩
  | _ => cases q
theorem thing_eq {d : Dat} (o : OkT d) (q : isThing d = true) (h : Hm) : cNeD d d h = .val false h := by
  cases d with
  | tup xs =>
    cases xs with
    | nil => cases q
    | cons x xs =>
      have q1 : ((decide (xs.length ≤ 4) && isName x) && xs.all isValue) = true := q
      rw [Bool.and_eq_true, Bool.and_eq_true] at q1
      obtain ⟨⟨_, qx⟩, qs⟩ := q1
      have vx : isValue x = true := by
        cases x with
        | str z => exact qx
        | _ => cases qx
      obtain ⟨ps, e1, e2⟩ := optPy (h := h) (n := 29) (x :: xs) fun y hy => by
        rcases List.mem_cons.mp hy with rfl | hy'
        · exact value_py (o _ (by simp)) vx h 28
        · exact value_py (o y hy) (List.all_eq_true.mp qs y hy') h 28
      have p : pyOf (.tup (x :: xs)) h = .val (.tuple ps) h := pyOf_val (by simp only [toPy, e1]; rfl)
      have e3 : PyData.eqv (.tuple ps) (.tuple ps) = true := by rw [PyData.eqv]; exact e2
      show (pyOf (.tup (x :: xs)) >>= fun p => pyOf (.tup (x :: xs)) >>= fun q => pure (!PyData.eqv p q)) h = _
      rw [mo_bind, p, rb_val, mo_bind, p, rb_val]
      show Res.val (!PyData.eqv (.tuple ps) (.tuple ps)) h = _
      rw [e3]
      rfl
  | _ => cases q
def body1 : Ms := (mSeq (mIfS (mNotT (mTest (mCall f__law_same (mCons (mCall f_is_name (mCons (mVar 2) (mNil))) (mCons (mCall f__law_letters (mCons (mVar 2) (mCons (mC (.bl false)) (mNil)))) (mNil)))))) (mRet (mC (.bl false))) (mNext)) (mIfS (mOrT (mNotT (mTest (mCall f__law_same (mCons (mCall f_is_word (mCons (mVar 2) (mNil))) (mCons (mCall f__law_letters (mCons (mVar 2) (mCons (mC (.bl true)) (mNil)))) (mNil)))))) (mNotT (mTest (mCall f__law_same (mCons (mCall f_is_value (mCons (mVar 2) (mNil))) (mCons (mCall f__law_value (mCons (mVar 2) (mNil))) (mNil))))))) (mRet (mC (.bl false))) (mNext)))
def body2 : Ms := (mSeq (mSet 4 (mCall f__law_row (mCons (mVar 3) (mCons (mC (.bl false)) (mNil))))) (mSeq (mIfS (mOrT (mNotT (mTest (mCall f__law_same (mCons (mCall f_is_thing (mCons (mVar 3) (mNil))) (mCons (mVar 4) (mNil)))))) (mNotT (mTest (mCall f__law_same (mCons (mCall f_is_pattern (mCons (mVar 3) (mNil))) (mCons (mCall f__law_row (mCons (mVar 3) (mCons (mC (.bl true)) (mNil)))) (mNil))))))) (mRet (mC (.bl false))) (mNext)) (mIfS (mOrT (mAndT (mTest (mVar 4)) (mCmpT cNeD (mCall f_need_thing (mCons (mVar 3) (mNil))) (mVar 3))) (mAndT (mNotT (mTest (mVar 4))) (mNotT (mTest (mCall f__law_refused (mCons (mVar 3) (mNil))))))) (mRet (mC (.bl false))) (mNext))))
theorem body1_nx {S P d : Dat} (o : Ok d) (h : Hm) : body1 [some S, some P, some d, none, none, none] h = .val (.nx [some S, some P, some d, none, none, none]) h := by
  have e1 := eq_is_name o h
  have e2 := eq__law_letters o false h
  have e3 := eq_is_word o h
  have e4 := eq__law_letters o true h
  have e5 := eq_is_value o h
  have e6 := eq__law_value o h
  have q1 : letD false d = isName d := rfl
  have q2 : letD true d = isWord d := rfl
  rw [q1] at e2
  rw [q2] at e4
  simp [body1, e1, e2, e3, e4, e5, e6, eq__law_same]
theorem body2_nx {S P d : Dat} {a b : Option Dat} (o : OkT d) (h : Hm) : ∃ c, body2 [some S, some P, a, some d, b, none] h = .val (.nx [some S, some P, a, some d, c, none]) h := by
  have e1 := eq__law_row o false h
  have e2 := eq__law_row o true h
  have e3 := eq_is_thing o h
  have e4 := eq_is_pattern o h
  have e5 := eq_need_thing o h
  have q1 : rowD false d = isThing d := rfl
  have q2 : rowD true d = isPattern d := rfl
  rw [q1] at e1
  rw [q2] at e2
  refine ⟨some (.bl (isThing d)), ?_⟩
  cases q : isThing d
  · have e6 := eq__law_refused o q h
    rw [q] at e1 e3
    simp [body2, e1, e2, e3, e4, e6, eq__law_same]
  · have e6 := thing_eq o q h
    rw [q] at e1 e3 e5
    rw [if_pos rfl] at e5
    simp [body2, e1, e2, e3, e4, e5, e6, eq__law_same]
end K1
end

section
set_option linter.all false
set_option maxRecDepth 100000
set_option maxHeartbeats 4000000
namespace K1
open PySem Mir L2
def stA : Ms := (mSetF 1 (mLc (mSrcA rng1 (mCons (mBin aMod (mCall f__law_at (mCons (mVar 0) (mCons (mC (.int 0)) (mNil)))) (mC (.int 7))) (mNil))) [5] (bName 5) mYes (mCall f__law_part (mCons (mBin aMod (mBin aMul (mCall f__law_at (mCons (mVar 0) (mCons (mBin aAdd (mC (.int 2)) (mVar 5)) (mNil)))) (mC (.int 48271))) (mC (.int 100003))) (mNil)))))
def stB : Ms := (mIfS (mCmpT cEqD (mBin aMod (mBin aDiv (mCall f__law_at (mCons (mVar 0) (mCons (mC (.int 0)) (mNil)))) (mC (.int 7))) (mC (.int 2))) (mC (.int 1))) (mSet 1 (mFz (mCat (mFz (mSized (mCons (mIx (mFz (mSized (mCons (mC (.str "kind")) (mCons (mC (.str "a")) (mCons (mC (.str "abcdefgh")) (mNil)))))) (mBin aMod (mCall f__law_at (mCons (mVar 0) (mCons (mC (.int 1)) (mNil)))) (mC (.int 3)))) (mNil)))) (mSl (mVar 1) (mPs (mC (.int 1))) (mPn))))) (mNext))
def stC : Ms := (mIfS (mCmpT cEqD (mBin aMod (mBin aDiv (mCall f__law_at (mCons (mVar 0) (mCons (mC (.int 0)) (mNil)))) (mC (.int 14))) (mC (.int 3))) (mC (.int 1))) (mSetF 1 (mLc (mSrc (mVar 1)) [2] (bName 2) (mOrT (mTest (mCall f__law_value (mCons (mVar 2) (mNil)))) (mTest (mCall f__law_letters (mCons (mVar 2) (mCons (mC (.bl true)) (mNil)))))) (mVar 2))) (mNext))
def stD : Ms := (mFor (mSrc (mFz (mCat (mVar 1) (mFz (mSized (mCons (mCall f__law_text (mCons (mBin aMod (mBin aMul (mCall f__law_at (mCons (mVar 0) (mCons (mC (.int 1)) (mNil)))) (mC (.int 48271))) (mC (.int 100003))) (mNil))) (mNil))))))) (bName 2) (mSeq (mIfS (mNotT (mTest (mCall f__law_same (mCons (mCall f_is_name (mCons (mVar 2) (mNil))) (mCons (mCall f__law_letters (mCons (mVar 2) (mCons (mC (.bl false)) (mNil)))) (mNil)))))) (mRet (mC (.bl false))) (mNext)) (mIfS (mOrT (mNotT (mTest (mCall f__law_same (mCons (mCall f_is_word (mCons (mVar 2) (mNil))) (mCons (mCall f__law_letters (mCons (mVar 2) (mCons (mC (.bl true)) (mNil)))) (mNil)))))) (mNotT (mTest (mCall f__law_same (mCons (mCall f_is_value (mCons (mVar 2) (mNil))) (mCons (mCall f__law_value (mCons (mVar 2) (mNil))) (mNil))))))) (mRet (mC (.bl false))) (mNext))))
def stE : Ms := (mFor (mSrc (mFz (mSized (mCons (mUn tupD (mVar 1)) (mCons (mFz (mListD (mVar 1))) (mCons (mUn tupD (mSl (mVar 1) (mPn) (mPs (mC (.int 1))))) (mCons (mUn tupD (mFz (mCat (mFz (mSized (mCons (mC (.str "kind")) (mNil)))) (mVar 1)))) (mNil)))))))) (bName 3) (mSeq (mSet 4 (mCall f__law_row (mCons (mVar 3) (mCons (mC (.bl false)) (mNil))))) (mSeq (mIfS (mOrT (mNotT (mTest (mCall f__law_same (mCons (mCall f_is_thing (mCons (mVar 3) (mNil))) (mCons (mVar 4) (mNil)))))) (mNotT (mTest (mCall f__law_same (mCons (mCall f_is_pattern (mCons (mVar 3) (mNil))) (mCons (mCall f__law_row (mCons (mVar 3) (mCons (mC (.bl true)) (mNil)))) (mNil))))))) (mRet (mC (.bl false))) (mNext)) (mIfS (mOrT (mAndT (mTest (mVar 4)) (mCmpT cNeD (mCall f_need_thing (mCons (mVar 3) (mNil))) (mVar 3))) (mAndT (mNotT (mTest (mVar 4))) (mNotT (mTest (mCall f__law_refused (mCons (mVar 3) (mNil))))))) (mRet (mC (.bl false))) (mNext)))))
def stR : Ms := (mRet (mC (.bl true)))
theorem stepA (ns : List Int) (h : Hm) : ∃ ps : List Dat, (∀ p ∈ ps, Ok p) ∧ ps.length ≤ 10 ∧ stA [some (.lst (ns.map Dat.int)), none, none, none, none, none] h = .val (.nx [some (.lst (ns.map Dat.int)), some (.lst ps), none, none, none, none]) h := by
  obtain ⟨v0, e0⟩ := eq__law_at ns 0 (by decide) h
  have m := mod_in v0 7 (by decide)
  obtain ⟨ys, h1, h2, h3⟩ := lc_ex (src := ⟨rngD 0 (v0 % 7).toNat, none⟩) rfl (bd := bName 5) (e := (mCall f__law_part (mCons (mBin aMod (mBin aMul (mCall f__law_at (mCons (mVar 0) (mCons (mBin aAdd (mC (.int 2)) (mVar 5)) (mNil)))) (mC (.int 48271))) (mC (.int 100003))) (mNil)))) (ρ0 := [some (.lst (ns.map Dat.int)), none, none, none, none, none]) (h := h) Ok (rngD 0 (v0 % 7).toNat) fun d hd => by
    unfold rngD at hd
    obtain ⟨j, hj, rfl⟩ := List.mem_map.mp hd
    obtain ⟨v, ev⟩ := eq__law_at ns (2 + (0 + (j : Int))) (by omega) h
    obtain ⟨y, oy, ey⟩ := eq__law_part (v * 48271 % 100003) h
    have ml := mulS2 v 48271 ⟨by decide, by decide⟩
    rw [Int.zero_add] at ev
    exact ⟨_, y, rfl, by simp [ev, ey, ml], oy⟩
  have z1 : i62 (v0 % 7) = true := decide_eq_true ⟨by omega, by omega⟩
  have z2 : v0 % 7 ≤ (sizeLine : Int) := Int.le_trans (show v0 % 7 ≤ 7 by omega) (by decide)
  refine ⟨ys, h1, ?_, ?_⟩
  · rw [h2, rngD_len]
    omega
  · simp [stA, e0, z1, z2, h3]
theorem mem_cut {xs : List Dat} {lo hi : Option Int} {x : Dat} (h : x ∈ cutD xs lo hi) : x ∈ xs := List.mem_of_mem_drop (List.mem_of_mem_take h)
theorem len_cut (xs : List Dat) (lo hi : Option Int) : (cutD xs lo hi).length ≤ xs.length := by
  unfold cutD
  rw [List.length_take, List.length_drop]
  omega
theorem stepB (ns : List Int) {ps : List Dat} (o : ∀ p ∈ ps, Ok p) (hl : ps.length ≤ 10) (h : Hm) : ∃ qs : List Dat, (∀ p ∈ qs, Ok p) ∧ qs.length ≤ 11 ∧ stB [some (.lst (ns.map Dat.int)), some (.lst ps), none, none, none, none] h = .val (.nx [some (.lst (ns.map Dat.int)), some (.lst qs), none, none, none, none]) h := by
  obtain ⟨v0, e0⟩ := eq__law_at ns 0 (by decide) h
  obtain ⟨v1, e1⟩ := eq__law_at ns 1 (by decide) h
  have t := eqI (v0 / 7 % 2) 1 h
  cases q : (v0 / 7 % 2 == 1)
  · rw [q] at t
    exact ⟨ps, o, by omega, by simp [stB, e0, t]⟩
  · rw [q] at t
    have m := mod_in v1 3 (by decide)
    obtain ⟨d, hd, ed⟩ := at_in [Dat.str (Str.ofString "kind"), .str (Str.ofString "a"), .str (Str.ofString "abcdefgh")] m.1 (by show v1 % 3 < 3; exact m.2)
    have od : Ok d := by
      simp at hd
      rcases hd with rfl | rfl | rfl <;> exact ⟨by decide +kernel, by decide +kernel⟩
    have lc := len_cut ps (some 1) none
    have sz : 1 + (cutD ps (some 1) none).length ≤ sizeLine := Nat.le_trans (show _ ≤ 11 by omega) (by decide)
    refine ⟨d :: cutD ps (some 1) none, fun p hp => ?_, ?_, ?_⟩
    · rcases List.mem_cons.mp hp with rfl | hp
      · exact od
      · exact o p (mem_cut hp)
    · rw [List.length_cons]; omega
    · simp [stB, e0, e1, t, ed, sz]
theorem stepC (ns : List Int) {ps : List Dat} (o : ∀ p ∈ ps, Ok p) (hl : ps.length ≤ 11) (h : Hm) : ∃ qs : List Dat, (∀ p ∈ qs, Ok p) ∧ qs.length ≤ 11 ∧ stC [some (.lst (ns.map Dat.int)), some (.lst ps), none, none, none, none] h = .val (.nx [some (.lst (ns.map Dat.int)), some (.lst qs), none, none, none, none]) h := by
  obtain ⟨v0, e0⟩ := eq__law_at ns 0 (by decide) h
  have t := eqI (v0 / 14 % 3) 1 h
  cases q : (v0 / 14 % 3 == 1)
  · rw [q] at t
    exact ⟨ps, o, by omega, by simp [stC, e0, t]⟩
  · rw [q] at t
    have k := lc_map (src := ⟨ps, none⟩) rfl (bd := bName 2) (c := (mOrT (mTest (mCall f__law_value (mCons (mVar 2) (mNil)))) (mTest (mCall f__law_letters (mCons (mVar 2) (mCons (mC (.bl true)) (mNil))))))) (e := mVar 2) (ρ0 := [some (.lst (ns.map Dat.int)), some (.lst ps), none, none, none, none]) (h := h) (fun d => if (isValue d || isWord d) = true then some d else none) ps [] fun d hd => by
      have e1 := eq__law_value (o d hd) h
      have e2 := eq__law_letters (o d hd) true h
      have q2 : letD true d = isWord d := rfl
      rw [q2] at e2
      refine ⟨_, rfl, ?_⟩
      cases q3 : isValue d <;> cases q4 : isWord d <;> simp [e1, e2, q3, q4]
    refine ⟨ps.filterMap fun d => if (isValue d || isWord d) = true then some d else none, fun p hp => ?_, Nat.le_trans (List.length_filterMap_le _ _) hl, ?_⟩
    · obtain ⟨d, hd, e⟩ := List.mem_filterMap.mp hp
      by_cases c : (isValue d || isWord d) = true
      · rw [if_pos c] at e
        cases e
        exact o _ hd
      · rw [if_neg c] at e
        cases e
    · rw [List.nil_append] at k
      unfold stC
      generalize hg : (fun d => if (isValue d || isWord d) = true then some d else none) = g at k ⊢
      simp [e0, t, k]
theorem stepD (ns : List Int) {ps : List Dat} (o : ∀ p ∈ ps, Ok p) (hl : ps.length ≤ 11) (h : Hm) : ∃ a, stD [some (.lst (ns.map Dat.int)), some (.lst ps), none, none, none, none] h = .val (.nx [some (.lst (ns.map Dat.int)), some (.lst ps), a, none, none, none]) h := by
  obtain ⟨v1, e1⟩ := eq__law_at ns 1 (by decide) h
  obtain ⟨w, fw, ew⟩ := eq__law_text (v1 * 48271 % 100003) h
  have ml := mulS2 v1 48271 ⟨by decide, by decide⟩
  have sz : ps.length + 1 ≤ sizeLine := Nat.le_trans (show _ ≤ 12 by omega) (by decide)
  obtain ⟨ρ2, ⟨a, rfl⟩, k⟩ := for_nx (src := ⟨ps ++ [.str w], none⟩) rfl (bd := bName 2) (body := body1) (h := h) (fun ρ => ∃ a, ρ = [some (.lst (ns.map Dat.int)), some (.lst ps), a, none, none, none]) (ps ++ [.str w]) (fun d hd ρ ⟨a, e⟩ => by
    subst e
    have od : Ok d := by
      rcases List.mem_append.mp hd with hd | hd
      · exact o d hd
      · rw [List.mem_singleton.mp hd]
        exact few_ok fw (by decide)
    exact ⟨_, _, rfl, ⟨some d, rfl⟩, body1_nx od h⟩) [some (.lst (ns.map Dat.int)), some (.lst ps), none, none, none, none] ⟨none, rfl⟩
  refine ⟨a, ?_⟩
  have e : stD = mFor (mSrc (mFz (mCat (mVar 1) (mFz (mSized (mCons (mCall f__law_text (mCons (mBin aMod (mBin aMul (mCall f__law_at (mCons (mVar 0) (mCons (mC (.int 1)) (mNil)))) (mC (.int 48271))) (mC (.int 100003))) (mNil))) (mNil))))))) (bName 2) body1 := rfl
  rw [e]
  simp [e1, ew, ml, sz, k]
theorem stepE (ns : List Int) {ps : List Dat} (o : ∀ p ∈ ps, Ok p) (hl : ps.length ≤ 11) (a : Option Dat) (h : Hm) : ∃ ρ, stE [some (.lst (ns.map Dat.int)), some (.lst ps), a, none, none, none] h = .val (.nx ρ) h := by
  have lc := len_cut ps none (some 1)
  have sz : 1 + ps.length ≤ sizeLine := Nat.le_trans (show _ ≤ 12 by omega) (by decide)
  obtain ⟨ρ2, _, k⟩ := for_nx (src := ⟨[.tup ps, .lst ps, .tup (cutD ps none (some 1)), .tup (.str (Str.ofString "kind") :: ps)], none⟩) rfl (bd := bName 3) (body := body2) (h := h) (fun ρ => ∃ d b, ρ = [some (.lst (ns.map Dat.int)), some (.lst ps), a, d, b, none]) [.tup ps, .lst ps, .tup (cutD ps none (some 1)), .tup (.str (Str.ofString "kind") :: ps)] (fun d hd ρ ⟨d0, b, e⟩ => by
    subst e
    have od : OkT d := by
      simp at hd
      rcases hd with rfl | rfl | rfl | rfl
      · exact o
      · exact o
      · exact fun x hx => o x (mem_cut hx)
      · intro x hx
        rcases List.mem_cons.mp hx with rfl | hx
        · exact ⟨by decide +kernel, by decide +kernel⟩
        · exact o x hx
    obtain ⟨c, e⟩ := body2_nx (S := .lst (ns.map Dat.int)) (P := .lst ps) (a := a) (b := b) od h
    exact ⟨_, _, rfl, ⟨some d, c, rfl⟩, e⟩) [some (.lst (ns.map Dat.int)), some (.lst ps), a, none, none, none] ⟨none, none, rfl⟩
  refine ⟨ρ2, ?_⟩
  have e : stE = mFor (mSrc (mFz (mSized (mCons (mUn tupD (mVar 1)) (mCons (mFz (mListD (mVar 1))) (mCons (mUn tupD (mSl (mVar 1) (mPn) (mPs (mC (.int 1))))) (mCons (mUn tupD (mFz (mCat (mFz (mSized (mCons (mC (.str "kind")) (mNil)))) (mVar 1)))) (mNil)))))))) (bName 3) body2 := rfl
  rw [e]
  simp [sz, k]
theorem law_true (ns : List Int) (hl : ns.length ≤ 63) : ∃ h', f_law [.lst (ns.map Dat.int)] [] = .val (.bl true) h' := by
  obtain ⟨p1, o1, l1, e1⟩ := stepA ns []
  obtain ⟨p2, o2, l2, e2⟩ := stepB ns o1 l1 []
  obtain ⟨p3, o3, l3, e3⟩ := stepC ns o2 l2 []
  obtain ⟨a, e4⟩ := stepD ns o3 l3 []
  obtain ⟨ρ, e5⟩ := stepE ns o3 l3 a []
  have e6 : stR ρ [] = .val (.rt (.bl true)) [] := rfl
  have e : m_law = mSeq stA (mSeq stB (mSeq stC (mSeq stD (mSeq stE stR)))) := rfl
  have e0 : startE 6 [.lst (ns.map Dat.int)] = [some (.lst (ns.map Dat.int)), none, none, none, none, none] := rfl
  refine ⟨[], ?_⟩
  unfold f_law runFn
  rw [mo_bind, e, e0]
  simp [e1, e2, e3, e4, e5, e6]
end K1
end

section
set_option Elab.async false
set_option linter.all false
set_option maxRecDepth 100000
namespace K1
open PySem PySem.Spec
open PyProof.Rows L2 Mir

def top (i : Nat) : Stmt := PySem.Challenge.pw_matchweave_k01_things_looked_at.main.body.getD i (.Pass ⟨0, 0, 0, 0⟩)
abbrev s_is_whole : Stmt := top 14
abbrev s_is_name : Stmt := top 15
abbrev s_is_word : Stmt := top 16
abbrev s_is_value : Stmt := top 17
abbrev s_is_row : Stmt := top 18
abbrev s_is_thing : Stmt := top 19
abbrev s_is_pattern : Stmt := top 20
abbrev s_need_thing : Stmt := top 21
abbrev s__law_at : Stmt := top 23
abbrev s__law_text : Stmt := top 24
abbrev s__law_part : Stmt := top 25
abbrev s__law_letters : Stmt := top 26
abbrev s__law_value : Stmt := top 27
abbrev s__law_row : Stmt := top 28
abbrev s__law_same : Stmt := top 29
abbrev s__law_refused : Stmt := top 30
abbrev s_law : Stmt := top 31
structure Ad where
  a_is_whole : Addr
  fd_is_whole : FuncData
  a_is_name : Addr
  fd_is_name : FuncData
  a_is_word : Addr
  fd_is_word : FuncData
  a_is_value : Addr
  fd_is_value : FuncData
  a_is_row : Addr
  fd_is_row : FuncData
  a_is_thing : Addr
  fd_is_thing : FuncData
  a_is_pattern : Addr
  fd_is_pattern : FuncData
  a_need_thing : Addr
  fd_need_thing : FuncData
  a__law_at : Addr
  fd__law_at : FuncData
  a__law_text : Addr
  fd__law_text : FuncData
  a__law_part : Addr
  fd__law_part : FuncData
  a__law_letters : Addr
  fd__law_letters : FuncData
  a__law_value : Addr
  fd__law_value : FuncData
  a__law_row : Addr
  fd__law_row : FuncData
  a__law_same : Addr
  fd__law_same : FuncData
  a__law_refused : Addr
  fd__law_refused : FuncData
  a_law : Addr
  fd_law : FuncData
  c_BadRule : Addr
  c_BadThing : Addr
  c_NoCount : Addr
  c_NoRule : Addr
  c_NotThere : Addr
  c_There : Addr
  c_WeaveError : Addr
structure Txt (K : PySem.W.Frag) (mg : Str → Option Value) (A : Ad) : Prop where
  b_ValueError : mg "ValueError" = none
  b_all : mg "all" = none
  b_bool : mg "bool" = none
  b_int : mg "int" = none
  b_isinstance : mg "isinstance" = none
  b_len : mg "len" = none
  b_list : mg "list" = none
  b_range : mg "range" = none
  b_str : mg "str" = none
  b_tuple : mg "tuple" = none
  v_GREAT : ∃ t, mg "GREAT" = some (.str "ABCDEFGHIJKLMNOPQRSTUVWXYZ" t)
  v_MOST_LETTERS : ∃ t, mg "MOST_LETTERS" = some (.int (8) t)
  v_MOST_NUMBER : ∃ t, mg "MOST_NUMBER" = some (.int (999999999) t)
  v_MOST_VALUES : ∃ t, mg "MOST_VALUES" = some (.int (4) t)
  v_SMALL : ∃ t, mg "SMALL" = some (.str "abcdefghijklmnopqrstuvwxyz" t)
  F_is_whole : Fun K "is_whole" "is_whole" s_is_whole A.a_is_whole A.fd_is_whole
  g_is_whole : mg "is_whole" = some (.ref A.a_is_whole)
  B_is_whole : Binds K A.fd_is_whole ["thing"] []
  F_is_name : Fun K "is_name" "is_name" s_is_name A.a_is_name A.fd_is_name
  g_is_name : mg "is_name" = some (.ref A.a_is_name)
  B_is_name : Binds K A.fd_is_name ["thing"] []
  F_is_word : Fun K "is_word" "is_word" s_is_word A.a_is_word A.fd_is_word
  g_is_word : mg "is_word" = some (.ref A.a_is_word)
  B_is_word : Binds K A.fd_is_word ["thing"] []
  F_is_value : Fun K "is_value" "is_value" s_is_value A.a_is_value A.fd_is_value
  g_is_value : mg "is_value" = some (.ref A.a_is_value)
  B_is_value : Binds K A.fd_is_value ["thing"] []
  F_is_row : Fun K "is_row" "is_row" s_is_row A.a_is_row A.fd_is_row
  g_is_row : mg "is_row" = some (.ref A.a_is_row)
  B_is_row : Binds K A.fd_is_row ["thing"] []
  F_is_thing : Fun K "is_thing" "is_thing" s_is_thing A.a_is_thing A.fd_is_thing
  g_is_thing : mg "is_thing" = some (.ref A.a_is_thing)
  B_is_thing : Binds K A.fd_is_thing ["thing"] []
  F_is_pattern : Fun K "is_pattern" "is_pattern" s_is_pattern A.a_is_pattern A.fd_is_pattern
  g_is_pattern : mg "is_pattern" = some (.ref A.a_is_pattern)
  B_is_pattern : Binds K A.fd_is_pattern ["thing"] []
  F_need_thing : Fun K "need_thing" "need_thing" s_need_thing A.a_need_thing A.fd_need_thing
  g_need_thing : mg "need_thing" = some (.ref A.a_need_thing)
  B_need_thing : Binds K A.fd_need_thing ["thing"] []
  F__law_at : Fun K "_law_at" "_law_at" s__law_at A.a__law_at A.fd__law_at
  g__law_at : mg "_law_at" = some (.ref A.a__law_at)
  B__law_at : Binds K A.fd__law_at ["_law_script", "_law_k"] []
  F__law_text : Fun K "_law_text" "_law_text" s__law_text A.a__law_text A.fd__law_text
  g__law_text : mg "_law_text" = some (.ref A.a__law_text)
  B__law_text : Binds K A.fd__law_text ["_law_cell"] []
  F__law_part : Fun K "_law_part" "_law_part" s__law_part A.a__law_part A.fd__law_part
  g__law_part : mg "_law_part" = some (.ref A.a__law_part)
  B__law_part : Binds K A.fd__law_part ["_law_cell"] []
  F__law_letters : Fun K "_law_letters" "_law_letters" s__law_letters A.a__law_letters A.fd__law_letters
  g__law_letters : mg "_law_letters" = some (.ref A.a__law_letters)
  B__law_letters : Binds K A.fd__law_letters ["_law_thing", "_law_first"] []
  F__law_value : Fun K "_law_value" "_law_value" s__law_value A.a__law_value A.fd__law_value
  g__law_value : mg "_law_value" = some (.ref A.a__law_value)
  B__law_value : Binds K A.fd__law_value ["_law_thing"] []
  F__law_row : Fun K "_law_row" "_law_row" s__law_row A.a__law_row A.fd__law_row
  g__law_row : mg "_law_row" = some (.ref A.a__law_row)
  B__law_row : Binds K A.fd__law_row ["_law_thing", "_law_words"] []
  F__law_same : Fun K "_law_same" "_law_same" s__law_same A.a__law_same A.fd__law_same
  g__law_same : mg "_law_same" = some (.ref A.a__law_same)
  B__law_same : Binds K A.fd__law_same ["_law_found", "_law_due"] []
  F__law_refused : Fun K "_law_refused" "_law_refused" s__law_refused A.a__law_refused A.fd__law_refused
  g__law_refused : mg "_law_refused" = some (.ref A.a__law_refused)
  B__law_refused : Binds K A.fd__law_refused ["_law_thing"] []
  F_law : Fun K "law" "law" s_law A.a_law A.fd_law
  g_law : mg "law" = some (.ref A.a_law)
  B_law : Binds K A.fd_law ["_law_script"] []
  c_BadRule : mg "BadRule" = some (.ref A.c_BadRule)
  c_BadThing : mg "BadThing" = some (.ref A.c_BadThing)
  c_NoCount : mg "NoCount" = some (.ref A.c_NoCount)
  c_NoRule : mg "NoRule" = some (.ref A.c_NoRule)
  c_NotThere : mg "NotThere" = some (.ref A.c_NotThere)
  c_There : mg "There" = some (.ref A.c_There)
  c_WeaveError : mg "WeaveError" = some (.ref A.c_WeaveError)
  x_BadThing : PySem.W.excIn K A.c_BadThing [.type "ValueError", .type "Exception", .type "BaseException", .type "object"] "ValueError.__new__" = true
  k_BadThing : PySem.W.keepIn K (.ref A.c_BadThing) = true
  s_BadThing : PySem.W.subIn K (.ref A.c_BadThing) (.type "BaseException") = some true
  t_BadThing : PySem.W.typeIn K (.ref A.c_BadThing) = some (.type "type")
  exm_BadThing : PySem.W.exmOne K (.ref A.c_BadThing) (.ref A.c_WeaveError) = some true
  ec_BadThing : ExcC K A.c_BadThing
  kit_BadThing__BadRule : PySem.W.kitOne K (.ref A.c_BadThing) (.ref A.c_BadRule) = some false
  kit_BadThing__BadThing : PySem.W.kitOne K (.ref A.c_BadThing) (.ref A.c_BadThing) = some true
  kit_BadThing__NoCount : PySem.W.kitOne K (.ref A.c_BadThing) (.ref A.c_NoCount) = some false
  kit_BadThing__NoRule : PySem.W.kitOne K (.ref A.c_BadThing) (.ref A.c_NoRule) = some false
  kit_BadThing__NotThere : PySem.W.kitOne K (.ref A.c_BadThing) (.ref A.c_NotThere) = some false
  kit_BadThing__There : PySem.W.kitOne K (.ref A.c_BadThing) (.ref A.c_There) = some false
  kit_BadThing__ValueError : PySem.W.kitOne K (.ref A.c_BadThing) (.type "ValueError") = some true
section
variable {P : Program} {w : World} {K : PySem.W.Frag} {mg : Str → Option Value} {base : Heap} {A : Ad}
theorem sc_is_whole : FnScope ["thing"] ["thing"] (defScope s_is_whole) := ⟨rfl, rfl, rfl, by decide +kernel, rfl, by decide +kernel, by decide +kernel⟩
theorem ok_is_whole (T : Txt K mg A) : FnOk P w K mg base (L2.CX P w) 2 A.a_is_whole A.fd_is_whole ["thing"] (spM ⟨P, w, K, mg⟩ 1 f_is_whole) := (fn_mir (N := ["thing"]) (ps := ["thing"]) (k := 1) T.F_is_whole sc_is_whole (by decide) (m := m_is_whole) fun cdv _ outer s H E hr => mss_one (ms_ret (me_and (me_isD (T := "int") T.b_isinstance T.b_int rfl (by decide) (me_var 0 (pv 0))) (me_one (me_not (me_isD (T := "bool") T.b_isinstance T.b_bool rfl (by decide) (me_var 0 (pv 0))))))))
theorem sc_is_name : FnScope ["thing", "sign"] ["thing"] (defScope s_is_name) := ⟨rfl, rfl, rfl, by decide +kernel, rfl, by decide +kernel, by decide +kernel⟩
theorem ok_is_name (T : Txt K mg A) : FnOk P w K mg base (L2.CX P w) 2 A.a_is_name A.fd_is_name ["thing"] (spM ⟨P, w, K, mg⟩ 1 f_is_name) := (fn_mir (N := ["thing", "sign"]) (ps := ["thing"]) (k := 1) T.F_is_name sc_is_name (by decide) (m := m_is_name) fun cdv _ outer s H E hr => mss_cons (ms_if (mt_bool (mw_or (mt_not (mt_val (me_isD (T := "str") T.b_isinstance T.b_str rfl (by decide) (me_var 0 (pv 0))))) (mw_or1 (mt_not (mt_chain op_le op_le (me_int) (me_len T.b_len (me_var 0 (pv 0))) (me_globI (T.v_MOST_LETTERS.choose_spec))))))) (mss_one (ms_ret (me_bl))) (mss_nil)) (mss_one (ms_ret (me_all rfl T.b_all (me_fz (ml_lc rfl sc_is_name.nd (mi_seq (me_var 0 (pv 0))) (blkOk_by (own := [("sign", 1)]) rfl) (fun _ _ _ _ _ => mg_name (i := 1) sc_is_name.nd) (fun _ _ _ _ _ => mts_nil) (fun _ _ _ _ _ => me_inT (me_var 1 (pv 1)) (me_globS (T.v_SMALL.choose_spec))) (by decide)))))))
theorem sc_is_word : FnScope ["thing", "sign"] ["thing"] (defScope s_is_word) := ⟨rfl, rfl, rfl, by decide +kernel, rfl, by decide +kernel, by decide +kernel⟩
theorem ok_is_word (T : Txt K mg A) : FnOk P w K mg base (L2.CX P w) 2 A.a_is_word A.fd_is_word ["thing"] (spM ⟨P, w, K, mg⟩ 1 f_is_word) := (fn_mir (N := ["thing", "sign"]) (ps := ["thing"]) (k := 1) T.F_is_word sc_is_word (by decide) (m := m_is_word) fun cdv _ outer s H E hr => mss_cons (ms_if (mt_bool (mw_or (mt_not (mt_val (me_isD (T := "str") T.b_isinstance T.b_str rfl (by decide) (me_var 0 (pv 0))))) (mw_or1 (mt_not (mt_chain op_le op_le (me_int) (me_len T.b_len (me_var 0 (pv 0))) (me_globI (T.v_MOST_LETTERS.choose_spec))))))) (mss_one (ms_ret (me_bl))) (mss_nil)) (mss_one (ms_ret (me_and (me_inT (me_ix (me_var 0 (pv 0)) (me_int)) (me_globS (T.v_GREAT.choose_spec))) (me_one (me_all rfl T.b_all (me_fz (ml_lc rfl sc_is_word.nd (mi_seq (me_slice (me_var 0 (pv 0)) (mo_some (me_int)) (mo_none))) (blkOk_by (own := [("sign", 1)]) rfl) (fun _ _ _ _ _ => mg_name (i := 1) sc_is_word.nd) (fun _ _ _ _ _ => mts_nil) (fun _ _ _ _ _ => me_inT (me_var 1 (pv 1)) (me_globS (T.v_SMALL.choose_spec))) (by decide)))))))))
theorem sc_is_value : FnScope ["thing"] ["thing"] (defScope s_is_value) := ⟨rfl, rfl, rfl, by decide +kernel, rfl, by decide +kernel, by decide +kernel⟩
theorem ok_is_value (T : Txt K mg A) : FnOk P w K mg base (L2.CX P w) 3 A.a_is_value A.fd_is_value ["thing"] (spM ⟨P, w, K, mg⟩ 1 f_is_value) := (fn_mir (N := ["thing"]) (ps := ["thing"]) (k := 2) T.F_is_value sc_is_value (by decide) (m := m_is_value) fun cdv _ outer s H E hr => mss_one (ms_ret (me_or (me_call (ok_is_name T) rfl (by exact hr.mono (by decide)) (by rfl) T.g_is_name T.F_is_name.kp T.B_is_name (takes_of rfl rfl rfl rfl) (ma_cons (me_var 0 (pv 0)) (ma_nil)) (len_cons (len_nil))) (me_one (me_and (me_call (ok_is_whole T) rfl (by exact hr.mono (by decide)) (by rfl) T.g_is_whole T.F_is_whole.kp T.B_is_whole (takes_of rfl rfl rfl rfl) (ma_cons (me_var 0 (pv 0)) (ma_nil)) (len_cons (len_nil))) (me_one (me_chain op_le op_le (me_neg (me_globI (T.v_MOST_NUMBER.choose_spec))) (me_var 0 (pv 0)) (me_globI (T.v_MOST_NUMBER.choose_spec)))))))))
theorem sc_is_row : FnScope ["thing"] ["thing"] (defScope s_is_row) := ⟨rfl, rfl, rfl, by decide +kernel, rfl, by decide +kernel, by decide +kernel⟩
theorem ok_is_row (T : Txt K mg A) : FnOk P w K mg base (L2.CX P w) 3 A.a_is_row A.fd_is_row ["thing"] (spM ⟨P, w, K, mg⟩ 1 f_is_row) := (fn_mir (N := ["thing"]) (ps := ["thing"]) (k := 2) T.F_is_row sc_is_row (by decide) (m := m_is_row) fun cdv _ outer s H E hr => mss_one (ms_ret (me_and (me_isD (T := "tuple") T.b_isinstance T.b_tuple rfl (by decide) (me_var 0 (pv 0))) (me_and (me_chain op_le op_le (me_int) (me_len T.b_len (me_var 0 (pv 0))) (me_add (me_int) (me_globI (T.v_MOST_VALUES.choose_spec)))) (me_one (me_call (ok_is_name T) rfl (by exact hr.mono (by decide)) (by rfl) T.g_is_name T.F_is_name.kp T.B_is_name (takes_of rfl rfl rfl rfl) (ma_cons (me_ix (me_var 0 (pv 0)) (me_int)) (ma_nil)) (len_cons (len_nil))))))))
theorem sc_is_thing : FnScope ["thing", "one"] ["thing"] (defScope s_is_thing) := ⟨rfl, rfl, rfl, by decide +kernel, rfl, by decide +kernel, by decide +kernel⟩
theorem ok_is_thing (T : Txt K mg A) : FnOk P w K mg base (L2.CX P w) 4 A.a_is_thing A.fd_is_thing ["thing"] (spM ⟨P, w, K, mg⟩ 1 f_is_thing) := (fn_mir (N := ["thing", "one"]) (ps := ["thing"]) (k := 3) T.F_is_thing sc_is_thing (by decide) (m := m_is_thing) fun cdv _ outer s H E hr => mss_one (ms_ret (me_and (me_call (ok_is_row T) rfl (by exact hr.mono (by decide)) (by rfl) T.g_is_row T.F_is_row.kp T.B_is_row (takes_of rfl rfl rfl rfl) (ma_cons (me_var 0 (pv 0)) (ma_nil)) (len_cons (len_nil))) (me_one (me_all rfl T.b_all (me_fz (ml_lc rfl sc_is_thing.nd (mi_seq (me_slice (me_var 0 (pv 0)) (mo_some (me_int)) (mo_none))) (blkOk_by (own := [("one", 1)]) rfl) (fun _ _ _ _ _ => mg_name (i := 1) sc_is_thing.nd) (fun _ _ _ _ _ => mts_nil) (fun _ _ _ _ _ => me_call (ok_is_value T) rfl (by exact hr.mono (by decide)) (by rfl) T.g_is_value T.F_is_value.kp T.B_is_value takes0 (ma_cons (me_var 1 (pv 1)) (ma_nil)) (len_cons (len_nil))) (by decide))))))))
theorem sc_is_pattern : FnScope ["thing", "one"] ["thing"] (defScope s_is_pattern) := ⟨rfl, rfl, rfl, by decide +kernel, rfl, by decide +kernel, by decide +kernel⟩
theorem ok_is_pattern (T : Txt K mg A) : FnOk P w K mg base (L2.CX P w) 4 A.a_is_pattern A.fd_is_pattern ["thing"] (spM ⟨P, w, K, mg⟩ 1 f_is_pattern) := (fn_mir (N := ["thing", "one"]) (ps := ["thing"]) (k := 3) T.F_is_pattern sc_is_pattern (by decide) (m := m_is_pattern) fun cdv _ outer s H E hr => mss_one (ms_ret (me_and (me_call (ok_is_row T) rfl (by exact hr.mono (by decide)) (by rfl) T.g_is_row T.F_is_row.kp T.B_is_row (takes_of rfl rfl rfl rfl) (ma_cons (me_var 0 (pv 0)) (ma_nil)) (len_cons (len_nil))) (me_one (me_all rfl T.b_all (me_fz (ml_lc rfl sc_is_pattern.nd (mi_seq (me_slice (me_var 0 (pv 0)) (mo_some (me_int)) (mo_none))) (blkOk_by (own := [("one", 1)]) rfl) (fun _ _ _ _ _ => mg_name (i := 1) sc_is_pattern.nd) (fun _ _ _ _ _ => mts_nil) (fun _ _ _ _ _ => me_or (me_call (ok_is_value T) rfl (by exact hr.mono (by decide)) (by rfl) T.g_is_value T.F_is_value.kp T.B_is_value takes0 (ma_cons (me_var 1 (pv 1)) (ma_nil)) (len_cons (len_nil))) (me_one (me_call (ok_is_word T) rfl (by exact hr.mono (by decide)) (by rfl) T.g_is_word T.F_is_word.kp T.B_is_word takes0 (ma_cons (me_var 1 (pv 1)) (ma_nil)) (len_cons (len_nil))))) (by decide))))))))
theorem sc_need_thing : FnScope ["thing"] ["thing"] (defScope s_need_thing) := ⟨rfl, rfl, rfl, by decide +kernel, rfl, by decide +kernel, by decide +kernel⟩
theorem ok_need_thing (T : Txt K mg A) : FnOk P w K mg base (L2.CX P w) 5 A.a_need_thing A.fd_need_thing ["thing"] (spM ⟨P, w, K, mg⟩ 1 f_need_thing) := (fn_mir (N := ["thing"]) (ps := ["thing"]) (k := 4) T.F_need_thing sc_need_thing (by decide) (m := m_need_thing) fun cdv _ outer s H E hr => mss_cons (ms_if (mt_not (mt_val (me_call (ok_is_thing T) rfl (by exact hr.mono (by decide)) (by rfl) T.g_is_thing T.F_is_thing.kp T.B_is_thing (takes_of rfl rfl rfl rfl) (ma_cons (me_var 0 (pv 0)) (ma_nil)) (len_cons (len_nil))))) (mss_one (ms_raise rfl (takes_of rfl rfl rfl rfl) (pmk_own PySem.F.excBase_ValueError T.x_BadThing T.c_BadThing T.k_BadThing (raises_own T.s_BadThing T.t_BadThing) rfl) T.c_BadThing)) (mss_nil)) (mss_one (ms_ret (me_var 0 (pv 0)))))
theorem sc__law_at : FnScope ["_law_script", "_law_k"] ["_law_script", "_law_k"] (defScope s__law_at) := ⟨rfl, rfl, rfl, by decide +kernel, rfl, by decide +kernel, by decide +kernel⟩
theorem ok__law_at (T : Txt K mg A) : FnOk P w K mg base (L2.CX P w) 2 A.a__law_at A.fd__law_at ["_law_script", "_law_k"] (spM ⟨P, w, K, mg⟩ 2 f__law_at) := (fn_mir (N := ["_law_script", "_law_k"]) (ps := ["_law_script", "_law_k"]) (k := 1) T.F__law_at sc__law_at (by decide) (m := m__law_at) fun cdv _ outer s H E hr => mss_cons (ms_if (mt_lt (me_var 1 (pv 1)) (me_len T.b_len (me_var 0 (pv 0)))) (mss_one (ms_ret (me_ix (me_var 0 (pv 0)) (me_var 1 (pv 1))))) (mss_nil)) (mss_one (ms_ret (me_int))))
theorem sc__law_text : FnScope ["_law_cell", "_law_letters_here", "_law_size", "_law_text_here", "_law_signs", "_law_at_here", "_law_sign", "_law_k"] ["_law_cell"] (defScope s__law_text) := ⟨rfl, rfl, rfl, by decide +kernel, rfl, by decide +kernel, by decide +kernel⟩
theorem ok__law_text (T : Txt K mg A) : FnOk P w K mg base (L2.CX P w) 2 A.a__law_text A.fd__law_text ["_law_cell"] (spM ⟨P, w, K, mg⟩ 1 f__law_text) := (fn_mir (N := ["_law_cell", "_law_letters_here", "_law_size", "_law_text_here", "_law_signs", "_law_at_here", "_law_sign", "_law_k"]) (ps := ["_law_cell"]) (k := 1) T.F__law_text sc__law_text (by decide) (m := m__law_text) fun cdv _ outer s H E hr => mss_cons (ms_set (i := 1) sc__law_text.nd (me_str)) (mss_cons (ms_set (i := 2) sc__law_text.nd (me_ix (me_fz (ml_lst (ma_cons (me_int) (ma_cons (me_int) (ma_cons (me_int) (ma_cons (me_int) (ma_cons (me_int) (ma_cons (me_int) (ma_cons (me_int) (ma_nil)))))))))) (me_mod (me_var 0 (pv 0)) (me_int)))) (mss_cons (ms_set (i := 3) sc__law_text.nd (me_join (me_str) (me_fz (ml_lc rfl sc__law_text.nd (mi_range1 (by rfl) T.b_range (ma_cons (me_var 2 (pv 2)) (ma_nil))) (blkOk_by (own := [("_law_k", 7)]) rfl) (fun _ _ _ _ _ => mg_name (i := 7) sc__law_text.nd) (fun _ _ _ _ _ => mts_nil) (fun _ _ _ _ _ => me_ix (me_var 1 (pv 1)) (me_mod (me_add (me_div (me_var 0 (pv 0)) (me_int)) (me_mul (me_int) (me_var 7 (pv 7)))) (me_int))) (by decide))))) (mss_cons (ms_if (mt_eq (by have q := hu64 hr; exact q) (me_mod (me_div (me_var 0 (pv 0)) (me_int)) (me_int)) (me_int)) (mss_one (ms_set (i := 3) sc__law_text.nd (me_add (me_upper (me_slice (me_var 3 (pv 3)) (mo_none) (mo_some (me_int)))) (me_slice (me_var 3 (pv 3)) (mo_some (me_int)) (mo_none))))) (mss_nil)) (mss_cons (ms_if (mt_eq (by have q := hu64 hr; exact q) (me_mod (me_div (me_var 0 (pv 0)) (me_int)) (me_int)) (me_int)) (mss_cons (ms_set (i := 4) sc__law_text.nd (me_add (me_str) (me_upper (me_var 1 (pv 1))))) (mss_cons (ms_set (i := 5) sc__law_text.nd (me_mod (me_div (me_var 0 (pv 0)) (me_int)) (me_add (me_len T.b_len (me_var 3 (pv 3))) (me_int)))) (mss_cons (ms_set (i := 6) sc__law_text.nd (me_ix (me_var 4 (pv 4)) (me_mod (me_div (me_var 0 (pv 0)) (me_int)) (me_len T.b_len (me_var 4 (pv 4)))))) (mss_one (ms_set (i := 3) sc__law_text.nd (me_add (me_add (me_slice (me_var 3 (pv 3)) (mo_none) (mo_some (me_var 5 (pv 5)))) (me_var 6 (pv 6))) (me_slice (me_var 3 (pv 3)) (mo_some (me_add (me_var 5 (pv 5)) (me_int))) (mo_none)))))))) (mss_nil)) (mss_one (ms_ret (me_var 3 (pv 3)))))))))
theorem sc__law_part : FnScope ["_law_cell", "_law_near"] ["_law_cell"] (defScope s__law_part) := ⟨rfl, rfl, rfl, by decide +kernel, rfl, by decide +kernel, by decide +kernel⟩
theorem ok__law_part (T : Txt K mg A) : FnOk P w K mg base (L2.CX P w) 3 A.a__law_part A.fd__law_part ["_law_cell"] (spM ⟨P, w, K, mg⟩ 1 f__law_part) := (fn_mir (N := ["_law_cell", "_law_near"]) (ps := ["_law_cell"]) (k := 2) T.F__law_part sc__law_part (by decide) (m := m__law_part) fun cdv _ outer s H E hr => mss_cons (ms_if (mt_lt (me_mod (me_var 0 (pv 0)) (me_int)) (me_int)) (mss_one (ms_ret (me_call (ok__law_text T) rfl (by exact hr.mono (by decide)) (by rfl) T.g__law_text T.F__law_text.kp T.B__law_text (takes_of rfl rfl rfl rfl) (ma_cons (me_div (me_var 0 (pv 0)) (me_int)) (ma_nil)) (len_cons (len_nil))))) (mss_nil)) (mss_cons (ms_if (mt_eq (by have q := hu64 hr; exact q) (me_mod (me_var 0 (pv 0)) (me_int)) (me_int)) (mss_cons (ms_set (i := 1) sc__law_part.nd (me_fz (ml_lst (ma_cons (me_int) (ma_cons (me_int) (ma_cons (me_int) (ma_cons (me_neg (me_int)) (ma_cons (me_neg (me_int)) (ma_cons (me_int) (ma_cons (me_neg (me_int)) (ma_nil))))))))))) (mss_one (ms_ret (me_add (me_ix (me_var 1 (pv 1)) (me_mod (me_div (me_var 0 (pv 0)) (me_int)) (me_int))) (me_mul (me_mod (me_div (me_var 0 (pv 0)) (me_int)) (me_int)) (me_div (me_var 0 (pv 0)) (me_int))))))) (mss_nil)) (mss_one (ms_ret (me_ix (me_fz (ml_lst (ma_cons (me_bl) (ma_cons (me_non) (ma_cons (me_fz (ml_lst (ma_cons (me_str) (ma_nil)))) (ma_cons (me_tup (ma_cons (me_str) (ma_nil))) (ma_cons (me_empD) (ma_cons (me_powc (i := 10) (j := 30) (k := 1000000000000000000000000000000) (by decide +kernel) (by decide +kernel)) (ma_cons (me_bl) (ma_nil)))))))))) (me_mod (me_div (me_var 0 (pv 0)) (me_int)) (me_int)))))))
theorem sc__law_letters : FnScope ["_law_thing", "_law_first", "_law_small", "_law_sign"] ["_law_thing", "_law_first"] (defScope s__law_letters) := ⟨rfl, rfl, rfl, by decide +kernel, rfl, by decide +kernel, by decide +kernel⟩
theorem ok__law_letters (T : Txt K mg A) : FnOk P w K mg base (L2.CX P w) 2 A.a__law_letters A.fd__law_letters ["_law_thing", "_law_first"] (spM ⟨P, w, K, mg⟩ 2 f__law_letters) := (fn_mir (N := ["_law_thing", "_law_first", "_law_small", "_law_sign"]) (ps := ["_law_thing", "_law_first"]) (k := 1) T.F__law_letters sc__law_letters (by decide) (m := m__law_letters) fun cdv _ outer s H E hr => mss_cons (ms_if (mt_bool (mw_or (mt_not (mt_val (me_isD (T := "str") T.b_isinstance T.b_str rfl (by decide) (me_var 0 (pv 0))))) (mw_or (mt_lt (me_len T.b_len (me_var 0 (pv 0))) (me_int)) (mw_or1 (mt_gt (me_len T.b_len (me_var 0 (pv 0))) (me_int)))))) (mss_one (ms_ret (me_bl))) (mss_nil)) (mss_cons (ms_set (i := 2) sc__law_letters.nd (me_str)) (mss_cons (ms_if (mt_ninT (me_ix (me_var 0 (pv 0)) (me_int)) (me_ix (me_fz (ml_lst (ma_cons (me_var 2 (pv 2)) (ma_cons (me_upper (me_var 2 (pv 2))) (ma_nil))))) (me_intD T.b_int (me_var 1 (pv 1))))) (mss_one (ms_ret (me_bl))) (mss_nil)) (mss_one (ms_ret (me_eq (by have q := hu64 hr; exact q) (me_fz (ml_lc rfl sc__law_letters.nd (mi_seq (me_slice (me_var 0 (pv 0)) (mo_some (me_int)) (mo_none))) (blkOk_by (own := [("_law_sign", 3)]) rfl) (fun _ _ _ _ _ => mg_name (i := 3) sc__law_letters.nd) (fun _ _ _ _ _ => mts_one (mt_ninT (me_var 3 (pv 3)) (me_var 2 (pv 2)))) (fun _ _ _ _ _ => me_var 3 (pv 3)) (by decide))) (me_fz (ml_lst (ma_nil)))))))))
theorem sc__law_value : FnScope ["_law_thing"] ["_law_thing"] (defScope s__law_value) := ⟨rfl, rfl, rfl, by decide +kernel, rfl, by decide +kernel, by decide +kernel⟩
theorem ok__law_value (T : Txt K mg A) : FnOk P w K mg base (L2.CX P w) 3 A.a__law_value A.fd__law_value ["_law_thing"] (spM ⟨P, w, K, mg⟩ 1 f__law_value) := (fn_mir (N := ["_law_thing"]) (ps := ["_law_thing"]) (k := 2) T.F__law_value sc__law_value (by decide) (m := m__law_value) fun cdv _ outer s H E hr => mss_cons (ms_if (mt_val (me_call (ok__law_letters T) rfl (by exact hr.mono (by decide)) (by rfl) T.g__law_letters T.F__law_letters.kp T.B__law_letters (takes_of rfl rfl rfl rfl) (ma_cons (me_var 0 (pv 0)) (ma_cons (me_bl) (ma_nil))) (len_cons (len_cons (len_nil))))) (mss_one (ms_ret (me_bl))) (mss_nil)) (mss_cons (ms_if (mt_bool (mw_or (mt_not (mt_val (me_isD (T := "int") T.b_isinstance T.b_int rfl (by decide) (me_var 0 (pv 0))))) (mw_or1 (mt_val (me_isD (T := "bool") T.b_isinstance T.b_bool rfl (by decide) (me_var 0 (pv 0))))))) (mss_one (ms_ret (me_bl))) (mss_nil)) (mss_one (ms_ret (me_and (me_not (me_gt (me_var 0 (pv 0)) (me_int))) (me_one (me_not (me_lt (me_var 0 (pv 0)) (me_neg (me_int))))))))))
theorem sc__law_row : FnScope ["_law_thing", "_law_words", "_law_part_here"] ["_law_thing", "_law_words"] (defScope s__law_row) := ⟨rfl, rfl, rfl, by decide +kernel, rfl, by decide +kernel, by decide +kernel⟩
theorem ok__law_row (T : Txt K mg A) : FnOk P w K mg base (L2.CX P w) 4 A.a__law_row A.fd__law_row ["_law_thing", "_law_words"] (spM ⟨P, w, K, mg⟩ 2 f__law_row) := (fn_mir (N := ["_law_thing", "_law_words", "_law_part_here"]) (ps := ["_law_thing", "_law_words"]) (k := 3) T.F__law_row sc__law_row (by decide) (m := m__law_row) fun cdv _ outer s H E hr => mss_cons (ms_if (mt_bool (mw_or (mt_not (mt_val (me_isD (T := "tuple") T.b_isinstance T.b_tuple rfl (by decide) (me_var 0 (pv 0))))) (mw_or (mt_not (mt_chain op_lt op_lt (me_int) (me_len T.b_len (me_var 0 (pv 0))) (me_int))) (mw_or1 (mt_not (mt_val (me_call (ok__law_letters T) rfl (by exact hr.mono (by decide)) (by rfl) T.g__law_letters T.F__law_letters.kp T.B__law_letters (takes_of rfl rfl rfl rfl) (ma_cons (me_ix (me_var 0 (pv 0)) (me_int)) (ma_cons (me_bl) (ma_nil))) (len_cons (len_cons (len_nil)))))))))) (mss_one (ms_ret (me_bl))) (mss_nil)) (mss_cons (ms_for (passes_of rfl) rfl (mi_seq (me_slice (me_var 0 (pv 0)) (mo_some (me_int)) (mo_none))) (mg_name (i := 2) sc__law_row.nd) (mss_one (ms_if (mt_bool (mw_and (mt_not (mt_val (me_call (ok__law_value T) rfl (by exact hr.mono (by decide)) (by rfl) T.g__law_value T.F__law_value.kp T.B__law_value (takes_of rfl rfl rfl rfl) (ma_cons (me_var 2 (pv 2)) (ma_nil)) (len_cons (len_nil))))) (mw_and1 (mt_not (mt_bool (mw_and (mt_val (me_var 1 (pv 1))) (mw_and1 (mt_val (me_call (ok__law_letters T) rfl (by exact hr.mono (by decide)) (by rfl) T.g__law_letters T.F__law_letters.kp T.B__law_letters (takes_of rfl rfl rfl rfl) (ma_cons (me_var 2 (pv 2)) (ma_cons (me_bl) (ma_nil))) (len_cons (len_cons (len_nil)))))))))))) (mss_one (ms_ret (me_bl))) (mss_nil)))) (mss_one (ms_ret (me_bl)))))
theorem sc__law_same : FnScope ["_law_found", "_law_due"] ["_law_found", "_law_due"] (defScope s__law_same) := ⟨rfl, rfl, rfl, by decide +kernel, rfl, by decide +kernel, by decide +kernel⟩
theorem ok__law_same (T : Txt K mg A) : FnOk P w K mg base (L2.CX P w) 2 A.a__law_same A.fd__law_same ["_law_found", "_law_due"] (spM ⟨P, w, K, mg⟩ 2 f__law_same) := (fn_mir (N := ["_law_found", "_law_due"]) (ps := ["_law_found", "_law_due"]) (k := 1) T.F__law_same sc__law_same (by decide) (m := m__law_same) fun cdv _ outer s H E hr => mss_one (ms_ret (me_and (me_isD (T := "bool") T.b_isinstance T.b_bool rfl (by decide) (me_var 0 (pv 0))) (me_one (me_eq (by have q := hu64 hr; exact q) (me_var 0 (pv 0)) (me_var 1 (pv 1)))))))
theorem sc__law_refused : FnScope ["_law_thing", "e", "_law_others"] ["_law_thing"] (defScope s__law_refused) := ⟨rfl, rfl, rfl, by decide +kernel, rfl, by decide +kernel, by decide +kernel⟩
theorem ok__law_refused (T : Txt K mg A) : FnOk P w K mg base (L2.CX P w) 6 A.a__law_refused A.fd__law_refused ["_law_thing"] (spM ⟨P, w, K, mg⟩ 1 f__law_refused) := (fn_mir (N := ["_law_thing", "e", "_law_others"]) (ps := ["_law_thing"]) (k := 5) T.F__law_refused sc__law_refused (by decide) (m := m__law_refused) fun cdv _ outer s H E hr => mss_cons (ms_try (m := (mDrop (mCall f_need_thing (mCons (mVar 0) (mNil))))) (hms := hs__law_refused) (i := 1) (l := 3) rfl rfl rfl sc__law_refused.nd rfl rfl (names_of rfl (by decide) T.c_WeaveError) (takes_of rfl rfl rfl rfl) (fun W pn xe tk hp => mss_one (ms_expr (me_call (ok_need_thing T) rfl (by exact hr.mono (by decide)) (by rfl) T.g_need_thing T.F_need_thing.kp T.B_need_thing tk (ma_cons (me_var 0 (pv 0)) (ma_nil)) (len_cons (len_nil))))) (tc_cons ⟨A.c_BadThing, T.c_BadThing, fun a oe pn hz hf => mss_cons (ms_set (i := 2) sc__law_refused.nd (me_fz (ml_lst (ma_cons (me_isE T.ec_BadThing hz hf (pv 1) T.b_isinstance T.c_BadRule T.kit_BadThing__BadRule) (ma_cons (me_isE T.ec_BadThing hz hf (pv 1) T.b_isinstance T.c_There T.kit_BadThing__There) (ma_cons (me_isE T.ec_BadThing hz hf (pv 1) T.b_isinstance T.c_NotThere T.kit_BadThing__NotThere) (ma_cons (me_isE T.ec_BadThing hz hf (pv 1) T.b_isinstance T.c_NoCount T.kit_BadThing__NoCount) (ma_nil)))))))) (mss_cons (ms_if (mt_bool (mw_or (mt_in (by have q := hu65 hr; exact q) (me_bl) (me_var 2 (pv 2))) (mw_or (mt_val (me_isE T.ec_BadThing hz hf (pv 1) T.b_isinstance T.c_NoRule T.kit_BadThing__NoRule)) (mw_or1 (mt_not (mt_val (me_isEB T.ec_BadThing hz hf (pv 1) T.b_isinstance T.b_ValueError rfl T.kit_BadThing__ValueError))))))) (mss_one (ms_ret (me_bl))) (mss_nil)) (mss_one (ms_ret (me_isE T.ec_BadThing hz hf (pv 1) T.b_isinstance T.c_BadThing T.kit_BadThing__BadThing)))), T.exm_BadThing, hpar__law_refused_BadThing⟩ (tc_nil))) (mss_one (ms_ret (me_bl))))
theorem sc_law : FnScope ["_law_script", "_law_parts", "_law_part_here", "_law_thing", "_law_due", "_law_k"] ["_law_script"] (defScope s_law) := ⟨rfl, rfl, rfl, by decide +kernel, rfl, by decide +kernel, by decide +kernel⟩
theorem ok_law (T : Txt K mg A) : FnOk P w K mg base (L2.CX P w) 7 A.a_law A.fd_law ["_law_script"] (spM ⟨P, w, K, mg⟩ 1 f_law) := (fn_mir (N := ["_law_script", "_law_parts", "_law_part_here", "_law_thing", "_law_due", "_law_k"]) (ps := ["_law_script"]) (k := 6) T.F_law sc_law (by decide) (m := m_law) fun cdv _ outer s H E hr => mss_cons (ms_setLcF (i := 1) rfl sc_law.nd rfl rfl (sw_true rfl rfl rfl rfl) (mi_range1 (by rfl) T.b_range (ma_cons (me_mod (me_call (ok__law_at T) rfl (by exact hr.mono (by decide)) (by rfl) T.g__law_at T.F__law_at.kp T.B__law_at (takes_of rfl rfl rfl rfl) (ma_cons (me_var 0 (pv 0)) (ma_cons (me_int) (ma_nil))) (len_cons (len_cons (len_nil)))) (me_int)) (ma_nil))) (blkOk_by (own := [("_law_k", 5)]) rfl) (fun _ _ _ _ _ => mg_name (i := 5) sc_law.nd) (fun _ _ _ _ _ => mts_nil) (fun _ _ _ _ _ => me_call (ok__law_part T) rfl (by exact hr.mono (by decide)) (by rfl) T.g__law_part T.F__law_part.kp T.B__law_part takes0 (ma_cons (me_mod (me_mul (me_call (ok__law_at T) rfl (by exact hr.mono (by decide)) (by rfl) T.g__law_at T.F__law_at.kp T.B__law_at takes0 (ma_cons (me_var 0 (pv 0)) (ma_cons (me_add (me_int) (me_var 5 (pv 5))) (ma_nil))) (len_cons (len_cons (len_nil)))) (me_int)) (me_int)) (ma_nil)) (len_cons (len_nil))) (by decide)) (mss_cons (ms_if (mt_eq (by have q := hu64 hr; exact q) (me_mod (me_div (me_call (ok__law_at T) rfl (by exact hr.mono (by decide)) (by rfl) T.g__law_at T.F__law_at.kp T.B__law_at (takes_of rfl rfl rfl rfl) (ma_cons (me_var 0 (pv 0)) (ma_cons (me_int) (ma_nil))) (len_cons (len_cons (len_nil)))) (me_int)) (me_int)) (me_int)) (mss_one (ms_set (i := 1) sc_law.nd (me_fz (ml_cat (me_fz (ml_lst (ma_cons (me_ix (me_fz (ml_lst (ma_cons (me_str) (ma_cons (me_str) (ma_cons (me_str) (ma_nil)))))) (me_mod (me_call (ok__law_at T) rfl (by exact hr.mono (by decide)) (by rfl) T.g__law_at T.F__law_at.kp T.B__law_at (takes_of rfl rfl rfl rfl) (ma_cons (me_var 0 (pv 0)) (ma_cons (me_int) (ma_nil))) (len_cons (len_cons (len_nil)))) (me_int))) (ma_nil)))) (me_slice (me_var 1 (pv 1)) (mo_some (me_int)) (mo_none)))))) (mss_nil)) (mss_cons (ms_if (mt_eq (by have q := hu64 hr; exact q) (me_mod (me_div (me_call (ok__law_at T) rfl (by exact hr.mono (by decide)) (by rfl) T.g__law_at T.F__law_at.kp T.B__law_at (takes_of rfl rfl rfl rfl) (ma_cons (me_var 0 (pv 0)) (ma_cons (me_int) (ma_nil))) (len_cons (len_cons (len_nil)))) (me_int)) (me_int)) (me_int)) (mss_one (ms_setLcF (i := 1) rfl sc_law.nd rfl rfl (sw_true rfl rfl rfl rfl) (mi_seq (me_var 1 (pv 1))) (blkOk_by (own := [("_law_part_here", 2)]) rfl) (fun _ _ _ _ _ => mg_name (i := 2) sc_law.nd) (fun _ _ _ _ _ => mts_one (mt_bool (mw_or (mt_val (me_call (ok__law_value T) rfl (by exact hr.mono (by decide)) (by rfl) T.g__law_value T.F__law_value.kp T.B__law_value takes0 (ma_cons (me_var 2 (pv 2)) (ma_nil)) (len_cons (len_nil)))) (mw_or1 (mt_val (me_call (ok__law_letters T) rfl (by exact hr.mono (by decide)) (by rfl) T.g__law_letters T.F__law_letters.kp T.B__law_letters takes0 (ma_cons (me_var 2 (pv 2)) (ma_cons (me_bl) (ma_nil))) (len_cons (len_cons (len_nil))))))))) (fun _ _ _ _ _ => me_var 2 (pv 2)) (by decide))) (mss_nil)) (mss_cons (ms_for (passes_of rfl) rfl (mi_seq (me_fz (ml_cat (me_var 1 (pv 1)) (me_fz (ml_lst (ma_cons (me_call (ok__law_text T) rfl (by exact hr.mono (by decide)) (by rfl) T.g__law_text T.F__law_text.kp T.B__law_text (takes_of rfl rfl rfl rfl) (ma_cons (me_mod (me_mul (me_call (ok__law_at T) rfl (by exact hr.mono (by decide)) (by rfl) T.g__law_at T.F__law_at.kp T.B__law_at (takes_of rfl rfl rfl rfl) (ma_cons (me_var 0 (pv 0)) (ma_cons (me_int) (ma_nil))) (len_cons (len_cons (len_nil)))) (me_int)) (me_int)) (ma_nil)) (len_cons (len_nil))) (ma_nil))))))) (mg_name (i := 2) sc_law.nd) (mss_cons (ms_if (mt_not (mt_val (me_call (ok__law_same T) rfl (by exact hr.mono (by decide)) (by rfl) T.g__law_same T.F__law_same.kp T.B__law_same (takes_of rfl rfl rfl rfl) (ma_cons (me_call (ok_is_name T) rfl (by exact hr.mono (by decide)) (by rfl) T.g_is_name T.F_is_name.kp T.B_is_name (takes_of rfl rfl rfl rfl) (ma_cons (me_var 2 (pv 2)) (ma_nil)) (len_cons (len_nil))) (ma_cons (me_call (ok__law_letters T) rfl (by exact hr.mono (by decide)) (by rfl) T.g__law_letters T.F__law_letters.kp T.B__law_letters (takes_of rfl rfl rfl rfl) (ma_cons (me_var 2 (pv 2)) (ma_cons (me_bl) (ma_nil))) (len_cons (len_cons (len_nil)))) (ma_nil))) (len_cons (len_cons (len_nil)))))) (mss_one (ms_ret (me_bl))) (mss_nil)) (mss_one (ms_if (mt_bool (mw_or (mt_not (mt_val (me_call (ok__law_same T) rfl (by exact hr.mono (by decide)) (by rfl) T.g__law_same T.F__law_same.kp T.B__law_same (takes_of rfl rfl rfl rfl) (ma_cons (me_call (ok_is_word T) rfl (by exact hr.mono (by decide)) (by rfl) T.g_is_word T.F_is_word.kp T.B_is_word (takes_of rfl rfl rfl rfl) (ma_cons (me_var 2 (pv 2)) (ma_nil)) (len_cons (len_nil))) (ma_cons (me_call (ok__law_letters T) rfl (by exact hr.mono (by decide)) (by rfl) T.g__law_letters T.F__law_letters.kp T.B__law_letters (takes_of rfl rfl rfl rfl) (ma_cons (me_var 2 (pv 2)) (ma_cons (me_bl) (ma_nil))) (len_cons (len_cons (len_nil)))) (ma_nil))) (len_cons (len_cons (len_nil)))))) (mw_or1 (mt_not (mt_val (me_call (ok__law_same T) rfl (by exact hr.mono (by decide)) (by rfl) T.g__law_same T.F__law_same.kp T.B__law_same (takes_of rfl rfl rfl rfl) (ma_cons (me_call (ok_is_value T) rfl (by exact hr.mono (by decide)) (by rfl) T.g_is_value T.F_is_value.kp T.B_is_value (takes_of rfl rfl rfl rfl) (ma_cons (me_var 2 (pv 2)) (ma_nil)) (len_cons (len_nil))) (ma_cons (me_call (ok__law_value T) rfl (by exact hr.mono (by decide)) (by rfl) T.g__law_value T.F__law_value.kp T.B__law_value (takes_of rfl rfl rfl rfl) (ma_cons (me_var 2 (pv 2)) (ma_nil)) (len_cons (len_nil))) (ma_nil))) (len_cons (len_cons (len_nil))))))))) (mss_one (ms_ret (me_bl))) (mss_nil))))) (mss_cons (ms_for (passes_of rfl) rfl (mi_seq (me_fz (ml_lst (ma_cons (me_tupD T.b_tuple (me_var 1 (pv 1))) (ma_cons (me_fz (ml_listD T.b_list (me_var 1 (pv 1)))) (ma_cons (me_tupD T.b_tuple (me_slice (me_var 1 (pv 1)) (mo_none) (mo_some (me_int)))) (ma_cons (me_tupD T.b_tuple (me_fz (ml_cat (me_fz (ml_lst (ma_cons (me_str) (ma_nil)))) (me_var 1 (pv 1))))) (ma_nil)))))))) (mg_name (i := 3) sc_law.nd) (mss_cons (ms_set (i := 4) sc_law.nd (me_call (ok__law_row T) rfl (by exact hr.mono (by decide)) (by rfl) T.g__law_row T.F__law_row.kp T.B__law_row (takes_of rfl rfl rfl rfl) (ma_cons (me_var 3 (pv 3)) (ma_cons (me_bl) (ma_nil))) (len_cons (len_cons (len_nil))))) (mss_cons (ms_if (mt_bool (mw_or (mt_not (mt_val (me_call (ok__law_same T) rfl (by exact hr.mono (by decide)) (by rfl) T.g__law_same T.F__law_same.kp T.B__law_same (takes_of rfl rfl rfl rfl) (ma_cons (me_call (ok_is_thing T) rfl (by exact hr.mono (by decide)) (by rfl) T.g_is_thing T.F_is_thing.kp T.B_is_thing (takes_of rfl rfl rfl rfl) (ma_cons (me_var 3 (pv 3)) (ma_nil)) (len_cons (len_nil))) (ma_cons (me_var 4 (pv 4)) (ma_nil))) (len_cons (len_cons (len_nil)))))) (mw_or1 (mt_not (mt_val (me_call (ok__law_same T) rfl (by exact hr.mono (by decide)) (by rfl) T.g__law_same T.F__law_same.kp T.B__law_same (takes_of rfl rfl rfl rfl) (ma_cons (me_call (ok_is_pattern T) rfl (by exact hr.mono (by decide)) (by rfl) T.g_is_pattern T.F_is_pattern.kp T.B_is_pattern (takes_of rfl rfl rfl rfl) (ma_cons (me_var 3 (pv 3)) (ma_nil)) (len_cons (len_nil))) (ma_cons (me_call (ok__law_row T) rfl (by exact hr.mono (by decide)) (by rfl) T.g__law_row T.F__law_row.kp T.B__law_row (takes_of rfl rfl rfl rfl) (ma_cons (me_var 3 (pv 3)) (ma_cons (me_bl) (ma_nil))) (len_cons (len_cons (len_nil)))) (ma_nil))) (len_cons (len_cons (len_nil))))))))) (mss_one (ms_ret (me_bl))) (mss_nil)) (mss_one (ms_if (mt_bool (mw_or (mt_bool (mw_and (mt_val (me_var 4 (pv 4))) (mw_and1 (mt_ne (by have q := hu64 hr; exact q) (me_call (ok_need_thing T) rfl (by exact hr.mono (by decide)) (by rfl) T.g_need_thing T.F_need_thing.kp T.B_need_thing (takes_of rfl rfl rfl rfl) (ma_cons (me_var 3 (pv 3)) (ma_nil)) (len_cons (len_nil))) (me_var 3 (pv 3)))))) (mw_or1 (mt_bool (mw_and (mt_not (mt_val (me_var 4 (pv 4)))) (mw_and1 (mt_not (mt_val (me_call (ok__law_refused T) rfl (by exact hr.mono (by decide)) (by rfl) T.g__law_refused T.F__law_refused.kp T.B__law_refused (takes_of rfl rfl rfl rfl) (ma_cons (me_var 3 (pv 3)) (ma_nil)) (len_cons (len_nil))))))))))) (mss_one (ms_ret (me_bl))) (mss_nil)))))) (mss_one (ms_ret (me_bl))))))))
end
theorem all_mk {l : PySem.W.OpenLaw} {w : World} {K : PySem.W.Frag} {h : Heap} {mg : Str → Option Value} {fa : Addr} (X : K.In h) (G : h.Ns mainGlobals mg) (hfa : mg "law" = some (.ref fa))
    {fn_is_whole : Addr} {oc_is_whole kV_is_whole dc_is_whole pm_is_whole cd_is_whole ct_is_whole : Value} {od_is_whole an_is_whole : Option Addr} {sl_is_whole : Array (Option Value)}
    {fn_is_name : Addr} {oc_is_name kV_is_name dc_is_name pm_is_name cd_is_name ct_is_name : Value} {od_is_name an_is_name : Option Addr} {sl_is_name : Array (Option Value)}
    {fn_is_word : Addr} {oc_is_word kV_is_word dc_is_word pm_is_word cd_is_word ct_is_word : Value} {od_is_word an_is_word : Option Addr} {sl_is_word : Array (Option Value)}
    {fn_is_value : Addr} {oc_is_value kV_is_value dc_is_value pm_is_value cd_is_value ct_is_value : Value} {od_is_value an_is_value : Option Addr} {sl_is_value : Array (Option Value)}
    {fn_is_row : Addr} {oc_is_row kV_is_row dc_is_row pm_is_row cd_is_row ct_is_row : Value} {od_is_row an_is_row : Option Addr} {sl_is_row : Array (Option Value)}
    {fn_is_thing : Addr} {oc_is_thing kV_is_thing dc_is_thing pm_is_thing cd_is_thing ct_is_thing : Value} {od_is_thing an_is_thing : Option Addr} {sl_is_thing : Array (Option Value)}
    {fn_is_pattern : Addr} {oc_is_pattern kV_is_pattern dc_is_pattern pm_is_pattern cd_is_pattern ct_is_pattern : Value} {od_is_pattern an_is_pattern : Option Addr} {sl_is_pattern : Array (Option Value)}
    {fn_need_thing : Addr} {oc_need_thing kV_need_thing dc_need_thing pm_need_thing cd_need_thing ct_need_thing : Value} {od_need_thing an_need_thing : Option Addr} {sl_need_thing : Array (Option Value)}
    {fn__law_at : Addr} {oc__law_at kV__law_at dc__law_at pm__law_at cd__law_at ct__law_at : Value} {od__law_at an__law_at : Option Addr} {sl__law_at : Array (Option Value)}
    {fn__law_text : Addr} {oc__law_text kV__law_text dc__law_text pm__law_text cd__law_text ct__law_text : Value} {od__law_text an__law_text : Option Addr} {sl__law_text : Array (Option Value)}
    {fn__law_part : Addr} {oc__law_part kV__law_part dc__law_part pm__law_part cd__law_part ct__law_part : Value} {od__law_part an__law_part : Option Addr} {sl__law_part : Array (Option Value)}
    {fn__law_letters : Addr} {oc__law_letters kV__law_letters dc__law_letters pm__law_letters cd__law_letters ct__law_letters : Value} {od__law_letters an__law_letters : Option Addr} {sl__law_letters : Array (Option Value)}
    {fn__law_value : Addr} {oc__law_value kV__law_value dc__law_value pm__law_value cd__law_value ct__law_value : Value} {od__law_value an__law_value : Option Addr} {sl__law_value : Array (Option Value)}
    {fn__law_row : Addr} {oc__law_row kV__law_row dc__law_row pm__law_row cd__law_row ct__law_row : Value} {od__law_row an__law_row : Option Addr} {sl__law_row : Array (Option Value)}
    {fn__law_same : Addr} {oc__law_same kV__law_same dc__law_same pm__law_same cd__law_same ct__law_same : Value} {od__law_same an__law_same : Option Addr} {sl__law_same : Array (Option Value)}
    {fn__law_refused : Addr} {oc__law_refused kV__law_refused dc__law_refused pm__law_refused cd__law_refused ct__law_refused : Value} {od__law_refused an__law_refused : Option Addr} {sl__law_refused : Array (Option Value)}
    {fn_law : Addr} {oc_law kV_law dc_law pm_law cd_law ct_law : Value} {od_law an_law : Option Addr} {sl_law : Array (Option Value)}
    {tk_GREAT : Tok}
    {tk_MOST_LETTERS : Tok}
    {tk_MOST_NUMBER : Tok}
    {tk_MOST_VALUES : Tok}
    {tk_SMALL : Tok}
    {c_BadRule : Addr}
    {c_BadThing : Addr}
    {c_NoCount : Addr}
    {c_NoRule : Addr}
    {c_NotThere : Addr}
    {c_There : Addr}
    {c_WeaveError : Addr}
    (a_is_whole : PySem.W.nsIn K mainGlobals "is_whole" = some (some (.ref fn_is_whole)))
    (l_is_whole : K.lookup fn_is_whole = some ⟨oc_is_whole, od_is_whole, .func (PySem.W.fnOf "is_whole" "is_whole" (defArgs s_is_whole) (defBody s_is_whole) (defScope s_is_whole) .none kV_is_whole dc_is_whole pm_is_whole an_is_whole cd_is_whole ct_is_whole), sl_is_whole⟩)
    (d_is_whole : PySem.W.codeIn K cd_is_whole "is_whole" = true)
    (k_is_whole : PySem.W.keepIn K (.ref fn_is_whole) = true)
    (a_is_name : PySem.W.nsIn K mainGlobals "is_name" = some (some (.ref fn_is_name)))
    (l_is_name : K.lookup fn_is_name = some ⟨oc_is_name, od_is_name, .func (PySem.W.fnOf "is_name" "is_name" (defArgs s_is_name) (defBody s_is_name) (defScope s_is_name) .none kV_is_name dc_is_name pm_is_name an_is_name cd_is_name ct_is_name), sl_is_name⟩)
    (d_is_name : PySem.W.codeIn K cd_is_name "is_name" = true)
    (k_is_name : PySem.W.keepIn K (.ref fn_is_name) = true)
    (a_is_word : PySem.W.nsIn K mainGlobals "is_word" = some (some (.ref fn_is_word)))
    (l_is_word : K.lookup fn_is_word = some ⟨oc_is_word, od_is_word, .func (PySem.W.fnOf "is_word" "is_word" (defArgs s_is_word) (defBody s_is_word) (defScope s_is_word) .none kV_is_word dc_is_word pm_is_word an_is_word cd_is_word ct_is_word), sl_is_word⟩)
    (d_is_word : PySem.W.codeIn K cd_is_word "is_word" = true)
    (k_is_word : PySem.W.keepIn K (.ref fn_is_word) = true)
    (a_is_value : PySem.W.nsIn K mainGlobals "is_value" = some (some (.ref fn_is_value)))
    (l_is_value : K.lookup fn_is_value = some ⟨oc_is_value, od_is_value, .func (PySem.W.fnOf "is_value" "is_value" (defArgs s_is_value) (defBody s_is_value) (defScope s_is_value) .none kV_is_value dc_is_value pm_is_value an_is_value cd_is_value ct_is_value), sl_is_value⟩)
    (d_is_value : PySem.W.codeIn K cd_is_value "is_value" = true)
    (k_is_value : PySem.W.keepIn K (.ref fn_is_value) = true)
    (a_is_row : PySem.W.nsIn K mainGlobals "is_row" = some (some (.ref fn_is_row)))
    (l_is_row : K.lookup fn_is_row = some ⟨oc_is_row, od_is_row, .func (PySem.W.fnOf "is_row" "is_row" (defArgs s_is_row) (defBody s_is_row) (defScope s_is_row) .none kV_is_row dc_is_row pm_is_row an_is_row cd_is_row ct_is_row), sl_is_row⟩)
    (d_is_row : PySem.W.codeIn K cd_is_row "is_row" = true)
    (k_is_row : PySem.W.keepIn K (.ref fn_is_row) = true)
    (a_is_thing : PySem.W.nsIn K mainGlobals "is_thing" = some (some (.ref fn_is_thing)))
    (l_is_thing : K.lookup fn_is_thing = some ⟨oc_is_thing, od_is_thing, .func (PySem.W.fnOf "is_thing" "is_thing" (defArgs s_is_thing) (defBody s_is_thing) (defScope s_is_thing) .none kV_is_thing dc_is_thing pm_is_thing an_is_thing cd_is_thing ct_is_thing), sl_is_thing⟩)
    (d_is_thing : PySem.W.codeIn K cd_is_thing "is_thing" = true)
    (k_is_thing : PySem.W.keepIn K (.ref fn_is_thing) = true)
    (a_is_pattern : PySem.W.nsIn K mainGlobals "is_pattern" = some (some (.ref fn_is_pattern)))
    (l_is_pattern : K.lookup fn_is_pattern = some ⟨oc_is_pattern, od_is_pattern, .func (PySem.W.fnOf "is_pattern" "is_pattern" (defArgs s_is_pattern) (defBody s_is_pattern) (defScope s_is_pattern) .none kV_is_pattern dc_is_pattern pm_is_pattern an_is_pattern cd_is_pattern ct_is_pattern), sl_is_pattern⟩)
    (d_is_pattern : PySem.W.codeIn K cd_is_pattern "is_pattern" = true)
    (k_is_pattern : PySem.W.keepIn K (.ref fn_is_pattern) = true)
    (a_need_thing : PySem.W.nsIn K mainGlobals "need_thing" = some (some (.ref fn_need_thing)))
    (l_need_thing : K.lookup fn_need_thing = some ⟨oc_need_thing, od_need_thing, .func (PySem.W.fnOf "need_thing" "need_thing" (defArgs s_need_thing) (defBody s_need_thing) (defScope s_need_thing) .none kV_need_thing dc_need_thing pm_need_thing an_need_thing cd_need_thing ct_need_thing), sl_need_thing⟩)
    (d_need_thing : PySem.W.codeIn K cd_need_thing "need_thing" = true)
    (k_need_thing : PySem.W.keepIn K (.ref fn_need_thing) = true)
    (a__law_at : PySem.W.nsIn K mainGlobals "_law_at" = some (some (.ref fn__law_at)))
    (l__law_at : K.lookup fn__law_at = some ⟨oc__law_at, od__law_at, .func (PySem.W.fnOf "_law_at" "_law_at" (defArgs s__law_at) (defBody s__law_at) (defScope s__law_at) .none kV__law_at dc__law_at pm__law_at an__law_at cd__law_at ct__law_at), sl__law_at⟩)
    (d__law_at : PySem.W.codeIn K cd__law_at "_law_at" = true)
    (k__law_at : PySem.W.keepIn K (.ref fn__law_at) = true)
    (a__law_text : PySem.W.nsIn K mainGlobals "_law_text" = some (some (.ref fn__law_text)))
    (l__law_text : K.lookup fn__law_text = some ⟨oc__law_text, od__law_text, .func (PySem.W.fnOf "_law_text" "_law_text" (defArgs s__law_text) (defBody s__law_text) (defScope s__law_text) .none kV__law_text dc__law_text pm__law_text an__law_text cd__law_text ct__law_text), sl__law_text⟩)
    (d__law_text : PySem.W.codeIn K cd__law_text "_law_text" = true)
    (k__law_text : PySem.W.keepIn K (.ref fn__law_text) = true)
    (a__law_part : PySem.W.nsIn K mainGlobals "_law_part" = some (some (.ref fn__law_part)))
    (l__law_part : K.lookup fn__law_part = some ⟨oc__law_part, od__law_part, .func (PySem.W.fnOf "_law_part" "_law_part" (defArgs s__law_part) (defBody s__law_part) (defScope s__law_part) .none kV__law_part dc__law_part pm__law_part an__law_part cd__law_part ct__law_part), sl__law_part⟩)
    (d__law_part : PySem.W.codeIn K cd__law_part "_law_part" = true)
    (k__law_part : PySem.W.keepIn K (.ref fn__law_part) = true)
    (a__law_letters : PySem.W.nsIn K mainGlobals "_law_letters" = some (some (.ref fn__law_letters)))
    (l__law_letters : K.lookup fn__law_letters = some ⟨oc__law_letters, od__law_letters, .func (PySem.W.fnOf "_law_letters" "_law_letters" (defArgs s__law_letters) (defBody s__law_letters) (defScope s__law_letters) .none kV__law_letters dc__law_letters pm__law_letters an__law_letters cd__law_letters ct__law_letters), sl__law_letters⟩)
    (d__law_letters : PySem.W.codeIn K cd__law_letters "_law_letters" = true)
    (k__law_letters : PySem.W.keepIn K (.ref fn__law_letters) = true)
    (a__law_value : PySem.W.nsIn K mainGlobals "_law_value" = some (some (.ref fn__law_value)))
    (l__law_value : K.lookup fn__law_value = some ⟨oc__law_value, od__law_value, .func (PySem.W.fnOf "_law_value" "_law_value" (defArgs s__law_value) (defBody s__law_value) (defScope s__law_value) .none kV__law_value dc__law_value pm__law_value an__law_value cd__law_value ct__law_value), sl__law_value⟩)
    (d__law_value : PySem.W.codeIn K cd__law_value "_law_value" = true)
    (k__law_value : PySem.W.keepIn K (.ref fn__law_value) = true)
    (a__law_row : PySem.W.nsIn K mainGlobals "_law_row" = some (some (.ref fn__law_row)))
    (l__law_row : K.lookup fn__law_row = some ⟨oc__law_row, od__law_row, .func (PySem.W.fnOf "_law_row" "_law_row" (defArgs s__law_row) (defBody s__law_row) (defScope s__law_row) .none kV__law_row dc__law_row pm__law_row an__law_row cd__law_row ct__law_row), sl__law_row⟩)
    (d__law_row : PySem.W.codeIn K cd__law_row "_law_row" = true)
    (k__law_row : PySem.W.keepIn K (.ref fn__law_row) = true)
    (a__law_same : PySem.W.nsIn K mainGlobals "_law_same" = some (some (.ref fn__law_same)))
    (l__law_same : K.lookup fn__law_same = some ⟨oc__law_same, od__law_same, .func (PySem.W.fnOf "_law_same" "_law_same" (defArgs s__law_same) (defBody s__law_same) (defScope s__law_same) .none kV__law_same dc__law_same pm__law_same an__law_same cd__law_same ct__law_same), sl__law_same⟩)
    (d__law_same : PySem.W.codeIn K cd__law_same "_law_same" = true)
    (k__law_same : PySem.W.keepIn K (.ref fn__law_same) = true)
    (a__law_refused : PySem.W.nsIn K mainGlobals "_law_refused" = some (some (.ref fn__law_refused)))
    (l__law_refused : K.lookup fn__law_refused = some ⟨oc__law_refused, od__law_refused, .func (PySem.W.fnOf "_law_refused" "_law_refused" (defArgs s__law_refused) (defBody s__law_refused) (defScope s__law_refused) .none kV__law_refused dc__law_refused pm__law_refused an__law_refused cd__law_refused ct__law_refused), sl__law_refused⟩)
    (d__law_refused : PySem.W.codeIn K cd__law_refused "_law_refused" = true)
    (k__law_refused : PySem.W.keepIn K (.ref fn__law_refused) = true)
    (a_law : PySem.W.nsIn K mainGlobals "law" = some (some (.ref fn_law)))
    (l_law : K.lookup fn_law = some ⟨oc_law, od_law, .func (PySem.W.fnOf "law" "law" (defArgs s_law) (defBody s_law) (defScope s_law) .none kV_law dc_law pm_law an_law cd_law ct_law), sl_law⟩)
    (d_law : PySem.W.codeIn K cd_law "law" = true)
    (k_law : PySem.W.keepIn K (.ref fn_law) = true)
    (b_ValueError : PySem.W.nsIn K mainGlobals "ValueError" = some none)
    (b_all : PySem.W.nsIn K mainGlobals "all" = some none)
    (b_bool : PySem.W.nsIn K mainGlobals "bool" = some none)
    (b_int : PySem.W.nsIn K mainGlobals "int" = some none)
    (b_isinstance : PySem.W.nsIn K mainGlobals "isinstance" = some none)
    (b_len : PySem.W.nsIn K mainGlobals "len" = some none)
    (b_list : PySem.W.nsIn K mainGlobals "list" = some none)
    (b_range : PySem.W.nsIn K mainGlobals "range" = some none)
    (b_str : PySem.W.nsIn K mainGlobals "str" = some none)
    (b_tuple : PySem.W.nsIn K mainGlobals "tuple" = some none)
    (v_GREAT : PySem.W.nsIn K mainGlobals "GREAT" = some (some (.str "ABCDEFGHIJKLMNOPQRSTUVWXYZ" tk_GREAT)))
    (v_MOST_LETTERS : PySem.W.nsIn K mainGlobals "MOST_LETTERS" = some (some (.int (8) tk_MOST_LETTERS)))
    (v_MOST_NUMBER : PySem.W.nsIn K mainGlobals "MOST_NUMBER" = some (some (.int (999999999) tk_MOST_NUMBER)))
    (v_MOST_VALUES : PySem.W.nsIn K mainGlobals "MOST_VALUES" = some (some (.int (4) tk_MOST_VALUES)))
    (v_SMALL : PySem.W.nsIn K mainGlobals "SMALL" = some (some (.str "abcdefghijklmnopqrstuvwxyz" tk_SMALL)))
    (g_BadRule : PySem.W.nsIn K mainGlobals "BadRule" = some (some (.ref c_BadRule)))
    (g_BadThing : PySem.W.nsIn K mainGlobals "BadThing" = some (some (.ref c_BadThing)))
    (g_NoCount : PySem.W.nsIn K mainGlobals "NoCount" = some (some (.ref c_NoCount)))
    (g_NoRule : PySem.W.nsIn K mainGlobals "NoRule" = some (some (.ref c_NoRule)))
    (g_NotThere : PySem.W.nsIn K mainGlobals "NotThere" = some (some (.ref c_NotThere)))
    (g_There : PySem.W.nsIn K mainGlobals "There" = some (some (.ref c_There)))
    (g_WeaveError : PySem.W.nsIn K mainGlobals "WeaveError" = some (some (.ref c_WeaveError)))
    (qx_BadThing : PySem.W.excIn K c_BadThing [.type "ValueError", .type "Exception", .type "BaseException", .type "object"] "ValueError.__new__" = true)
    (qk_BadThing : PySem.W.keepIn K (.ref c_BadThing) = true)
    (qs_BadThing : PySem.W.subIn K (.ref c_BadThing) (.type "BaseException") = some true)
    (qt_BadThing : PySem.W.typeIn K (.ref c_BadThing) = some (.type "type"))
    (qexm_BadThing : PySem.W.exmOne K (.ref c_BadThing) (.ref c_WeaveError) = some true)
    (qkit_BadThing__BadRule : PySem.W.kitOne K (.ref c_BadThing) (.ref c_BadRule) = some false)
    (qkit_BadThing__BadThing : PySem.W.kitOne K (.ref c_BadThing) (.ref c_BadThing) = some true)
    (qkit_BadThing__NoCount : PySem.W.kitOne K (.ref c_BadThing) (.ref c_NoCount) = some false)
    (qkit_BadThing__NoRule : PySem.W.kitOne K (.ref c_BadThing) (.ref c_NoRule) = some false)
    (qkit_BadThing__NotThere : PySem.W.kitOne K (.ref c_BadThing) (.ref c_NotThere) = some false)
    (qkit_BadThing__There : PySem.W.kitOne K (.ref c_BadThing) (.ref c_There) = some false)
    (qkit_BadThing__ValueError : PySem.W.kitOne K (.ref c_BadThing) (.type "ValueError") = some true)
    (ec_hg_BadThing : PySem.W.findIn K (.ref c_BadThing) "__getattribute__" = some (some (.builtin "BaseException.__getattribute__")))
    (ec_hk_BadThing : PySem.W.findIn K (.ref c_BadThing) "__getattr__" = some none)
    (ec_hs_BadThing : PySem.W.subIn K (.ref c_BadThing) (.type "BaseException") = some true)
    (ec_hd_BadThing : PySem.W.hasDictIn K c_BadThing = true)
    (ec_ha_BadThing : PySem.W.findIn K (.ref c_BadThing) "__class__" = some (some (.builtin "object.__class__")))
    (ec_hn_BadThing : PySem.W.specialIn K (.builtin "object.__class__") "__get__" = some (some (.builtin "getset_descriptor.__get__")))
    (ec_ht_BadThing : PySem.W.takesIn K (.builtin "object.__class__") = some true)
    (ec_hm_BadThing : PySem.W.mroIn K c_BadThing (.type "object") = some true) :
    ∃ fd : FuncData, (∀ (s : Shared) (v : Value), BindsTo s fd ⟨[v], []⟩ [("_law_script", v)]) ∧ ∀ base : Heap, K.In base → base.Ns mainGlobals mg → FnOk l.prog w K mg base (L2.CX l.prog w) 7 fa fd ["_law_script"] (spLaw K) := by
  have e := hfa.symm.trans (PySem.W.mg_of X G a_law)
  obtain rfl : fn_law = fa := by cases e; rfl
  have F_is_whole := fun_mk (st := s_is_whole) l_is_whole d_is_whole k_is_whole
  have F_is_name := fun_mk (st := s_is_name) l_is_name d_is_name k_is_name
  have F_is_word := fun_mk (st := s_is_word) l_is_word d_is_word k_is_word
  have F_is_value := fun_mk (st := s_is_value) l_is_value d_is_value k_is_value
  have F_is_row := fun_mk (st := s_is_row) l_is_row d_is_row k_is_row
  have F_is_thing := fun_mk (st := s_is_thing) l_is_thing d_is_thing k_is_thing
  have F_is_pattern := fun_mk (st := s_is_pattern) l_is_pattern d_is_pattern k_is_pattern
  have F_need_thing := fun_mk (st := s_need_thing) l_need_thing d_need_thing k_need_thing
  have F__law_at := fun_mk (st := s__law_at) l__law_at d__law_at k__law_at
  have F__law_text := fun_mk (st := s__law_text) l__law_text d__law_text k__law_text
  have F__law_part := fun_mk (st := s__law_part) l__law_part d__law_part k__law_part
  have F__law_letters := fun_mk (st := s__law_letters) l__law_letters d__law_letters k__law_letters
  have F__law_value := fun_mk (st := s__law_value) l__law_value d__law_value k__law_value
  have F__law_row := fun_mk (st := s__law_row) l__law_row d__law_row k__law_row
  have F__law_same := fun_mk (st := s__law_same) l__law_same d__law_same k__law_same
  have F__law_refused := fun_mk (st := s__law_refused) l__law_refused d__law_refused k__law_refused
  have F_law := fun_mk (st := s_law) l_law d_law k_law
  have T : Txt K mg ⟨fn_is_whole, PySem.W.fnOf "is_whole" "is_whole" (defArgs s_is_whole) (defBody s_is_whole) (defScope s_is_whole) .none kV_is_whole dc_is_whole pm_is_whole an_is_whole cd_is_whole ct_is_whole, fn_is_name, PySem.W.fnOf "is_name" "is_name" (defArgs s_is_name) (defBody s_is_name) (defScope s_is_name) .none kV_is_name dc_is_name pm_is_name an_is_name cd_is_name ct_is_name, fn_is_word, PySem.W.fnOf "is_word" "is_word" (defArgs s_is_word) (defBody s_is_word) (defScope s_is_word) .none kV_is_word dc_is_word pm_is_word an_is_word cd_is_word ct_is_word, fn_is_value, PySem.W.fnOf "is_value" "is_value" (defArgs s_is_value) (defBody s_is_value) (defScope s_is_value) .none kV_is_value dc_is_value pm_is_value an_is_value cd_is_value ct_is_value, fn_is_row, PySem.W.fnOf "is_row" "is_row" (defArgs s_is_row) (defBody s_is_row) (defScope s_is_row) .none kV_is_row dc_is_row pm_is_row an_is_row cd_is_row ct_is_row, fn_is_thing, PySem.W.fnOf "is_thing" "is_thing" (defArgs s_is_thing) (defBody s_is_thing) (defScope s_is_thing) .none kV_is_thing dc_is_thing pm_is_thing an_is_thing cd_is_thing ct_is_thing, fn_is_pattern, PySem.W.fnOf "is_pattern" "is_pattern" (defArgs s_is_pattern) (defBody s_is_pattern) (defScope s_is_pattern) .none kV_is_pattern dc_is_pattern pm_is_pattern an_is_pattern cd_is_pattern ct_is_pattern, fn_need_thing, PySem.W.fnOf "need_thing" "need_thing" (defArgs s_need_thing) (defBody s_need_thing) (defScope s_need_thing) .none kV_need_thing dc_need_thing pm_need_thing an_need_thing cd_need_thing ct_need_thing, fn__law_at, PySem.W.fnOf "_law_at" "_law_at" (defArgs s__law_at) (defBody s__law_at) (defScope s__law_at) .none kV__law_at dc__law_at pm__law_at an__law_at cd__law_at ct__law_at, fn__law_text, PySem.W.fnOf "_law_text" "_law_text" (defArgs s__law_text) (defBody s__law_text) (defScope s__law_text) .none kV__law_text dc__law_text pm__law_text an__law_text cd__law_text ct__law_text, fn__law_part, PySem.W.fnOf "_law_part" "_law_part" (defArgs s__law_part) (defBody s__law_part) (defScope s__law_part) .none kV__law_part dc__law_part pm__law_part an__law_part cd__law_part ct__law_part, fn__law_letters, PySem.W.fnOf "_law_letters" "_law_letters" (defArgs s__law_letters) (defBody s__law_letters) (defScope s__law_letters) .none kV__law_letters dc__law_letters pm__law_letters an__law_letters cd__law_letters ct__law_letters, fn__law_value, PySem.W.fnOf "_law_value" "_law_value" (defArgs s__law_value) (defBody s__law_value) (defScope s__law_value) .none kV__law_value dc__law_value pm__law_value an__law_value cd__law_value ct__law_value, fn__law_row, PySem.W.fnOf "_law_row" "_law_row" (defArgs s__law_row) (defBody s__law_row) (defScope s__law_row) .none kV__law_row dc__law_row pm__law_row an__law_row cd__law_row ct__law_row, fn__law_same, PySem.W.fnOf "_law_same" "_law_same" (defArgs s__law_same) (defBody s__law_same) (defScope s__law_same) .none kV__law_same dc__law_same pm__law_same an__law_same cd__law_same ct__law_same, fn__law_refused, PySem.W.fnOf "_law_refused" "_law_refused" (defArgs s__law_refused) (defBody s__law_refused) (defScope s__law_refused) .none kV__law_refused dc__law_refused pm__law_refused an__law_refused cd__law_refused ct__law_refused, fn_law, PySem.W.fnOf "law" "law" (defArgs s_law) (defBody s_law) (defScope s_law) .none kV_law dc_law pm_law an_law cd_law ct_law, c_BadRule, c_BadThing, c_NoCount, c_NoRule, c_NotThere, c_There, c_WeaveError⟩ := by
    exact ⟨PySem.W.mg_none_of X G b_ValueError,
      PySem.W.mg_none_of X G b_all,
      PySem.W.mg_none_of X G b_bool,
      PySem.W.mg_none_of X G b_int,
      PySem.W.mg_none_of X G b_isinstance,
      PySem.W.mg_none_of X G b_len,
      PySem.W.mg_none_of X G b_list,
      PySem.W.mg_none_of X G b_range,
      PySem.W.mg_none_of X G b_str,
      PySem.W.mg_none_of X G b_tuple,
      ⟨_, PySem.W.mg_of X G v_GREAT⟩,
      ⟨_, PySem.W.mg_of X G v_MOST_LETTERS⟩,
      ⟨_, PySem.W.mg_of X G v_MOST_NUMBER⟩,
      ⟨_, PySem.W.mg_of X G v_MOST_VALUES⟩,
      ⟨_, PySem.W.mg_of X G v_SMALL⟩,
      F_is_whole,
      PySem.W.mg_of X G a_is_whole,
      F_is_whole.binds (ps := ["thing"]) fun _ _ _ _ _ _ us hl => match us, hl with | [_], _ => rfl,
      F_is_name,
      PySem.W.mg_of X G a_is_name,
      F_is_name.binds (ps := ["thing"]) fun _ _ _ _ _ _ us hl => match us, hl with | [_], _ => rfl,
      F_is_word,
      PySem.W.mg_of X G a_is_word,
      F_is_word.binds (ps := ["thing"]) fun _ _ _ _ _ _ us hl => match us, hl with | [_], _ => rfl,
      F_is_value,
      PySem.W.mg_of X G a_is_value,
      F_is_value.binds (ps := ["thing"]) fun _ _ _ _ _ _ us hl => match us, hl with | [_], _ => rfl,
      F_is_row,
      PySem.W.mg_of X G a_is_row,
      F_is_row.binds (ps := ["thing"]) fun _ _ _ _ _ _ us hl => match us, hl with | [_], _ => rfl,
      F_is_thing,
      PySem.W.mg_of X G a_is_thing,
      F_is_thing.binds (ps := ["thing"]) fun _ _ _ _ _ _ us hl => match us, hl with | [_], _ => rfl,
      F_is_pattern,
      PySem.W.mg_of X G a_is_pattern,
      F_is_pattern.binds (ps := ["thing"]) fun _ _ _ _ _ _ us hl => match us, hl with | [_], _ => rfl,
      F_need_thing,
      PySem.W.mg_of X G a_need_thing,
      F_need_thing.binds (ps := ["thing"]) fun _ _ _ _ _ _ us hl => match us, hl with | [_], _ => rfl,
      F__law_at,
      PySem.W.mg_of X G a__law_at,
      F__law_at.binds (ps := ["_law_script", "_law_k"]) fun _ _ _ _ _ _ us hl => match us, hl with | [_, _], _ => rfl,
      F__law_text,
      PySem.W.mg_of X G a__law_text,
      F__law_text.binds (ps := ["_law_cell"]) fun _ _ _ _ _ _ us hl => match us, hl with | [_], _ => rfl,
      F__law_part,
      PySem.W.mg_of X G a__law_part,
      F__law_part.binds (ps := ["_law_cell"]) fun _ _ _ _ _ _ us hl => match us, hl with | [_], _ => rfl,
      F__law_letters,
      PySem.W.mg_of X G a__law_letters,
      F__law_letters.binds (ps := ["_law_thing", "_law_first"]) fun _ _ _ _ _ _ us hl => match us, hl with | [_, _], _ => rfl,
      F__law_value,
      PySem.W.mg_of X G a__law_value,
      F__law_value.binds (ps := ["_law_thing"]) fun _ _ _ _ _ _ us hl => match us, hl with | [_], _ => rfl,
      F__law_row,
      PySem.W.mg_of X G a__law_row,
      F__law_row.binds (ps := ["_law_thing", "_law_words"]) fun _ _ _ _ _ _ us hl => match us, hl with | [_, _], _ => rfl,
      F__law_same,
      PySem.W.mg_of X G a__law_same,
      F__law_same.binds (ps := ["_law_found", "_law_due"]) fun _ _ _ _ _ _ us hl => match us, hl with | [_, _], _ => rfl,
      F__law_refused,
      PySem.W.mg_of X G a__law_refused,
      F__law_refused.binds (ps := ["_law_thing"]) fun _ _ _ _ _ _ us hl => match us, hl with | [_], _ => rfl,
      F_law,
      PySem.W.mg_of X G a_law,
      F_law.binds (ps := ["_law_script"]) fun _ _ _ _ _ _ us hl => match us, hl with | [_], _ => rfl,
      PySem.W.mg_of X G g_BadRule,
      PySem.W.mg_of X G g_BadThing,
      PySem.W.mg_of X G g_NoCount,
      PySem.W.mg_of X G g_NoRule,
      PySem.W.mg_of X G g_NotThere,
      PySem.W.mg_of X G g_There,
      PySem.W.mg_of X G g_WeaveError,
      qx_BadThing,
      qk_BadThing,
      qs_BadThing,
      qt_BadThing,
      qexm_BadThing,
      ⟨ec_hg_BadThing, ec_hk_BadThing, ec_hs_BadThing, ec_hd_BadThing, ec_ha_BadThing, ec_hn_BadThing, ec_ht_BadThing, ec_hm_BadThing⟩,
      qkit_BadThing__BadRule,
      qkit_BadThing__BadThing,
      qkit_BadThing__NoCount,
      qkit_BadThing__NoRule,
      qkit_BadThing__NotThere,
      qkit_BadThing__There,
      qkit_BadThing__ValueError⟩
  exact ⟨_, fun s v => .of_eq rfl, fun base _ _ => law_fn (ok_law T) law_true⟩
end K1
end

section
set_option Elab.async false
set_option linter.all false
set_option maxRecDepth 100000

open PySem PySem.W PyProof.Rows
set_option maxHeartbeats 0 in
theorem PySem.Challenge.cw_matchweave_k01_things_looked_at_holds : PySem.Challenge.rw_matchweave_k01_things_looked_at.Holds := by
  w_on; o_law; k_head; (case hw => w_witness2)
  k_fill
  refine L2.walk_of (l := PySem.Challenge.rw_matchweave_k01_things_looked_at) (n := 63) (k := 7) (x := "_law_script") (CX := fun w => L2.CX PySem.Challenge.pw_matchweave_k01_things_looked_at w) (sp := fun w => Mir.spLaw _) rfl (by decide) rfl ⟨rfl, by decide, by decide⟩ (fun w h Y => PySem.W.kIn_of Y) ?F (fun _ _ a ns hl hO hS => ⟨a, ns, rfl, hO, hS, hl, fun _ => rfl⟩) (fun _ _ _ _ _ h => by obtain ⟨_, _, _, _, _, _, _, _, _, _, _, _, z⟩ := h; exact z)
  case F =>
    intro w mg fa h KX G hmg
    refine' K1.all_mk KX G hmg ?a_is_whole ?l_is_whole ?d_is_whole ?k_is_whole ?a_is_name ?l_is_name ?d_is_name ?k_is_name ?a_is_word ?l_is_word ?d_is_word ?k_is_word ?a_is_value ?l_is_value ?d_is_value ?k_is_value ?a_is_row ?l_is_row ?d_is_row ?k_is_row ?a_is_thing ?l_is_thing ?d_is_thing ?k_is_thing ?a_is_pattern ?l_is_pattern ?d_is_pattern ?k_is_pattern ?a_need_thing ?l_need_thing ?d_need_thing ?k_need_thing ?a__law_at ?l__law_at ?d__law_at ?k__law_at ?a__law_text ?l__law_text ?d__law_text ?k__law_text ?a__law_part ?l__law_part ?d__law_part ?k__law_part ?a__law_letters ?l__law_letters ?d__law_letters ?k__law_letters ?a__law_value ?l__law_value ?d__law_value ?k__law_value ?a__law_row ?l__law_row ?d__law_row ?k__law_row ?a__law_same ?l__law_same ?d__law_same ?k__law_same ?a__law_refused ?l__law_refused ?d__law_refused ?k__law_refused ?a_law ?l_law ?d_law ?k_law ?b_ValueError ?b_all ?b_bool ?b_int ?b_isinstance ?b_len ?b_list ?b_range ?b_str ?b_tuple ?v_GREAT ?v_MOST_LETTERS ?v_MOST_NUMBER ?v_MOST_VALUES ?v_SMALL ?g_BadRule ?g_BadThing ?g_NoCount ?g_NoRule ?g_NotThere ?g_There ?g_WeaveError ?qx_BadThing ?qk_BadThing ?qs_BadThing ?qt_BadThing ?qexm_BadThing ?qkit_BadThing__BadRule ?qkit_BadThing__BadThing ?qkit_BadThing__NoCount ?qkit_BadThing__NoRule ?qkit_BadThing__NotThere ?qkit_BadThing__There ?qkit_BadThing__ValueError ?ec_hg_BadThing ?ec_hk_BadThing ?ec_hs_BadThing ?ec_hd_BadThing ?ec_ha_BadThing ?ec_hn_BadThing ?ec_ht_BadThing ?ec_hm_BadThing
    (case a_is_whole => k_is); (case l_is_whole => k_is); (case d_is_whole => k_is); (case k_is_whole => k_is); (case a_is_name => k_is); (case l_is_name => k_is); (case d_is_name => k_is); (case k_is_name => k_is); (case a_is_word => k_is); (case l_is_word => k_is); (case d_is_word => k_is); (case k_is_word => k_is); (case a_is_value => k_is); (case l_is_value => k_is); (case d_is_value => k_is); (case k_is_value => k_is); (case a_is_row => k_is); (case l_is_row => k_is); (case d_is_row => k_is); (case k_is_row => k_is); (case a_is_thing => k_is); (case l_is_thing => k_is); (case d_is_thing => k_is); (case k_is_thing => k_is); (case a_is_pattern => k_is); (case l_is_pattern => k_is); (case d_is_pattern => k_is); (case k_is_pattern => k_is); (case a_need_thing => k_is); (case l_need_thing => k_is); (case d_need_thing => k_is); (case k_need_thing => k_is); (case a__law_at => k_is); (case l__law_at => k_is); (case d__law_at => k_is); (case k__law_at => k_is); (case a__law_text => k_is); (case l__law_text => k_is); (case d__law_text => k_is); (case k__law_text => k_is); (case a__law_part => k_is); (case l__law_part => k_is); (case d__law_part => k_is); (case k__law_part => k_is); (case a__law_letters => k_is); (case l__law_letters => k_is); (case d__law_letters => k_is); (case k__law_letters => k_is); (case a__law_value => k_is); (case l__law_value => k_is); (case d__law_value => k_is); (case k__law_value => k_is); (case a__law_row => k_is); (case l__law_row => k_is); (case d__law_row => k_is); (case k__law_row => k_is); (case a__law_same => k_is); (case l__law_same => k_is); (case d__law_same => k_is); (case k__law_same => k_is); (case a__law_refused => k_is); (case l__law_refused => k_is); (case d__law_refused => k_is); (case k__law_refused => k_is); (case a_law => k_is); (case l_law => k_is); (case d_law => k_is); (case k_law => k_is); (case b_ValueError => k_is); (case b_all => k_is); (case b_bool => k_is); (case b_int => k_is); (case b_isinstance => k_is); (case b_len => k_is); (case b_list => k_is); (case b_range => k_is); (case b_str => k_is); (case b_tuple => k_is); (case v_GREAT => k_is); (case v_MOST_LETTERS => k_is); (case v_MOST_NUMBER => k_is); (case v_MOST_VALUES => k_is); (case v_SMALL => k_is); (case g_BadRule => k_is); (case g_BadThing => k_is); (case g_NoCount => k_is); (case g_NoRule => k_is); (case g_NotThere => k_is); (case g_There => k_is); (case g_WeaveError => k_is); (case qx_BadThing => k_exc); (case qk_BadThing => k_is); (case qs_BadThing => k_is); (case qt_BadThing => k_is); (case qexm_BadThing => kts_exm); (case qkit_BadThing__BadRule => kit_is); (case qkit_BadThing__BadThing => kit_is); (case qkit_BadThing__NoCount => kit_is); (case qkit_BadThing__NoRule => kit_is); (case qkit_BadThing__NotThere => kit_is); (case qkit_BadThing__There => kit_is); (case qkit_BadThing__ValueError => kit_is); (case ec_hg_BadThing => k_is); (case ec_hk_BadThing => k_is); (case ec_hs_BadThing => k_is); (case ec_hd_BadThing => k_is); (case ec_ha_BadThing => k_is); (case ec_hn_BadThing => k_is); (case ec_ht_BadThing => k_is); (case ec_hm_BadThing => k_is)
end
