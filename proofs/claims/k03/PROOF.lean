import PyProof.Rows.All
import Wide.All
import OpenK.AllK
import Wide.FinOn
import PyProof.EqAt
import PyProof.EqKinds
import PyProof.TupleCall
import HandS.ForMost
import HandS.Exc
import HandS.TryOnly
import HandS.ExcOwn
import HandS.WordsExc
import KE.KDictKeyed
import KE.KDictCopyH
import HandS.TupAny
import HandS.IsInst
import HandS.Wide
import HandS.NoneIn
import PyProof.EqLayable
import HandS.Zip
import HandS.ExcIs
import HandS.Ends
import HandS.SetKeys
import HandS.DictEq
import KE.KEqDict
import PySem.Challenge.RW_matchweave_k03_rules_refused
import KE.RegKIsAll
import KE.RegKTryMore
set_option Elab.async false
section
set_option Elab.async false
set_option linter.all false
set_option maxRecDepth 100000
/-! Mir1: the mirror's data, heap and outcomes; how they lie in the hand layer's abstract heap. -/
namespace Mir
open PySem PySem.Spec
open PyProof.Rows L2

/-- a Python value as data: tuples, frozen lists and dicts are trees; ref n: the n-th cell; exn a: the exception held by a suite -/
inductive Dat where
  | non | bl (b : Bool) | int (i : Int) | str (x : Str)
  | tup (xs : List Dat) | lst (xs : List Dat) | dct (t : Bool) (ks vs : List Dat)
  | ref (n : Nat) | exn (a : Addr)

namespace Dat
mutual
def beq : Dat → Dat → Bool
  | .non, .non => true
  | .bl a, .bl b => a == b
  | .int a, .int b => decide (a = b)
  | .str a, .str b => decide (a = b)
  | .tup a, .tup b => beqs a b
  | .lst a, .lst b => beqs a b
  | .dct t a c, .dct u b d => t == u && beqs a b && beqs c d
  | .ref a, .ref b => a == b
  | .exn a, .exn b => decide (a = b)
  | _, _ => false
def beqs : List Dat → List Dat → Bool
  | [], [] => true
  | a :: as, b :: bs => beq a b && beqs as bs
  | _, _ => false
end
mutual
theorem beq_self : ∀ a : Dat, beq a a = true
  | .non => by simp [beq]
  | .bl _ => by simp [beq]
  | .int _ => by simp [beq]
  | .str _ => by simp [beq]
  | .tup a => by rw [beq]; exact beqs_self a
  | .lst a => by rw [beq]; exact beqs_self a
  | .dct t a c => by rw [beq, beqs_self a, beqs_self c]; simp
  | .ref _ => by simp [beq]
  | .exn _ => by simp [beq]
theorem beqs_self : ∀ a : List Dat, beqs a a = true
  | [] => rfl
  | a :: as => by rw [beqs, beq_self a, beqs_self as]; rfl
end
mutual
theorem eq_of_beq : ∀ a b : Dat, beq a b = true → a = b
  | .non, b, h => by cases b <;> simp [beq] at h ⊢
  | .bl a, b, h => by cases b <;> simp [beq] at h ⊢; exact h
  | .int a, b, h => by cases b <;> simp [beq] at h ⊢; exact h
  | .str a, b, h => by cases b <;> simp [beq] at h ⊢; exact h
  | .tup a, b, h => by
    cases b with
    | tup b => rw [beq] at h; rw [eq_of_beqs a b h]
    | _ => simp [beq] at h
  | .lst a, b, h => by
    cases b with
    | lst b => rw [beq] at h; rw [eq_of_beqs a b h]
    | _ => simp [beq] at h
  | .dct t a c, b, h => by
    cases b with
    | dct u b d =>
      rw [beq, Bool.and_eq_true, Bool.and_eq_true, beq_iff_eq] at h
      rw [h.1.1, eq_of_beqs a b h.1.2, eq_of_beqs c d h.2]
    | _ => simp [beq] at h
  | .ref a, b, h => by cases b <;> simp [beq] at h ⊢; exact h
  | .exn a, b, h => by cases b <;> simp [beq] at h ⊢; exact h
theorem eq_of_beqs : ∀ a b : List Dat, beqs a b = true → a = b
  | [], [], _ => rfl
  | a :: as, b :: bs, h => by
    rw [beqs, Bool.and_eq_true] at h
    rw [eq_of_beq a b h.1, eq_of_beqs as bs h.2]
  | [], _ :: _, h => by simp [beqs] at h
  | _ :: _, [], h => by simp [beqs] at h
end
instance : DecidableEq Dat := fun a b => if h : beq a b = true then Decidable.isTrue (eq_of_beq a b h) else Decidable.isFalse fun e => h (e ▸ beq_self a)
end Dat

/-- a mutable thing of the mirror's heap; v counts the changes of a dict; dead: given up -/
inductive Cell where
  | lst (xs : List Dat) | dct (t : Bool) (v : Nat) (kvs : List (Dat × Dat)) | ins (c : Str) (fs : List (Str × Dat)) | dead
  deriving DecidableEq
abbrev Hm := List Cell

/-- an outcome: stuck; a value and the heap; an exception of a class and the heap -/
inductive Res (α : Type) where
  | bad | val (a : α) (h : Hm) | exc (c : Str) (h : Hm)
def Mo (α : Type) := Hm → Res α
namespace Mo
@[reducible] def ret {α : Type} (a : α) : Mo α := fun h => .val a h
def bnd {α β : Type} (m : Mo α) (f : α → Mo β) : Mo β := fun h => match m h with
  | .bad => .bad
  | .val a h' => f a h'
  | .exc c h' => .exc c h'
instance : Monad Mo where
  pure := ret
  bind := bnd
end Mo
def bad {α : Type} : Mo α := fun _ => .bad
instance : LawfulMonad Mo := LawfulMonad.mk' Mo
  (id_map := fun x => funext fun h => by
    show Mo.bnd x (fun a => Mo.ret (id a)) h = x h
    unfold Mo.bnd
    cases x h <;> rfl)
  (pure_bind := fun _ _ => rfl)
  (bind_assoc := fun x f g => funext fun h => by
    show Mo.bnd (Mo.bnd x f) g h = Mo.bnd x (fun a => Mo.bnd (f a) g) h
    unfold Mo.bnd
    cases x h <;> rfl)
theorem bnd_val {α β : Type} {m : Mo α} {f : α → Mo β} {h h' : Hm} {a : α} (e : m h = .val a h') : (m >>= f) h = f a h' := by
  show Mo.bnd m f h = _
  unfold Mo.bnd
  rw [e]
theorem bnd_exc {α β : Type} {m : Mo α} {f : α → Mo β} {h h' : Hm} {c : Str} (e : m h = .exc c h') : (m >>= f) h = .exc c h' := by
  show Mo.bnd m f h = _
  unfold Mo.bnd
  rw [e]
theorem bnd_bad {α β : Type} {m : Mo α} {f : α → Mo β} {h : Hm} (e : m h = .bad) : (m >>= f) h = .bad := by
  show Mo.bnd m f h = _
  unfold Mo.bnd
  rw [e]

/-- keys of dicts: leaves, or tuples of leaves and tuples of leaves -/
def keyA : Dat → Option NestedKey
  | .non => some .none
  | .int i => some (.num i)
  | .str x => some (.text x)
  | _ => none
def keysBy (f : Dat → Option NestedKey) : List Dat → Option (List NestedKey)
  | [] => some []
  | d :: ds => match f d, keysBy f ds with
    | some k, some ks => some (k :: ks)
    | _, _ => none
def keyB : Dat → Option NestedKey
  | .tup xs => (keysBy keyA xs).map .tup
  | d => keyA d
def keyD : Dat → Option NestedKey
  | .tup xs => (keysBy keyB xs).map .tup
  | .non => none
  | d => keyA d
def isTup : Dat → Bool
  | .tup _ => true
  | _ => false

/-! ### dicts in the abstract heap -/
/-- an entry of a dict of whole numbers and texts -/
def kN : Key → NestedKey
  | .inl i => .num i
  | .inr x => .text x
def kY (p : Key × V) : NestedKey × V × V := (kN p.1, kV p.1, p.2)
/-- a dict, the object o: the keys as such, the keys' values, the values; t: the keys are tuples, else whole numbers and texts -/
def dD (P : Program) (w : World) (t : Bool) (a : Addr) (o : Obj) (ys : List (NestedKey × V × V)) : HO := .ext fun h =>
  h.get? a = some o ∧ (a == sysModules) = false ∧ ys.length ≤ sizeLine ∧ o.ExactDict ∧
    (t = false → ∃ (kvs : List (Key × V)) (us : List (Key × Value)), ys = kvs.map kY ∧ KV kvs us ∧ h.DictOf (mixKind P w) a us) ∧
    (t = true → ∃ (es : Array DictEntry) (ep : Nat) (xs : List (NestedKey × Addr × Value)), o.data = .dict es ep ∧
      Paired (fun (y : NestedKey × V × V) (q : NestedKey × Addr × Value) => y.1 = q.1 ∧ y.2.1 = .ref q.2.1 ∧ RelV y.2.2 q.2.2) ys xs ∧ es.toList = xs.map (entryOfKey (nestedKind P w)) ∧ (xs.map (·.1)).Nodup)

structure Wd where
  P : Program
  w : World
  K : PySem.W.Frag
  mg : Str → Option Value
abbrev wd (X : Cx) : Wd := ⟨X.prog, X.w, X.K, X.mg⟩

/-- a list that never changes -/
def FzL (K : PySem.W.Frag) (H : Hp) (a : Addr) (xs : List V) : Prop :=
  (∃ o, H a = some (.frz o (.lst xs))) ∨
    ∃ (o : Obj) (its : Array Value) (n : Nat), K.lookup a = some o ∧ o.cls = .type "list" ∧ o.dict = none ∧ o.data = .seq its n ∧ its.size ≤ sizeLine ∧ Vals xs its.toList
/-- a tuple (tracked or of the module) -/
def FzT (K : PySem.W.Frag) (H : Hp) (a : Addr) (xs : List V) : Prop :=
  H a = some (.tup xs) ∨
    ∃ (o : Obj) (its : Array Value) (n : Nat), K.lookup a = some o ∧ o.cls = .type "tuple" ∧ o.data = .seq its n ∧ its.size ≤ sizeLine ∧ Vals xs its.toList
theorem FzL.sq {K : PySem.W.Frag} {H : Hp} {a : Addr} {xs : List V} (h : FzL K H a xs) : SqL K H a xs := by
  rcases h with h | h
  · exact .inl (.inr h)
  · exact .inr h
theorem FzT.sq {K : PySem.W.Frag} {H : Hp} {a : Addr} {xs : List V} (h : FzT K H a xs) : SqT K H a xs := by
  rcases h with h | h
  · exact .inl (.inl h)
  · exact .inr h

section
variable (W : Wd) (β : Nat → Addr) (N : Nat) (H : Hp)
mutual
/-- the data d lies at the value v; β: where the cells below N lie -/
def Rel : Dat → V → Prop
  | .non, v => v = .non
  | .bl b, v => v = .bl b
  | .int i, v => v = .int i
  | .str x, v => v = .str x
  | .tup xs, v => ∃ a vs, v = .ref a ∧ FzT W.K H a vs ∧ Rels xs vs
  | .lst xs, v => ∃ a vs, v = .ref a ∧ FzL W.K H a vs ∧ Rels xs vs
  | .dct t ks xs, v => ∃ a o od ns kvs vs, v = .ref a ∧ H a = some (.frz o (dD W.P W.w t a od (List.zip ns (List.zip kvs vs)))) ∧ Rels ks kvs ∧ Rels xs vs ∧ ks.length = xs.length ∧
      Paired (fun k n => keyD k = some n ∧ isTup k = t) ks ns
  | .ref n, v => n < N ∧ v = .ref (β n)
  | .exn a, v => v = .ref a
def Rels : List Dat → List V → Prop
  | [], vs => vs = []
  | d :: ds, vs => ∃ v r, vs = v :: r ∧ Rel d v ∧ Rels ds r
end
end
end Mir
end

section
set_option Elab.async false
set_option linter.all false
set_option maxRecDepth 100000
/-! Mir2: the simulation: cells, steps, frames of a def's slots. -/
namespace Mir
open PySem PySem.Spec
open PyProof.Rows L2

/-- what never changes stays -/
structure PExt (H H' : Hp) : Prop where
  tups : ∀ a xs, H a = some (.tup xs) → H' a = some (.tup xs)
  frzs : ∀ a o u, H a = some (.frz o u) → H' a = some (.frz o u)
theorem PExt.refl (H : Hp) : PExt H H := ⟨fun _ _ e => e, fun _ _ _ e => e⟩
theorem PExt.trans {H H1 H2 : Hp} (a : PExt H H1) (b : PExt H1 H2) : PExt H H2 := ⟨fun _ _ e => b.tups _ _ (a.tups _ _ e), fun _ _ _ e => b.frzs _ _ _ (a.frzs _ _ _ e)⟩
theorem FzL.mono {K : PySem.W.Frag} {H H' : Hp} {a : Addr} {xs : List V} (p : PExt H H') (h : FzL K H a xs) : FzL K H' a xs := by
  rcases h with ⟨o, h⟩ | h
  · exact .inl ⟨o, p.frzs _ _ _ h⟩
  · exact .inr h
theorem FzT.mono {K : PySem.W.Frag} {H H' : Hp} {a : Addr} {xs : List V} (p : PExt H H') (h : FzT K H a xs) : FzT K H' a xs := by
  rcases h with h | h
  · exact .inl (p.tups _ _ h)
  · exact .inr h

section
variable {W : Wd} {β β' : Nat → Addr} {N N' : Nat} {H H' : Hp}
theorem rels_paired : ∀ {ds : List Dat} {vs : List V}, Rels W β N H ds vs ↔ Paired (Rel W β N H) ds vs
  | [], vs => by
    unfold Rels
    constructor
    · rintro rfl; exact .nil
    · intro h; cases h; rfl
  | d :: ds, vs => by
    unfold Rels
    constructor
    · rintro ⟨v, r, rfl, h1, h2⟩
      exact .cons h1 (rels_paired.mp h2)
    · intro h
      cases h with
      | cons h1 h2 => exact ⟨_, _, rfl, h1, rels_paired.mpr h2⟩
mutual
theorem Rel.mono (p : PExt H H') (hN : N ≤ N') (hb : ∀ n, n < N → β' n = β n) : ∀ (d : Dat) (v : V), Rel W β N H d v → Rel W β' N' H' d v
  | .non, v, h => by unfold Rel at h ⊢; exact h
  | .bl _, v, h => by unfold Rel at h ⊢; exact h
  | .int _, v, h => by unfold Rel at h ⊢; exact h
  | .str _, v, h => by unfold Rel at h ⊢; exact h
  | .tup xs, v, h => by
    unfold Rel at h ⊢
    obtain ⟨a, vs, e, h1, h2⟩ := h
    exact ⟨a, vs, e, h1.mono p, Rels.mono p hN hb xs vs h2⟩
  | .lst xs, v, h => by
    unfold Rel at h ⊢
    obtain ⟨a, vs, e, h1, h2⟩ := h
    exact ⟨a, vs, e, h1.mono p, Rels.mono p hN hb xs vs h2⟩
  | .dct t ks xs, v, h => by
    unfold Rel at h ⊢
    obtain ⟨a, o, od, ns, kvs, vs, e, h1, h2, h3, h4, h5⟩ := h
    exact ⟨a, o, od, ns, kvs, vs, e, p.frzs _ _ _ h1, Rels.mono p hN hb ks kvs h2, Rels.mono p hN hb xs vs h3, h4, h5⟩
  | .ref n, v, h => by
    unfold Rel at h ⊢
    exact ⟨Nat.lt_of_lt_of_le h.1 hN, by rw [hb n h.1]; exact h.2⟩
  | .exn a, v, h => by unfold Rel at h ⊢; exact h
theorem Rels.mono (p : PExt H H') (hN : N ≤ N') (hb : ∀ n, n < N → β' n = β n) : ∀ (ds : List Dat) (vs : List V), Rels W β N H ds vs → Rels W β' N' H' ds vs
  | [], vs, h => by unfold Rels at h ⊢; exact h
  | d :: ds, vs, h => by
    unfold Rels at h ⊢
    obtain ⟨v, r, e, h1, h2⟩ := h
    exact ⟨v, r, e, Rel.mono p hN hb d v h1, Rels.mono p hN hb ds r h2⟩
end
theorem Rels.length : ∀ {ds : List Dat} {vs : List V}, Rels W β N H ds vs → ds.length = vs.length
  | [], vs, h => by unfold Rels at h; subst h; rfl
  | d :: ds, vs, h => by
    unfold Rels at h
    obtain ⟨v, r, rfl, _, h2⟩ := h
    simp [Rels.length h2]
end

/-- what lies at a cell's place -/
def CRel (W : Wd) (β : Nat → Addr) (N : Nat) (H : Hp) (a : Addr) : Cell → Prop
  | .lst xs => ∃ vs, H a = some (.lst vs) ∧ Rels W β N H xs vs
  | .dct t _ kvs => ∃ o ns ks vs, H a = some (dD W.P W.w t a o (List.zip ns (List.zip ks vs))) ∧ Rels W β N H (kvs.map (·.1)) ks ∧ Rels W β N H (kvs.map (·.2)) vs ∧
      Paired (fun k n => keyD k = some n ∧ isTup k = t) (kvs.map (·.1)) ns
  | .ins c fs => ∃ C dx vs, W.mg c = some (.ref C) ∧ H a = some (.ins C dx (List.zip (fs.map (·.1)) vs)) ∧ Rels W β N H (fs.map (·.2)) vs
  | .dead => True
theorem CRel.mono {W : Wd} {β β' : Nat → Addr} {N N' : Nat} {H H' : Hp} {a : Addr} {c : Cell} (p : PExt H H') (hN : N ≤ N') (hb : ∀ n, n < N → β' n = β n) (ha : c ≠ .dead → H' a = H a) (h : CRel W β N H a c) : CRel W β' N' H' a c := by
  cases c with
  | lst xs =>
    obtain ⟨vs, h1, h2⟩ := h
    exact ⟨vs, (ha (by simp)).trans h1, Rels.mono p hN hb _ _ h2⟩
  | dct t v kvs =>
    obtain ⟨o, ns, ks, vs, h1, h2, h3, h4⟩ := h
    exact ⟨o, ns, ks, vs, (ha (by simp)).trans h1, Rels.mono p hN hb _ _ h2, Rels.mono p hN hb _ _ h3, h4⟩
  | ins c fs =>
    obtain ⟨C, dx, vs, h0, h1, h2⟩ := h
    exact ⟨C, dx, vs, h0, (ha (by simp)).trans h1, Rels.mono p hN hb _ _ h2⟩
  | dead => trivial
/-- what a live cell's place holds -/
theorem CRel.some {W : Wd} {β : Nat → Addr} {N : Nat} {H : Hp} {a : Addr} {c : Cell} (h : CRel W β N H a c) (hd : c ≠ .dead) :
    ∃ u, H a = some u ∧ (∀ xs, u ≠ .tup xs) ∧ ∀ o v, u ≠ .frz o v := by
  cases c with
  | lst xs => obtain ⟨vs, h1, _⟩ := h; exact ⟨_, h1, (fun _ e => nomatch e), fun _ _ e => nomatch e⟩
  | dct t v kvs => obtain ⟨o, ns, ks, vs, h1, _⟩ := h; exact ⟨_, h1, (fun _ e => nomatch e), fun _ _ e => nomatch e⟩
  | ins c fs => obtain ⟨C, dx, vs, _, h1, _⟩ := h; exact ⟨_, h1, (fun _ e => nomatch e), fun _ _ e => nomatch e⟩
  | dead => exact absurd rfl hd

/-- the mirror's heap lies in the abstract heap -/
structure Sim (W : Wd) (β : Nat → Addr) (H : Hp) (h : Hm) : Prop where
  cell : ∀ (n : Nat) c, h[n]? = some c → CRel W β h.length H (β n) c
  inj : ∀ (n m : Nat) c d, h[n]? = some c → c ≠ .dead → h[m]? = some d → d ≠ .dead → β n = β m → n = m
def Live (β : Nat → Addr) (h : Hm) (a : Addr) : Prop := ∃ n c, h[n]? = some c ∧ c ≠ .dead ∧ β n = a

/-- from (β, H, h) to (β', H', h'): the cells as they are now; all else that was tracked as it was -/
structure Aft (W : Wd) (β : Nat → Addr) (H : Hp) (h : Hm) (β' : Nat → Addr) (H' : Hp) (h' : Hm) : Prop where
  len : h.length ≤ h'.length
  agree : ∀ n, n < h.length → β' n = β n
  sim : Sim W β' H' h'
  rest : ∀ a o, H a = some o → ¬ Live β h a → H' a = some o
  dead : ∀ n : Nat, h[n]? = some Cell.dead → h'[n]? = some Cell.dead
  fresh : ∀ (n : Nat) c, h.length ≤ n → h'[n]? = some c → c ≠ .dead → H (β' n) = none
  keep : ∀ a, H a ≠ none → H' a ≠ none
  vers : ∀ (n : Nat) t v kvs c', h[n]? = some (Cell.dct t v kvs) → h'[n]? = some c' → c' = .dead ∨ ∃ t' v' kvs', c' = .dct t' v' kvs' ∧ v ≤ v' ∧ (v' = v → t' = t ∧ kvs' = kvs ∧ H' (β' n) = H (β n))

section
variable {W : Wd} {β β1 β2 : Nat → Addr} {H H1 H2 : Hp} {h h1 h2 : Hm}
theorem Sim.notLive (s : Sim W β H h) {a : Addr} {u : HO} (e : H a = some u) (hu : (∃ xs, u = .tup xs) ∨ ∃ o v, u = .frz o v) : ¬ Live β h a := by
  rintro ⟨n, c, h1, h2, h3⟩
  obtain ⟨u', e', n1, n2⟩ := (s.cell n c h1).some h2
  rw [h3, e] at e'
  cases e'
  rcases hu with ⟨xs, rfl⟩ | ⟨o, v, rfl⟩
  · exact n1 _ rfl
  · exact n2 _ _ rfl
theorem Aft.pext (a : Aft W β H h β1 H1 h1) (s : Sim W β H h) : PExt H H1 :=
  ⟨fun _ _ e => a.rest _ _ e (s.notLive e (.inl ⟨_, rfl⟩)), fun _ _ _ e => a.rest _ _ e (s.notLive e (.inr ⟨_, _, rfl⟩))⟩
theorem Aft.refl (s : Sim W β H h) : Aft W β H h β H h :=
  ⟨Nat.le_refl _, fun _ _ => rfl, s, fun _ _ e _ => e, fun _ e => e, fun n c hn e _ => (by
    rw [List.getElem?_eq_none hn] at e; cases e), fun _ e => e, fun n t v kvs c' e e' => (by rw [e] at e'; cases e'; exact .inr ⟨t, v, kvs, rfl, Nat.le_refl _, fun _ => ⟨rfl, rfl, rfl⟩⟩)⟩
theorem Aft.trans (a : Aft W β H h β1 H1 h1) (b : Aft W β1 H1 h1 β2 H2 h2) : Aft W β H h β2 H2 h2 where
  len := Nat.le_trans a.len b.len
  agree := fun n hn => (b.agree n (Nat.lt_of_lt_of_le hn a.len)).trans (a.agree n hn)
  sim := b.sim
  rest := fun p o e hl => by
    refine b.rest p o (a.rest p o e hl) ?_
    rintro ⟨n, c, e1, hc, hp⟩
    by_cases hn : n < h.length
    · have e0 : ∃ c0, h[n]? = some c0 := ⟨_, List.getElem?_eq_getElem hn⟩
      obtain ⟨c0, e0⟩ := e0
      by_cases hd : c0 = .dead
      · subst hd
        have := a.dead n e0
        rw [e1] at this; cases this
        exact hc rfl
      · exact hl ⟨n, c0, e0, hd, by rw [← a.agree n hn]; exact hp⟩
    · have := a.fresh n c (Nat.le_of_not_lt hn) e1 hc
      rw [hp, e] at this; cases this
  dead := fun n e => b.dead n (a.dead n e)
  fresh := fun n c hn e hc => by
    by_cases hn1 : n < h1.length
    · obtain ⟨c1, e1⟩ : ∃ c1, h1[n]? = some c1 := ⟨_, List.getElem?_eq_getElem hn1⟩
      have hd : c1 ≠ .dead := fun z => by
        subst z
        have := b.dead n e1
        rw [e] at this; cases this; exact hc rfl
      rw [b.agree n hn1]
      exact a.fresh n c1 hn e1 hd
    · have q := b.fresh n c (Nat.le_of_not_lt hn1) e hc
      cases z : H (β2 n) with
      | none => rfl
      | some u => exact absurd q (a.keep _ (by rw [z]; simp))
  keep := fun p e => b.keep p (a.keep p e)
  vers := fun n t v kvs c2 e e2 => by
    have hn : n < h1.length := Nat.lt_of_lt_of_le (List.getElem?_eq_some_iff.mp e).1 a.len
    obtain ⟨c1, e1⟩ : ∃ c1, h1[n]? = some c1 := ⟨_, List.getElem?_eq_getElem hn⟩
    rcases a.vers n t v kvs c1 e e1 with rfl | ⟨t1, v1, kvs1, rfl, hv, k1⟩
    · have := b.dead n e1
      rw [e2] at this; cases this
      exact .inl rfl
    · rcases b.vers n t1 v1 kvs1 c2 e1 e2 with rfl | ⟨t2, v2, kvs2, rfl, hv2, k2⟩
      · exact .inl rfl
      · refine .inr ⟨t2, v2, kvs2, rfl, Nat.le_trans hv hv2, fun z => ?_⟩
        have z1 : v1 = v := Nat.le_antisymm (by rw [← z]; exact hv2) hv
        obtain ⟨q1, q2, q3⟩ := k1 z1
        obtain ⟨q4, q5, q6⟩ := k2 (by rw [z1]; exact z)
        exact ⟨q4.trans q1, q5.trans q2, q6.trans q3⟩
theorem Aft.rel {d : Dat} {v : V} (a : Aft W β H h β1 H1 h1) (s : Sim W β H h) (r : Rel W β h.length H d v) : Rel W β1 h1.length H1 d v :=
  Rel.mono (a.pext s) a.len a.agree _ _ r
theorem Aft.rels {ds : List Dat} {vs : List V} (a : Aft W β H h β1 H1 h1) (s : Sim W β H h) (r : Rels W β h.length H ds vs) : Rels W β1 h1.length H1 ds vs :=
  Rels.mono (a.pext s) a.len a.agree _ _ r

/-- something new is tracked that is no cell -/
theorem Aft.laid {p : Addr} {o : HO} (s : Sim W β H h) (hp : H p = none) : Aft W β H h β (upd H p o) h := by
  have ne : ∀ a u, H a = some u → a ≠ p := fun a u e z => by rw [z, hp] at e; cases e
  have pe : PExt H (upd H p o) := ⟨fun a xs e => by rw [upd_ne (ne a _ e)]; exact e, fun a q u e => by rw [upd_ne (ne a _ e)]; exact e⟩
  refine ⟨Nat.le_refl _, fun _ _ => rfl, ⟨fun n c e => ?_, s.inj⟩, fun a u e _ => by rw [upd_ne (ne a u e)]; exact e, fun _ e => e, fun n c hn e _ => (by rw [List.getElem?_eq_none hn] at e; cases e), fun a e => ?_, fun n t v kvs c' e e' => ?_⟩
  · refine CRel.mono pe (Nat.le_refl _) (fun _ _ => rfl) (fun hd => ?_) (s.cell n c e)
    obtain ⟨u, e', _⟩ := (s.cell n c e).some hd
    exact upd_ne (ne _ _ e')
  · by_cases z : a = p
    · subst z; rw [upd_same]; simp
    · rw [upd_ne z]; exact e
  · rw [e] at e'; cases e'
    refine .inr ⟨t, v, kvs, rfl, Nat.le_refl _, fun _ => ⟨rfl, rfl, ?_⟩⟩
    obtain ⟨u, e2, _⟩ := (s.cell n _ e).some (by simp)
    exact upd_ne (ne _ _ e2)
/-- the place of a new cell -/
def bx (β : Nat → Addr) (N : Nat) (p : Addr) : Nat → Addr := fun n => if n = N then p else β n
theorem bx_lt {β : Nat → Addr} {N n : Nat} {p : Addr} (h : n < N) : bx β N p n = β n := if_neg (Nat.ne_of_lt h)
theorem bx_eq {β : Nat → Addr} {N : Nat} {p : Addr} : bx β N p N = p := if_pos rfl
/-- a new cell -/
theorem Aft.alloc {p : Addr} {o : HO} {c : Cell} (s : Sim W β H h) (hp : H p = none) (hc : CRel W (bx β h.length p) (h.length + 1) (upd H p o) p c) :
    Aft W β H h (bx β h.length p) (upd H p o) (h ++ [c]) := by
  have ne : ∀ a u, H a = some u → a ≠ p := fun a u e z => by rw [z, hp] at e; cases e
  have pe : PExt H (upd H p o) := ⟨fun a xs e => by rw [upd_ne (ne a _ e)]; exact e, fun a q u e => by rw [upd_ne (ne a _ e)]; exact e⟩
  have ag : ∀ n, n < h.length → (bx β h.length p) n = β n := fun n hn => bx_lt hn
  have at_ : ∀ n c', (h ++ [c])[n]? = some c' → (n < h.length ∧ h[n]? = some c') ∨ (n = h.length ∧ c' = c) := fun n c' e => by
    by_cases hn : n < h.length
    · rw [List.getElem?_append_left hn] at e; exact .inl ⟨hn, e⟩
    · rw [List.getElem?_append_right (Nat.le_of_not_lt hn)] at e
      have : n - h.length = 0 := by
        by_cases z : n - h.length = 0
        · exact z
        · rw [List.getElem?_eq_none (by simp; omega)] at e; cases e
      rw [this] at e
      simp at e
      exact .inr ⟨by omega, e.symm⟩
  refine ⟨by simp, ag, ⟨fun n c' e => ?_, fun n m c1 c2 e1 d1 e2 d2 q => ?_⟩, fun a u e _ => by rw [upd_ne (ne a u e)]; exact e, fun n e => ?_, fun n c' hn e _ => ?_, fun a e => ?_, fun n t v kvs c' e e' => ?_⟩
  · rw [List.length_append]
    rcases at_ n c' e with ⟨hn, e'⟩ | ⟨rfl, rfl⟩
    · rw [ag n hn]
      refine CRel.mono pe (Nat.le_succ _) ag (fun hd => ?_) (s.cell n c' e')
      obtain ⟨u, e2, _⟩ := (s.cell n c' e').some hd
      exact upd_ne (ne _ _ e2)
    · rw [bx_eq]
      exact hc
  · rcases at_ n c1 e1 with ⟨hn, e1'⟩ | ⟨rfl, rfl⟩ <;> rcases at_ m c2 e2 with ⟨hm, e2'⟩ | ⟨rfl, rfl⟩
    · rw [ag n hn, ag m hm] at q
      exact s.inj n m c1 c2 e1' d1 e2' d2 q
    · rw [ag n hn] at q
      rw [bx_eq] at q
      obtain ⟨u, e', _⟩ := (s.cell n c1 e1').some d1
      rw [q, hp] at e'; cases e'
    · rw [ag m hm] at q
      rw [bx_eq] at q
      obtain ⟨u, e', _⟩ := (s.cell m c2 e2').some d2
      rw [← q, hp] at e'; cases e'
    · rfl
  · have hn : n < h.length := (List.getElem?_eq_some_iff.mp e).1
    rw [List.getElem?_append_left hn]; exact e
  · rcases at_ n c' e with ⟨hn', _⟩ | ⟨rfl, _⟩
    · exact absurd hn' (Nat.not_lt.mpr hn)
    · rw [bx_eq]; exact hp
  · by_cases z : a = p
    · subst z; rw [upd_same]; simp
    · rw [upd_ne z]; exact e
  · have hn : n < h.length := (List.getElem?_eq_some_iff.mp e).1
    rw [List.getElem?_append_left hn, e] at e'
    cases e'
    refine .inr ⟨t, v, kvs, rfl, Nat.le_refl _, fun _ => ⟨rfl, rfl, ?_⟩⟩
    rw [bx_lt hn]
    obtain ⟨u, e2, _⟩ := (s.cell n _ e).some (by simp)
    exact upd_ne (ne _ _ e2)
/-- a cell is written -/
theorem Aft.write {n : Nat} {c c' : Cell} {o : HO} (s : Sim W β H h) (e : h[n]? = some c) (hd : c ≠ .dead) (hv : ∀ t v kvs, c = .dct t v kvs → c' = .dead ∨ ∃ t' v' kvs', c' = .dct t' v' kvs' ∧ v < v') (hp : ∀ u, H (β n) = some u → (∀ xs, u ≠ .tup xs) → (∀ q v, u ≠ .frz q v) → CRel W β h.length (upd H (β n) o) (β n) c') :
    Aft W β H h β (upd H (β n) o) (h.set n c') := by
  obtain ⟨u, eu, n1, n2⟩ := (s.cell n c e).some hd
  have hn : n < h.length := (List.getElem?_eq_some_iff.mp e).1
  have pe : PExt H (upd H (β n) o) := ⟨fun a xs q => by rw [upd_ne (fun z => by rw [z, eu] at q; cases q; exact n1 _ rfl)]; exact q, fun a q' u' q => by rw [upd_ne (fun z => by rw [z, eu] at q; cases q; exact n2 _ _ rfl)]; exact q⟩
  have at_ : ∀ m d, (h.set n c')[m]? = some d → (m ≠ n ∧ h[m]? = some d) ∨ (m = n ∧ d = c') := fun m d q => by
    by_cases z : m = n
    · subst z; rw [List.getElem?_set_self hn] at q; exact .inr ⟨rfl, (Option.some.inj q).symm⟩
    · rw [List.getElem?_set_ne (Ne.symm z)] at q; exact .inl ⟨z, q⟩
  refine ⟨by simp, fun _ _ => rfl, ⟨fun m d q => ?_, fun m k d1 d2 q1 z1 q2 z2 q => ?_⟩, fun a u' q nl => ?_, fun m q => ?_, fun m d hm q _ => ?_, fun a q => ?_, fun m t v kvs d q q2 => ?_⟩
  · rw [List.length_set]
    rcases at_ m d q with ⟨z, q'⟩ | ⟨rfl, rfl⟩
    · refine CRel.mono pe (Nat.le_refl _) (fun _ _ => rfl) (fun hdd => ?_) (s.cell m d q')
      exact upd_ne fun zz => z (s.inj m n d c q' hdd e hd zz)
    · exact hp u eu n1 n2
  · have base : ∀ (m : Nat) (d : Cell), (h.set n c')[m]? = some d → d ≠ .dead → ∃ d0 : Cell, h[m]? = some d0 ∧ d0 ≠ .dead := fun m d q z => by
      rcases at_ m d q with ⟨_, q'⟩ | ⟨rfl, _⟩
      · exact ⟨d, q', z⟩
      · exact ⟨c, e, hd⟩
    obtain ⟨a1, b1, b2⟩ := base m d1 q1 z1
    obtain ⟨a2, b3, b4⟩ := base k d2 q2 z2
    exact s.inj m k a1 a2 b1 b2 b3 b4 q
  · rw [upd_ne fun z => nl ⟨n, c, e, hd, z.symm⟩]; exact q
  · by_cases z : m = n
    · subst z; rw [e] at q; cases q; exact absurd rfl hd
    · rw [List.getElem?_set_ne (Ne.symm z)]; exact q
  · rw [List.getElem?_eq_none (by simpa using hm)] at q; cases q
  · by_cases z : a = β n
    · subst z; rw [upd_same]; simp
    · rw [upd_ne z]; exact q
  · by_cases z : m = n
    · subst z
      rw [List.getElem?_set_self hn] at q2
      cases q2
      rw [e] at q
      cases q
      rcases hv t v kvs rfl with rfl | ⟨t', v', kvs', rfl, lt⟩
      · exact .inl rfl
      · exact .inr ⟨t', v', kvs', rfl, Nat.le_of_lt lt, fun z => absurd z (Nat.ne_of_gt lt)⟩
    · rw [List.getElem?_set_ne (Ne.symm z), q] at q2
      cases q2
      exact .inr ⟨t, v, kvs, rfl, Nat.le_refl _, fun _ => ⟨rfl, rfl, upd_ne fun zz => z (s.inj m n _ _ q (by simp) e hd zz)⟩⟩
end

/-- the slots: what the mirror knows of them -/
abbrev Env' := List (Option Dat)
def ER (W : Wd) (l : Nat) (β : Nat → Addr) (N : Nat) (H : Hp) (ρ : Env') (σ : L2.St) : Prop := (ρ.length = l ∧ σ.length = l) ∧ ∀ (i : Nat) (d : Dat), ρ[i]? = some (some d) → ∃ v, σ[i]? = some (some v) ∧ Rel W β N H d v
section
variable {W : Wd} {l : Nat} {β β1 : Nat → Addr} {N : Nat} {H H1 : Hp} {h h1 : Hm} {ρ : Env'} {σ : L2.St}
theorem Aft.er (a : Aft W β H h β1 H1 h1) (s : Sim W β H h) (r : ER W l β h.length H ρ σ) : ER W l β1 h1.length H1 ρ σ :=
  ⟨r.1, fun i d e => let ⟨v, e1, r1⟩ := r.2 i d e; ⟨v, e1, a.rel s r1⟩⟩
theorem ER.set {i : Nat} {d : Dat} {v : V} (r : ER W l β N H ρ σ) (q : Rel W β N H d v) : ER W l β N H (ρ.set i (some d)) (σ.set i (some v)) := by
  refine ⟨⟨by rw [List.length_set]; exact r.1.1, by rw [List.length_set]; exact r.1.2⟩, fun j d' e => ?_⟩
  by_cases z : i = j
  · subst z
    by_cases hi : i < ρ.length
    · rw [List.getElem?_set_self hi] at e
      cases e
      exact ⟨v, List.getElem?_set_self (by rw [r.1.2, ← r.1.1]; exact hi), q⟩
    · rw [List.getElem?_eq_none (by simpa using hi)] at e; cases e
  · rw [List.getElem?_set_ne z] at e ⊢
    exact r.2 j d' e
theorem ER.set_none {i : Nat} {v : Option V} (r : ER W l β N H ρ σ) : ER W l β N H (ρ.set i none) (σ.set i v) := by
  refine ⟨⟨by rw [List.length_set]; exact r.1.1, by rw [List.length_set]; exact r.1.2⟩, fun j d' e => ?_⟩
  by_cases z : i = j
  · subst z
    by_cases hi : i < ρ.length
    · rw [List.getElem?_set_self hi] at e; cases e
    · rw [List.getElem?_eq_none (by simpa using hi)] at e; cases e
  · rw [List.getElem?_set_ne z] at e ⊢
    exact r.2 j d' e
end
end Mir
end

section
set_option Elab.async false
set_option linter.all false
set_option maxRecDepth 100000
/-! Mir3: the readings of mirrors; freezing. -/
namespace Mir
open PySem PySem.Spec
open PyProof.Rows L2

/-! ### weaker readings -/
theorem pe_weak {X : Cx} {e : Expr} {t t' : TE} (h : PE X e t) (w : ∀ σ H Q, t' σ H Q → t σ H Q) : PE X e t' := ⟨fun pins s σ H Q I q => h.run pins s σ H Q I (w σ H Q q)⟩
theorem pt_weak {X : Cx} {e : Expr} {t t' : TT} (h : PT X e t) (w : ∀ σ H Q, t' σ H Q → t σ H Q) : PT X e t' := ⟨fun pins s σ H Q I q => h.run pins s σ H Q I (w σ H Q q)⟩
theorem pa_weak {X : Cx} {es : List Expr} {t t' : TA} (h : PA X es t) (w : ∀ σ H Q, t' σ H Q → t σ H Q) : PA X es t' := ⟨fun pos pins s σ H Q I q => h.run pos pins s σ H Q I (w σ H Q q)⟩
theorem ps_weak {X : Cx} {st : Stmt} {t t' : TS} (h : PS X st t) (w : ∀ D σ H, t' D σ H → t D σ H) : PS X st t' := ⟨fun pins s σ H D I q => h.run pins s σ H D I (w D σ H q)⟩
theorem pss_weak {X : Cx} {st : List Stmt} {t t' : TS} (h : PSs X st t) (w : ∀ D σ H, t' D σ H → t D σ H) : PSs X st t' := ⟨fun pins s σ H D I q => h.run pins s σ H D I (w D σ H q)⟩
theorem pi_weak {X : Cx} {tg e : Expr} {t t' : TI} (h : PI X tg e t) (w : ∀ σ H Q, t' σ H Q → t σ H Q) : PI X tg e t' := ⟨fun pins s σ H Q I q => h.run pins s σ H Q I (w σ H Q q)⟩

/-! ### where an outcome lands -/
section
variable {α τ : Type} (W : Wd) (R : (Nat → Addr) → Nat → Hp → α → τ → Prop)
def Lands (β : Nat → Addr) (H : Hp) (h : Hm) (r : Res α) (Q : τ → Hp → Prop) (E : Addr → Hp → Prop) : Prop :=
  match r with
  | .bad => False
  | .val a h' => ∀ β' H' v, Aft W β H h β' H' h' → R β' h'.length H' a v → Q v H'
  | .exc c h' => ∀ β' H' C, Aft W β H h β' H' h' → W.mg c = some (.ref C) → E C H'
end
section
variable {α τ α' τ' : Type} {W : Wd} {R : (Nat → Addr) → Nat → Hp → α → τ → Prop} {R' : (Nat → Addr) → Nat → Hp → α' → τ' → Prop} {β : Nat → Addr} {H : Hp} {h : Hm} {E : Addr → Hp → Prop}
theorem Lands.ret {a : α} {v : τ} {Q : τ → Hp → Prop} (L : Lands W R β H h (.val a h) Q E) (s : Sim W β H h) (r : R β h.length H a v) : Q v H := L β H v (Aft.refl s) r
theorem Lands.mono {r : Res α} {Q Q' : τ → Hp → Prop} (L : Lands W R β H h r Q E) (hq : ∀ v H', Q v H' → Q' v H') : Lands W R β H h r Q' E := by
  cases r with
  | bad => exact L
  | val a h' => exact fun β' H' v A r => hq _ _ (L β' H' v A r)
  | exc c h' => exact L
/-- from a later state -/
theorem Lands.after {β1 : Nat → Addr} {H1 : Hp} {h1 : Hm} {r : Res α} {Q : τ → Hp → Prop} (A : Aft W β H h β1 H1 h1) (L : Lands W R β H h r Q E) : Lands W R β1 H1 h1 r Q E := by
  cases r with
  | bad => exact L
  | val a h' => exact fun β' H' v B r => L β' H' v (A.trans B) r
  | exc c h' => exact fun β' H' C B e => L β' H' C (A.trans B) e
theorem Lands.bind {m : Mo α'} {f : α' → Mo α} {Q : τ → Hp → Prop} (L : Lands W R β H h ((m >>= f) h) Q E) :
    Lands W R' β H h (m h) (fun v1 H1 => ∃ β1 h1 a1, Sim W β1 H1 h1 ∧ R' β1 h1.length H1 a1 v1 ∧ Aft W β H h β1 H1 h1 ∧ Lands W R β1 H1 h1 (f a1 h1) Q E) E := by
  cases e : m h with
  | bad => rw [bnd_bad e] at L; exact L
  | val a h1 =>
    rw [bnd_val e] at L
    exact fun β1 H1 v A r => ⟨β1, h1, a, A.sim, r, A, L.after A⟩
  | exc c h1 => rw [bnd_exc e] at L; exact L
end

/-! ### the readings -/
abbrev Mv := Env' → Mo Dat
abbrev Mb := Env' → Mo Bool
abbrev Ml := Env' → Mo (List Dat)
/-- the wish of an exception, at the slots -/
abbrev exW (Wx : WX) (σ : L2.St) : Addr → Hp → Prop := fun C H' => Wx (.ref C) none σ H'
def tM (X : Cx) (Wx : WX) (m : Mv) : TE := fun σ H Q => ∃ β ρ h, ER (wd X) X.N.length β h.length H ρ σ ∧ Sim (wd X) β H h ∧ Lands (wd X) (Rel (wd X)) β H h (m ρ h) Q (exW Wx σ)
def tMT (X : Cx) (Wx : WX) (m : Mb) : TT := fun σ H Q => ∃ β ρ h, ER (wd X) X.N.length β h.length H ρ σ ∧ Sim (wd X) β H h ∧ Lands (wd X) (fun _ _ _ (a b : Bool) => a = b) β H h (m ρ h) Q (exW Wx σ)
def tMA (X : Cx) (Wx : WX) (m : Ml) : TA := fun σ H Q => ∃ β ρ h, ER (wd X) X.N.length β h.length H ρ σ ∧ Sim (wd X) β H h ∧ Lands (wd X) (fun β N H => Rels (wd X) β N H) β H h (m ρ h) Q (exW Wx σ)
/-- a new list that nobody knows yet: what it holds -/
def tML (X : Cx) (Wx : WX) (m : Ml) : TE := fun σ H Q => ∃ β ρ h, ER (wd X) X.N.length β h.length H ρ σ ∧ Sim (wd X) β H h ∧
  Lands (wd X) (fun β N H => Rels (wd X) β N H) β H h (m ρ h) (fun vs H' => ∀ p, H' p = none → Q (.ref p) (upd H' p (.lst vs))) (exW Wx σ)
/-- a new dict that nobody knows yet -/
abbrev Md := Env' → Mo (List (Dat × Dat))
def KvR (W : Wd) (β : Nat → Addr) (N : Nat) (H : Hp) (t : Bool) (kvs : List (Dat × Dat)) (ys : List (NestedKey × V × V)) : Prop :=
  ∃ ns ks vs, ys = List.zip ns (List.zip ks vs) ∧ Rels W β N H (kvs.map (·.1)) ks ∧ Rels W β N H (kvs.map (·.2)) vs ∧ Paired (fun k n => keyD k = some n ∧ isTup k = t) (kvs.map (·.1)) ns
def tMD (X : Cx) (Wx : WX) (t : Bool) (m : Md) : TE := fun σ H Q => ∃ β ρ h, ER (wd X) X.N.length β h.length H ρ σ ∧ Sim (wd X) β H h ∧
  Lands (wd X) (fun β N H => KvR (wd X) β N H t) β H h (m ρ h) (fun ys H' => ∀ p o, H' p = none → Q (.ref p) (upd H' p (dD X.prog X.w t p o ys))) (exW Wx σ)

abbrev ME (X : Cx) (Wx : WX) (e : Expr) (m : Mv) : Prop := PE X e (tM X Wx m)
abbrev MT (X : Cx) (Wx : WX) (e : Expr) (m : Mb) : Prop := PT X e (tMT X Wx m)
abbrev MA (X : Cx) (Wx : WX) (es : List Expr) (m : Ml) : Prop := PA X es (tMA X Wx m)

/-! ### freezing: what will never change any more is told so -/
def Fzb : HO → Prop
  | .lst _ => True
  | .ext _ => True
  | _ => False
/-- H': the things at S are frozen -/
def Fzn (S : Addr → Prop) (H H' : Hp) : Prop := ∀ a, (¬ S a → H' a = H a) ∧ (S a → ∃ o u, H a = some u ∧ Fzb u ∧ H' a = some (.frz o u))
theorem Fzn.nofrz {S : Addr → Prop} {H H' : Hp} (z : Fzn S H H') {a : Addr} {u : HO} (e : H a = some u) (hu : ¬ Fzb u) : H' a = some u := by
  rw [(z a).1 fun hs => ?_]
  · exact e
  · obtain ⟨o, u', e', f, _⟩ := (z a).2 hs
    rw [e] at e'; cases e'; exact hu f
theorem Fzn.non {S : Addr → Prop} {H H' : Hp} (z : Fzn S H H') {a : Addr} (e : H a = none) : H' a = none := by
  rw [(z a).1 fun hs => ?_]
  · exact e
  · obtain ⟨o, u', e', f, _⟩ := (z a).2 hs
    rw [e] at e'; cases e'
theorem Fzn.un {fs ex : List Addr} {H0 H H' : Hp} {h0 h : Heap} {S : Addr → Prop} (u : Un fs ex H0 H h0 h) (z : Fzn S H H') : Un fs ex H0 H' h0 h where
  keep := u.keep
  slot := u.slot
  free := fun b o e n hx => z.non (u.free b o e n hx)
  there := u.there
  tups := fun b xs e => z.nofrz (u.tups b xs e) (fun f => f)
  frzs := fun b o v e => z.nofrz (u.frzs b o v e) (fun f => f)
  tbls := fun b ps e => by
    obtain ⟨more, e'⟩ := u.tbls b ps e
    exact ⟨more, z.nofrz e' (fun f => f)⟩
theorem Fzn.hok {P : Program} {w : World} {H : Hp} {h : Heap} {S : Addr → Prop} (k : HOk P w H h) (hS : ∀ a, S a → ∃ u, H a = some u ∧ Fzb u) : ∃ H', Fzn S H H' ∧ HOk P w H' h := by
  classical
  let H' : Hp := fun a => if S a then (match H a, h.get? a with
    | some u, some o => some (.frz o u)
    | x, _ => x) else H a
  have z : Fzn S H H' := fun a => by
    refine ⟨fun n => if_neg n, fun hs => ?_⟩
    obtain ⟨u, e, f⟩ := hS a hs
    obtain ⟨o, eo⟩ := objOk_get (k a u e)
    refine ⟨o, u, e, f, ?_⟩
    show (if S a then _ else _) = _
    rw [if_pos hs, e, eo]
  refine ⟨H', z, fun a u e => ?_⟩
  by_cases hs : S a
  · obtain ⟨u', e', f⟩ := hS a hs
    obtain ⟨o, eo⟩ := objOk_get (k a u' e')
    have e2 : H' a = some (.frz o u') := by
      show (if S a then _ else _) = _
      rw [if_pos hs, e', eo]
    rw [e2] at e
    cases e
    refine ⟨eo, (k a u' e').stay (fun _ _ _ q => q) (fun b q => z.nofrz q (fun f => f)) fun b xs q => z.nofrz q (fun f => f)⟩
  · rw [(z a).1 hs] at e
    exact (k a u e).stay (fun _ _ _ q => q) (fun b q => z.nofrz q (fun f => f)) fun b xs q => z.nofrz q (fun f => f)
theorem Inv.frz {X : Cx} {pins : List (Addr × Obj)} {σ : L2.St} {H : Hp} {s : Shared} {S : Addr → Prop} (I : Inv X pins σ H s) (hS : ∀ a, S a → ∃ u, H a = some u ∧ Fzb u) : ∃ H', Fzn S H H' ∧ Inv X pins σ H' s := by
  obtain ⟨H', z, k⟩ := Fzn.hok I.hok hS
  exact ⟨H', z, I.ok, I.os, I.bare, z.un I.base, I.loc, I.cell, z.non I.free, fun x c e => z.non (I.freeC x c e), fun p hp => let ⟨a, b, c⟩ := I.pin p hp; ⟨a, z.non b, c⟩, k, I.len⟩
theorem pe_frz {X : Cx} {e : Expr} {t : TE} (h : PE X e t) : PE X e (fun σ H Q => t σ H fun v H1 => ∃ S : Addr → Prop, (∀ a, S a → ∃ u, H1 a = some u ∧ Fzb u) ∧ ∀ H2, Fzn S H1 H2 → Q v H2) := by
  refine ⟨fun pins s σ H Q I q => ?_⟩
  refine thn (h.run pins s σ H _ I q) fun u s' ⟨v, H1, I1, r, S, hS, q1⟩ => ?_
  obtain ⟨H2, z, I2⟩ := Inv.frz I1 hS
  exact ⟨v, H2, I2, r, q1 H2 z⟩
theorem fn_frz {P : Program} {w : World} {K : PySem.W.Frag} {mg : Str → Option Value} {base : Heap} {k : Nat} {f : Addr} {fd : FuncData} {ps : List Str} {CX : CXT} {sp : Sp} (F : FnOk P w K mg base CX k f fd ps sp)
    (len : ∀ vs H (Q : VK) E, sp vs H (fun v H1 => ∃ S : Addr → Prop, (∀ a, S a → ∃ u, H1 a = some u ∧ Fzb u) ∧ ∀ H2, Fzn S H1 H2 → Q v H2) E → vs.length = ps.length) :
    FnOk P w K mg base CX k f fd ps (fun vs H (Q : VK) E => sp vs H (fun v H1 => ∃ S : Addr → Prop, (∀ a, S a → ∃ u, H1 a = some u ∧ Fzb u) ∧ ∀ H2, Fzn S H1 H2 → Q v H2) E) := by
  refine ⟨len, fun A outer s H args us vs Q E hr e0 hb r hsp => ?_⟩
  refine codeAny_mono (F.run A outer s H args us vs _ E hr e0 hb r hsp) fun rr s' hq => ?_
  cases rr with
  | error e => exact hq
  | ok fl =>
    cases fl with
    | ret u =>
      obtain ⟨v, H', os, bare, un, hok, rv, S, hS, q⟩ := hq
      obtain ⟨H2, z, k2⟩ := Fzn.hok hok hS
      exact ⟨v, H2, os, bare, z.un un, k2, rv, q H2 z⟩
    | next => exact hq
    | brk => exact hq
    | cont => exact hq
end Mir
end

section
set_option Elab.async false
set_option linter.all false
set_option maxRecDepth 100000
/-! Mir4: names, constants, operators by their rules, and, or, not, tests, argument lists, tuples; a new list as a cell or frozen. -/
namespace Mir
open PySem PySem.Spec
open PyProof.Rows L2

abbrev WNo : WX := fun _ _ _ _ => False
/-- what an op on data asks of the abstract machine's rule -/
def OpM (W : Wd) (f : Dat → Dat → Mo Dat) (r : R2) : Prop := ∀ β H h d1 d2 x y (Q : VK) E, Sim W β H h → Rel W β h.length H d1 x → Rel W β h.length H d2 y → Lands W (Rel W) β H h (f d1 d2 h) Q E → r x y H Q
abbrev EqB : (Nat → Addr) → Nat → Hp → Bool → Bool → Prop := fun _ _ _ a b => a = b
def OpMB (W : Wd) (f : Dat → Dat → Mo Bool) (r : R2) : Prop := ∀ β H h d1 d2 x y (Q : Bool → Hp → Prop) E, Sim W β H h → Rel W β h.length H d1 x → Rel W β h.length H d2 y → Lands W EqB β H h (f d1 d2 h) Q E →
  r x y H fun v H' => ∃ k, v = .bl k ∧ Q k H'

section
variable {X : Cx} {Wx : WX}

/-! ### names, constants -/
@[simp] def mVar (i : Nat) : Mv := fun ρ => match ρ[i]? with
  | some (some d) => pure d
  | _ => bad
theorem me_var {e : Expr} (i : Nat) (h : PE X e (tVar i)) : ME X Wx e (mVar i) := pe_weak h fun σ H Q ⟨β, ρ, hm, er, s, L⟩ => by
  have L' : Lands (wd X) (Rel (wd X)) β H hm ((match ρ[i]? with | some (some d) => pure d | _ => bad : Mo Dat) hm) Q (exW Wx σ) := L
  match e : ρ[i]?, L' with
  | some (some d), L' =>
    obtain ⟨v, e1, r⟩ := er.2 i d e
    exact ⟨v, e1, Lands.ret L' s r⟩
  | some none, L' => exact False.elim L'
  | none, L' => exact False.elim L'
@[simp] def mC (d : Dat) : Mv := fun _ => pure d
theorem me_c {e : Expr} {v : V} {d : Dat} (h : PE X e (tC v)) (r : ∀ β N H, Rel (wd X) β N H d v) : ME X Wx e (mC d) := pe_weak h fun σ H Q ⟨β, ρ, hm, er, s, L⟩ => L.ret s (r _ _ _)
theorem me_int {i : Int} {j pos} : ME X Wx (.Constant (.int i) j pos) (mC (.int i)) := me_c pe_int fun _ _ _ => by unfold Rel; rfl
theorem me_bl {b : Bool} {j pos} : ME X Wx (.Constant (.bool b) j pos) (mC (.bl b)) := me_c pe_bl fun _ _ _ => by unfold Rel; rfl
theorem me_non {j pos} : ME X Wx (.Constant .none j pos) (mC .non) := me_c pe_non fun _ _ _ => by unfold Rel; rfl
theorem me_str {x : Str} {j pos} : ME X Wx (.Constant (.str x) j pos) (mC (.str x)) := me_c pe_str fun _ _ _ => by unfold Rel; rfl
theorem me_globI {x : Str} {i : Int} {t : Tok} {pos : Pos} (hm : X.mg x = some (.int i t)) (hg : Gl X x := by rfl) (hd : (x == ("__debug__" : Str)) = false := by decide) : ME X Wx (.Name x pos) (mC (.int i)) := me_c (v := .int i) (pe_glob hg hm ⟨_, rfl⟩ hd) fun _ _ _ => by unfold Rel; rfl
theorem me_globS {x y : Str} {t : Tok} {pos : Pos} (hm : X.mg x = some (.str y t)) (hg : Gl X x := by rfl) (hd : (x == ("__debug__" : Str)) = false := by decide) : ME X Wx (.Name x pos) (mC (.str y)) := me_c (v := .str y) (pe_glob hg hm ⟨_, rfl⟩ hd) fun _ _ _ => by unfold Rel; rfl

/-! ### two in a row -/
theorem two {ma mb : Mv} {α τ : Type} {R : (Nat → Addr) → Nat → Hp → α → τ → Prop} {f : Dat → Dat → Mo α} {σ : L2.St} {H : Hp} {Q : τ → Hp → Prop} {β : Nat → Addr} {ρ : Env'} {h : Hm} {P : V → V → Hp → Prop}
    (er : ER (wd X) X.N.length β h.length H ρ σ) (s : Sim (wd X) β H h) (L : Lands (wd X) R β H h ((do let x ← ma ρ; let y ← mb ρ; f x y) h) Q (exW Wx σ))
    (k : ∀ β2 H2 h2 d1 d2 x y, Sim (wd X) β2 H2 h2 → Rel (wd X) β2 h2.length H2 d1 x → Rel (wd X) β2 h2.length H2 d2 y → Lands (wd X) R β2 H2 h2 (f d1 d2 h2) Q (exW Wx σ) → P x y H2) :
    tM X Wx ma σ H fun x H1 => tM X Wx mb σ H1 fun y H2 => P x y H2 := by
  refine ⟨β, ρ, h, er, s, (Lands.bind (R' := Rel (wd X)) L).mono fun x H1 ⟨β1, h1, d1, s1, r1, A1, L1⟩ => ?_⟩
  refine ⟨β1, ρ, h1, A1.er s er, s1, (Lands.bind (R' := Rel (wd X)) L1).mono fun y H2 ⟨β2, h2, d2, s2, r2, A2, L2⟩ => ?_⟩
  exact k β2 H2 h2 d1 d2 x y s2 (A2.rel s1 r1) r2 L2
theorem one {ma : Mv} {α τ : Type} {R : (Nat → Addr) → Nat → Hp → α → τ → Prop} {f : Dat → Mo α} {σ : L2.St} {H : Hp} {Q : τ → Hp → Prop} {β : Nat → Addr} {ρ : Env'} {h : Hm} {P : V → Hp → Prop}
    (er : ER (wd X) X.N.length β h.length H ρ σ) (s : Sim (wd X) β H h) (L : Lands (wd X) R β H h ((do let x ← ma ρ; f x) h) Q (exW Wx σ))
    (k : ∀ β1 H1 h1 d1 x, Sim (wd X) β1 H1 h1 → Rel (wd X) β1 h1.length H1 d1 x → Aft (wd X) β H h β1 H1 h1 → Lands (wd X) R β1 H1 h1 (f d1 h1) Q (exW Wx σ) → P x H1) :
    tM X Wx ma σ H P := by
  refine ⟨β, ρ, h, er, s, (Lands.bind (R' := Rel (wd X)) L).mono fun x H1 ⟨β1, h1, d1, s1, r1, A1, L1⟩ => ?_⟩
  exact k β1 H1 h1 d1 x s1 r1 A1 L1

/-! ### operators -/
@[simp] def mBin (f : Dat → Dat → Mo Dat) (ma mb : Mv) : Mv := fun ρ => do let x ← ma ρ; let y ← mb ρ; f x y
@[simp] def mCmp (f : Dat → Dat → Mo Bool) (ma mb : Mv) : Mv := fun ρ => do let x ← ma ρ; let y ← mb ρ; let b ← f x y; pure (.bl b)
@[simp] def mCmpT (f : Dat → Dat → Mo Bool) (ma mb : Mv) : Mb := fun ρ => do let x ← ma ρ; let y ← mb ρ; f x y
theorem me_op {op : Operator} {r : R2} {f : Dat → Dat → Mo Dat} {a b : Expr} {ma mb : Mv} {pos : Pos} (ho : OpR X (binaryOp op) r) (hf : OpM (wd X) f r) (ha : ME X Wx a ma) (hb : ME X Wx b mb) : ME X Wx (.BinOp a op b pos) (mBin f ma mb) :=
  pe_weak (pe_op ho ha hb) fun σ H Q ⟨β, ρ, h, er, s, L⟩ => two er s L fun β2 H2 h2 d1 d2 x y s2 r1 r2 L2 => hf β2 H2 h2 d1 d2 x y Q _ s2 r1 r2 L2
/-- a comparison, as a value: PE is monotone in what is wanted -/
theorem pe_mono {e : Expr} {t : TE} (h : PE X e t) : PE X e fun σ H Q => ∃ Q' : VK, (∀ v H', Q' v H' → Q v H') ∧ t σ H Q' := ⟨fun pins s σ H Q I ⟨Q', w, q⟩ =>
  thn (h.run pins s σ H Q' I q) fun u s' ⟨v, H1, I1, r, q1⟩ => ⟨v, H1, I1, r, w v H1 q1⟩⟩
theorem Lands.boolD {W : Wd} {β : Nat → Addr} {H : Hp} {h : Hm} {m : Mo Bool} {Q : VK} {E : Addr → Hp → Prop} (L : Lands W (Rel W) β H h ((do let b ← m; pure (Dat.bl b)) h) Q E) : Lands W EqB β H h (m h) (fun k H' => Q (.bl k) H') E := by
  cases e : m h with
  | bad => rw [bnd_bad e] at L; exact L
  | val a h1 =>
    rw [bnd_val e] at L
    rintro β' H' v A rfl
    exact L β' H' _ A (by unfold Rel; rfl)
  | exc c h1 => rw [bnd_exc e] at L; exact L
theorem me_cmp {op : CmpOp} {r : R2} {f : Dat → Dat → Mo Bool} {a b : Expr} {ma mb : Mv} {pos : Pos} (ho : OpR X (compareOp op) r) (hf : OpMB (wd X) f r) (ha : ME X Wx a ma) (hb : ME X Wx b mb) (hm : behindInMarks op b = false) : ME X Wx (.Compare a [op] [b] pos) (mCmp f ma mb) :=
  pe_weak (pe_mono (pe_cmpR ho ha hb hm)) fun σ H Q ⟨β, ρ, h, er, s, L⟩ => ⟨fun v H' => ∃ k, v = .bl k ∧ Q (.bl k) H', fun v H' ⟨k, e, q⟩ => e ▸ q, two er s L fun β2 H2 h2 d1 d2 x y s2 r1 r2 L2 =>
    hf β2 H2 h2 d1 d2 x y (fun k H' => Q (.bl k) H') _ s2 r1 r2 L2.boolD⟩
theorem mt_cmp {op : CmpOp} {r : R2} {f : Dat → Dat → Mo Bool} {a b : Expr} {ma mb : Mv} {pos : Pos} (ho : OpR X (compareOp op) r) (hf : OpMB (wd X) f r) (ha : ME X Wx a ma) (hb : ME X Wx b mb) (hm : behindInMarks op b = false) : MT X Wx (.Compare a [op] [b] pos) (mCmpT f ma mb) :=
  pt_weak (pt_cmpR ho ha hb hm) fun σ H Q ⟨β, ρ, h, er, s, L⟩ => two er s L fun β2 H2 h2 d1 d2 x y s2 r1 r2 L2 =>
    hf β2 H2 h2 d1 d2 x y Q _ s2 r1 r2 L2
@[simp] def mUn (f : Dat → Mo Dat) (ma : Mv) : Mv := fun ρ => do let x ← ma ρ; f x
theorem me_un {op : UnaryOp} {r : V → Hp → VK → Prop} {f : Dat → Mo Dat} {a : Expr} {ma : Mv} {pos : Pos} (ho : UnR X (unaryOp op) r) (hf : ∀ β H h d1 x (Q : VK) E, Sim (wd X) β H h → Rel (wd X) β h.length H d1 x → Lands (wd X) (Rel (wd X)) β H h (f d1 h) Q E → r x H Q) (ha : ME X Wx a ma) :
    ME X Wx (.UnaryOp op a pos) (mUn f ma) := pe_weak (pe_un ho ha) fun σ H Q ⟨β, ρ, h, er, s, L⟩ => one er s L fun β1 H1 h1 d1 x s1 r1 _ L1 => hf β1 H1 h1 d1 x Q _ s1 r1 L1

/-! ### tests -/
@[simp] def asB : Dat → Mo Bool
  | .bl b => pure b
  | _ => bad
@[simp] def mTest (ma : Mv) : Mb := fun ρ => do let x ← ma ρ; asB x
theorem rel_bl {W : Wd} {β : Nat → Addr} {N : Nat} {H : Hp} {b : Bool} {v : V} (r : Rel W β N H (.bl b) v) : v = .bl b := by unfold Rel at r; exact r
theorem Lands.toBool {W : Wd} {β : Nat → Addr} {H : Hp} {h : Hm} {d : Dat} {v : V} {Q : Bool → Hp → Prop} {E : Addr → Hp → Prop} (L : Lands W EqB β H h (asB d h) Q E) (s : Sim W β H h) (r : Rel W β h.length H d v) : ∃ c, v = .bl c ∧ Q c H := by
  cases d with
  | bl b => exact ⟨b, rel_bl r, L.ret s rfl⟩
  | _ => exact L.elim
theorem mt_val {a : Expr} {ma : Mv} (ha : ME X Wx a ma) (he : ∀ whole, isTrue a X.env whole = (do let v ← whole; standAt a.pos; holding [v] (truthy v)) := by intro _; rfl) : MT X Wx a (mTest ma) :=
  pt_weak (pt_val ha he) fun σ H Q ⟨β, ρ, h, er, s, L⟩ => one er s L fun β1 H1 h1 d1 x s1 r1 _ L1 => L1.toBool s1 r1
@[simp] def mNotT (ma : Mb) : Mb := fun ρ => do let x ← ma ρ; pure (!x)
theorem Lands.fin {α τ α' τ' : Type} {W : Wd} {R : (Nat → Addr) → Nat → Hp → α → τ → Prop} {R' : (Nat → Addr) → Nat → Hp → α' → τ' → Prop} {β : Nat → Addr} {H : Hp} {h : Hm} {m : Mo α'} {g : α' → α} {Q : τ → Hp → Prop} {Q' : τ' → Hp → Prop} {E : Addr → Hp → Prop}
    (L : Lands W R β H h ((do let x ← m; pure (g x)) h) Q E) (k : ∀ β' H' h' a v, Sim W β' H' h' → R' β' h'.length H' a v → (∀ w, R β' h'.length H' (g a) w → Q w H') → Q' v H') : Lands W R' β H h (m h) Q' E := by
  cases e : m h with
  | bad => rw [bnd_bad e] at L; exact L
  | val a h1 =>
    rw [bnd_val e] at L
    exact fun β' H' v A r => k β' H' h1 a v A.sim r fun w rw' => L β' H' w A rw'
  | exc c h1 => rw [bnd_exc e] at L; exact L
theorem mt_not {a : Expr} {ma : Mb} {pos : Pos} (ha : MT X Wx a ma) : MT X Wx (.UnaryOp .Not a pos) (mNotT ma) :=
  pt_weak (pt_not ha) fun σ H Q ⟨β, ρ, h, er, s, L⟩ => ⟨β, ρ, h, er, s, L.fin fun β' H' h' a v _ e q => by subst e; exact q _ rfl⟩
abbrev MW (X : Cx) (Wx : WX) (e : Expr) (m : Mb) : Prop := PW X e (tMT X Wx m)
theorem pw_weak {e : Expr} {t t' : TT} (h : PW X e t) (w : ∀ σ H Q, t' σ H Q → t σ H Q) : PW X e t' := ⟨fun wh pins s σ H Q I q => h.run wh pins s σ H Q I (w σ H Q q)⟩
@[simp] def mAndT (ma mb : Mb) : Mb := fun ρ => do let x ← ma ρ; if x then mb ρ else pure false
@[simp] def mOrT (ma mb : Mb) : Mb := fun ρ => do let x ← ma ρ; if x then pure true else mb ρ
theorem oneB {ma : Mb} {α τ : Type} {R : (Nat → Addr) → Nat → Hp → α → τ → Prop} {f : Bool → Mo α} {σ : L2.St} {H : Hp} {Q : τ → Hp → Prop} {β : Nat → Addr} {ρ : Env'} {h : Hm} {P : Bool → Hp → Prop}
    (er : ER (wd X) X.N.length β h.length H ρ σ) (s : Sim (wd X) β H h) (L : Lands (wd X) R β H h ((do let x ← ma ρ; f x) h) Q (exW Wx σ))
    (k : ∀ β1 H1 h1 b, Sim (wd X) β1 H1 h1 → ER (wd X) X.N.length β1 h1.length H1 ρ σ → Aft (wd X) β H h β1 H1 h1 → Lands (wd X) R β1 H1 h1 (f b h1) Q (exW Wx σ) → P b H1) :
    tMT X Wx ma σ H P := by
  refine ⟨β, ρ, h, er, s, (Lands.bind (R' := EqB) L).mono fun x H1 ⟨β1, h1, d1, s1, r1, A1, L1⟩ => ?_⟩
  cases r1
  exact k β1 H1 h1 x s1 (A1.er s er) A1 L1
theorem mw_and1 {a : Expr} {ma : Mb} {pos : Pos} (ha : MT X Wx a ma) : MW X Wx (.BoolOp .And [a] pos) ma := pw_and1 ha
theorem mw_or1 {a : Expr} {ma : Mb} {pos : Pos} (ha : MT X Wx a ma) : MW X Wx (.BoolOp .Or [a] pos) ma := pw_or1 ha
theorem mw_and {a b : Expr} {rest : List Expr} {ma mb : Mb} {pos : Pos} (ha : MT X Wx a ma) (hb : MW X Wx (.BoolOp .And (b :: rest) pos) mb) : MW X Wx (.BoolOp .And (a :: b :: rest) pos) (mAndT ma mb) :=
  pw_weak (pw_and ha hb) fun σ H Q ⟨β, ρ, h, er, s, L⟩ => oneB er s L fun β1 H1 h1 b s1 er1 _ L1 => by
    cases b with
    | true => exact iteT ⟨β1, ρ, h1, er1, s1, L1⟩
    | false => exact iteF (L1.ret s1 rfl)
theorem mw_or {a b : Expr} {rest : List Expr} {ma mb : Mb} {pos : Pos} (ha : MT X Wx a ma) (hb : MW X Wx (.BoolOp .Or (b :: rest) pos) mb) : MW X Wx (.BoolOp .Or (a :: b :: rest) pos) (mOrT ma mb) :=
  pw_weak (pw_or ha hb) fun σ H Q ⟨β, ρ, h, er, s, L⟩ => oneB er s L fun β1 H1 h1 b s1 er1 _ L1 => by
    cases b with
    | true => exact iteT (L1.ret s1 rfl)
    | false => exact iteF ⟨β1, ρ, h1, er1, s1, L1⟩
theorem mt_bool {e : Expr} {m : Mb} (h : MW X Wx e m) : MT X Wx e m := h.pt

/-! ### and, or, not as values: of truth values but the last -/
@[simp] def mAndV (ma mb : Mv) : Mv := fun ρ => do let x ← ma ρ; let c ← asB x; if c then mb ρ else pure (.bl false)
@[simp] def mOrV (ma mb : Mv) : Mv := fun ρ => do let x ← ma ρ; let c ← asB x; if c then pure (.bl true) else mb ρ
theorem Lands.boolBind {α τ : Type} {W : Wd} {R : (Nat → Addr) → Nat → Hp → α → τ → Prop} {β : Nat → Addr} {H : Hp} {h : Hm} {d : Dat} {v : V} {f : Bool → Mo α} {Q : τ → Hp → Prop} {E : Addr → Hp → Prop} (L : Lands W R β H h ((do let c ← asB d; f c) h) Q E) (r : Rel W β h.length H d v) :
    ∃ c, v = .bl c ∧ Lands W R β H h (f c h) Q E := by
  cases d with
  | bl b => exact ⟨b, rel_bl r, L⟩
  | _ => exact L.elim
theorem me_one {op} {a : Expr} {ma : Mv} {pos : Pos} (ha : ME X Wx a ma) : ME X Wx (.BoolOp op [a] pos) ma := pe_one ha
theorem me_and {a b : Expr} {rest : List Expr} {ma mb : Mv} {pos : Pos} (ha : ME X Wx a ma) (hb : ME X Wx (.BoolOp .And (b :: rest) pos) mb) : ME X Wx (.BoolOp .And (a :: b :: rest) pos) (mAndV ma mb) :=
  pe_weak (pe_and ha hb) fun σ H Q ⟨β, ρ, h, er, s, L⟩ => one er s L fun β1 H1 h1 d1 x s1 r1 A1 L1 => by
    obtain ⟨c, e, L2⟩ := L1.boolBind r1
    refine ⟨c, e, ?_⟩
    cases c with
    | true => exact iteT ⟨β1, ρ, h1, A1.er s er, s1, L2⟩
    | false => exact iteF (L2.ret s1 (by unfold Rel; rfl))
theorem me_or {a b : Expr} {rest : List Expr} {ma mb : Mv} {pos : Pos} (ha : ME X Wx a ma) (hb : ME X Wx (.BoolOp .Or (b :: rest) pos) mb) : ME X Wx (.BoolOp .Or (a :: b :: rest) pos) (mOrV ma mb) :=
  pe_weak (pe_or ha hb) fun σ H Q ⟨β, ρ, h, er, s, L⟩ => one er s L fun β1 H1 h1 d1 x s1 r1 A1 L1 => by
    obtain ⟨c, e, L2⟩ := L1.boolBind r1
    refine ⟨c, e, ?_⟩
    cases c with
    | true => exact iteT (L2.ret s1 (by unfold Rel; rfl))
    | false => exact iteF ⟨β1, ρ, h1, A1.er s er, s1, L2⟩
@[simp] def mNotV (ma : Mv) : Mv := fun ρ => do let x ← ma ρ; let c ← asB x; pure (.bl (!c))
theorem me_not {a : Expr} {ma : Mv} {pos : Pos} (ha : ME X Wx a ma) : ME X Wx (.UnaryOp .Not a pos) (mNotV ma) :=
  pe_weak (pe_not ha) fun σ H Q ⟨β, ρ, h, er, s, L⟩ => one er s L fun β1 H1 h1 d1 x s1 r1 A1 L1 => by
    obtain ⟨c, e, L2⟩ := L1.boolBind r1
    exact ⟨c, e, L2.ret s1 (by unfold Rel; rfl)⟩
@[simp] def mIf (mt : Mb) (ma mb : Mv) : Mv := fun ρ => do let x ← mt ρ; if x then ma ρ else mb ρ
theorem me_if {c a b : Expr} {mt : Mb} {ma mb : Mv} {pos : Pos} (hc : MT X Wx c mt) (ha : ME X Wx a ma) (hb : ME X Wx b mb) : ME X Wx (.IfExp c a b pos) (mIf mt ma mb) :=
  pe_weak (pe_ifExp hc ha hb) fun σ H Q ⟨β, ρ, h, er, s, L⟩ => oneB er s L fun β1 H1 h1 b s1 er1 _ L1 => by
    cases b with
    | true => exact iteT ⟨β1, ρ, h1, er1, s1, L1⟩
    | false => exact iteF ⟨β1, ρ, h1, er1, s1, L1⟩

/-! ### argument lists, displays -/
@[simp] def mNil : Ml := fun _ => pure []
@[simp] def mCons (ma : Mv) (ms : Ml) : Ml := fun ρ => do let x ← ma ρ; let xs ← ms ρ; pure (x :: xs)
theorem ma_nil : MA X Wx [] mNil := pa_weak pa_nil fun σ H Q ⟨β, ρ, h, er, s, L⟩ => L.ret s (by unfold Rels; rfl)
theorem ma_cons {e : Expr} {es : List Expr} {ma : Mv} {ms : Ml} (ha : ME X Wx e ma) (hs : MA X Wx es ms) (hst : starEach (e :: es) X.env = (false, eval e X.env) :: starEach es X.env := by rfl) : MA X Wx (e :: es) (mCons ma ms) :=
  pa_weak (pa_cons ha hs hst) fun σ H Q ⟨β, ρ, h, er, s, L⟩ => one er s L fun β1 H1 h1 d1 x s1 r1 A1 L1 =>
    ⟨β1, ρ, h1, A1.er s er, s1, (Lands.bind (R' := fun β N H => Rels (wd X) β N H) L1).mono fun vs H2 ⟨β2, h2, ds, s2, r2, A2, L2⟩ => L2.ret s2 (by unfold Rels; exact ⟨x, vs, rfl, A2.rel s1 r1, r2⟩)⟩
/-- what an argument list gives, at once -/
theorem args {ms : Ml} {α τ : Type} {R : (Nat → Addr) → Nat → Hp → α → τ → Prop} {f : List Dat → Mo α} {σ : L2.St} {H : Hp} {Q : τ → Hp → Prop} {β : Nat → Addr} {ρ : Env'} {h : Hm} {P : List V → Hp → Prop}
    (er : ER (wd X) X.N.length β h.length H ρ σ) (s : Sim (wd X) β H h) (L : Lands (wd X) R β H h ((do let x ← ms ρ; f x) h) Q (exW Wx σ))
    (k : ∀ β1 H1 h1 ds vs, Sim (wd X) β1 H1 h1 → Rels (wd X) β1 h1.length H1 ds vs → Aft (wd X) β H h β1 H1 h1 → Lands (wd X) R β1 H1 h1 (f ds h1) Q (exW Wx σ) → P vs H1) :
    tMA X Wx ms σ H P := by
  refine ⟨β, ρ, h, er, s, (Lands.bind (R' := fun β N H => Rels (wd X) β N H) L).mono fun x H1 ⟨β1, h1, d1, s1, r1, A1, L1⟩ => ?_⟩
  exact k β1 H1 h1 d1 x s1 r1 A1 L1
@[simp] def sized (ds : List Dat) : Mo (List Dat) := if ds.length ≤ sizeLine then pure ds else bad
theorem Lands.sizeBind {α τ : Type} {W : Wd} {R : (Nat → Addr) → Nat → Hp → α → τ → Prop} {β : Nat → Addr} {H : Hp} {h : Hm} {ds : List Dat} {f : List Dat → Mo α} {Q : τ → Hp → Prop} {E : Addr → Hp → Prop} (L : Lands W R β H h ((do let c ← sized ds; f c) h) Q E) :
    ds.length ≤ sizeLine ∧ Lands W R β H h (f ds h) Q E := by
  unfold sized at L
  by_cases z : ds.length ≤ sizeLine
  · rw [if_pos z] at L; exact ⟨z, L⟩
  · rw [if_neg z] at L; exact L.elim
theorem Lands.sizeFin {W : Wd} {β : Nat → Addr} {H : Hp} {h : Hm} {ds : List Dat} {Q : List V → Hp → Prop} {E : Addr → Hp → Prop} (L : Lands W (fun β N H => Rels W β N H) β H h (sized ds h) Q E) :
    ds.length ≤ sizeLine ∧ Lands W (fun β N H => Rels W β N H) β H h (.val ds h) Q E := by
  unfold sized at L
  by_cases z : ds.length ≤ sizeLine
  · rw [if_pos z] at L; exact ⟨z, L⟩
  · rw [if_neg z] at L; exact L.elim
@[simp] def mTup (ms : Ml) : Mv := fun ρ => do let xs ← ms ρ; let ys ← sized xs; pure (.tup ys)
/-- a new tuple -/
theorem Lands.tup {W : Wd} {β : Nat → Addr} {H : Hp} {h : Hm} {ds : List Dat} {vs : List V} {p : Addr} {Q : VK} {E : Addr → Hp → Prop} (L : Lands W (Rel W) β H h (.val (.tup ds) h) Q E) (s : Sim W β H h) (r : Rels W β h.length H ds vs) (hp : H p = none) : Q (.ref p) (upd H p (.tup vs)) := by
  have A := Aft.laid (o := .tup vs) s hp
  refine L β (upd H p (.tup vs)) _ A ?_
  unfold Rel
  exact ⟨p, vs, rfl, .inl upd_same, A.rels s r⟩
theorem me_tup {es : List Expr} {ms : Ml} {x1} {pos : Pos} (h : MA X Wx es ms) : ME X Wx (.Tuple es x1 pos) (mTup ms) :=
  pe_weak (pe_tup h) fun σ H Q ⟨β, ρ, h, er, s, L⟩ => args er s L fun β1 H1 h1 ds vs s1 r1 A1 L1 => by
    obtain ⟨z, L2⟩ := L1.sizeBind
    exact ⟨by rw [← r1.length]; exact z, fun p hp => L2.tup s1 r1 hp⟩
@[simp] def mSized (ms : Ml) : Ml := fun ρ => do let xs ← ms ρ; sized xs
abbrev MLs (X : Cx) (Wx : WX) (e : Expr) (m : Ml) : Prop := PE X e (tML X Wx m)
theorem ml_lst {es : List Expr} {ms : Ml} {pos : Pos} (h : MA X Wx es ms) : MLs X Wx (.List es pos) (mSized ms) :=
  pe_weak (pe_lst h) fun σ H Q ⟨β, ρ, h, er, s, L⟩ => args er s L fun β1 H1 h1 ds vs s1 r1 A1 L1 => by
    obtain ⟨z, L2⟩ := L1.sizeFin
    exact ⟨by rw [← r1.length]; exact z, fun p hp => L2.ret s1 r1 p hp⟩

/-! ### a new list: a cell, or frozen -/
@[simp] def alloc (c : Cell) : Mo Dat := fun h => .val (.ref h.length) (h ++ [c])
@[simp] def mCell (ms : Ml) : Mv := fun ρ => do let xs ← ms ρ; alloc (.lst xs)
@[simp] def mFz (ms : Ml) : Mv := fun ρ => do let xs ← ms ρ; pure (.lst xs)
theorem bx_rels {W : Wd} {β : Nat → Addr} {H H' : Hp} {N : Nat} {p : Addr} {ds : List Dat} {vs : List V} (pe : PExt H H') (r : Rels W β N H ds vs) : Rels W (bx β N p) (N + 1) H' ds vs :=
  Rels.mono pe (Nat.le_succ _) (fun _ hn => bx_lt hn) _ _ r
theorem Sim.pext_laid {W : Wd} {β : Nat → Addr} {H : Hp} {h : Hm} {p : Addr} {o : HO} (s : Sim W β H h) (hp : H p = none) : PExt H (upd H p o) := (Aft.laid (o := o) s hp).pext s
/-- a new cell for a new list -/
theorem Lands.cellL {W : Wd} {β : Nat → Addr} {H : Hp} {h : Hm} {ds : List Dat} {vs : List V} {p : Addr} {Q : VK} {E : Addr → Hp → Prop} (L : Lands W (Rel W) β H h (.val (.ref h.length) (h ++ [.lst ds])) Q E) (s : Sim W β H h) (r : Rels W β h.length H ds vs) (hp : H p = none) : Q (.ref p) (upd H p (.lst vs)) := by
  have A := Aft.alloc (o := .lst vs) (c := .lst ds) s hp ⟨vs, upd_same, bx_rels (s.pext_laid hp) r⟩
  refine L _ _ _ A ?_
  unfold Rel
  exact ⟨by simp, by rw [bx_eq]⟩
theorem me_cell {e : Expr} {ms : Ml} (h : MLs X Wx e ms) : ME X Wx e (mCell ms) :=
  pe_weak h fun σ H Q ⟨β, ρ, h, er, s, L⟩ => ⟨β, ρ, h, er, s, (Lands.bind (R' := fun β N H => Rels (wd X) β N H) L).mono fun vs H1 ⟨β1, h1, ds, s1, r1, A1, L1⟩ p hp => L1.cellL s1 r1 hp⟩
/-- a frozen thing, tracked anew -/
theorem Fzn.one {S : Addr → Prop} {H H2 : Hp} {p : Addr} {u : HO} (hS : ∀ a, S a ↔ a = p) (hp : H p = none) (z : Fzn S (upd H p u) H2) : ∃ o, H2 = upd H p (.frz o u) := by
  obtain ⟨o, u', e, f, e2⟩ := (z p).2 ((hS p).mpr rfl)
  rw [upd_same] at e
  cases e
  refine ⟨o, funext fun a => ?_⟩
  by_cases q : a = p
  · subst q; rw [e2, upd_same]
  · rw [(z a).1 fun y => q ((hS a).mp y), upd_ne q, upd_ne q]
theorem Lands.fzL {W : Wd} {β : Nat → Addr} {H : Hp} {h : Hm} {ds : List Dat} {vs : List V} {p : Addr} {o : Obj} {Q : VK} {E : Addr → Hp → Prop} (L : Lands W (Rel W) β H h (.val (.lst ds) h) Q E) (s : Sim W β H h) (r : Rels W β h.length H ds vs) (hp : H p = none) : Q (.ref p) (upd H p (.frz o (.lst vs))) := by
  have A := Aft.laid (o := .frz o (.lst vs)) s hp
  refine L β _ _ A ?_
  unfold Rel
  exact ⟨p, vs, rfl, .inl ⟨o, upd_same⟩, A.rels s r⟩
theorem me_fz {e : Expr} {ms : Ml} (h : MLs X Wx e ms) : ME X Wx e (mFz ms) :=
  pe_weak (pe_frz h) fun σ H Q ⟨β, ρ, h, er, s, L⟩ => ⟨β, ρ, h, er, s, (Lands.bind (R' := fun β N H => Rels (wd X) β N H) L).mono fun vs H1 ⟨β1, h1, ds, s1, r1, A1, L1⟩ p hp =>
    ⟨fun a => a = p, fun a e => ⟨.lst vs, by rw [e, upd_same], trivial⟩, fun H2 z => by
      obtain ⟨o, rfl⟩ := Fzn.one (fun _ => Iff.rfl) hp z
      exact L1.fzL s1 r1 hp⟩⟩
end
end Mir
end

section
set_option Elab.async false
set_option linter.all false
set_option maxRecDepth 100000
/-! Mir5: ints, texts, tuples, lists: +, -, *, //, %, comparisons, places, slices, len, isinstance. -/
namespace Mir
open PySem PySem.Spec
open PyProof.Rows L2

/-! ### what a datum is -/
section
variable {W : Wd} {β : Nat → Addr} {N : Nat} {H : Hp} {v : V}
theorem rel_int {i : Int} (r : Rel W β N H (.int i) v) : v = .int i := by unfold Rel at r; exact r
theorem rel_str {x : Str} (r : Rel W β N H (.str x) v) : v = .str x := by unfold Rel at r; exact r
theorem rel_non (r : Rel W β N H .non v) : v = .non := by unfold Rel at r; exact r
theorem rel_tup {xs : List Dat} (r : Rel W β N H (.tup xs) v) : ∃ a vs, v = .ref a ∧ FzT W.K H a vs ∧ Rels W β N H xs vs := by unfold Rel at r; exact r
theorem mk_int {i : Int} : Rel W β N H (.int i) (.int i) := by unfold Rel; rfl
theorem mk_str {x : Str} : Rel W β N H (.str x) (.str x) := by unfold Rel; rfl
theorem mk_bl {b : Bool} : Rel W β N H (.bl b) (.bl b) := by unfold Rel; rfl
theorem mk_non : Rel W β N H .non .non := by unfold Rel; rfl
end
def cellOf (n : Nat) : Mo Cell := fun h => match h[n]? with
  | some .dead => .bad
  | some c => .val c h
  | none => .bad
theorem cellOf_val {n : Nat} {h : Hm} {c : Cell} (e : h[n]? = some c) (d : c ≠ .dead) : cellOf n h = .val c h := by
  unfold cellOf
  rw [e]
  cases c with
  | dead => exact absurd rfl d
  | lst _ => rfl
  | dct _ _ _ => rfl
  | ins _ _ => rfl
theorem cellOf_inv {n : Nat} {h h' : Hm} {c : Cell} (e : cellOf n h = .val c h') : h' = h ∧ h[n]? = some c ∧ c ≠ .dead := by
  unfold cellOf at e
  split at e
  · cases e
  · rename_i c' hc hd
    cases e
    exact ⟨rfl, hd, fun z => by first | exact hc z | exact hc (by rw [← z])⟩
  · cases e
theorem cellOf_exc {n : Nat} {h h' : Hm} {c : Str} (e : cellOf n h = .exc c h') : False := by
  unfold cellOf at e
  split at e <;> cases e
@[simp] def lstC : Cell → Mo (List Dat)
  | .lst xs => pure xs
  | _ => bad
@[simp] def listOf : Dat → Mo (List Dat)
  | .lst xs => pure xs
  | .ref n => do let c ← cellOf n; lstC c
  | _ => bad
theorem Lands.cellB {α τ : Type} {W : Wd} {R : (Nat → Addr) → Nat → Hp → α → τ → Prop} {β : Nat → Addr} {H : Hp} {h : Hm} {n : Nat} {f : Cell → Mo α} {Q : τ → Hp → Prop} {E : Addr → Hp → Prop} (L : Lands W R β H h ((do let c ← cellOf n; f c) h) Q E) (s : Sim W β H h) :
    ∃ c, h[n]? = some c ∧ c ≠ .dead ∧ CRel W β h.length H (β n) c ∧ Lands W R β H h (f c h) Q E := by
  cases e : cellOf n h with
  | bad => rw [bnd_bad e] at L; exact L.elim
  | val c h1 =>
    rw [bnd_val e] at L
    obtain ⟨rfl, e1, d⟩ := cellOf_inv e
    exact ⟨c, e1, d, s.cell n c e1, L⟩
  | exc c h1 => exact (cellOf_exc e).elim
/-- associativity, seen from the left -/
theorem bnd_assoc {α β γ : Type} (m : Mo α) (f : α → Mo β) (g : β → Mo γ) (h : Hm) : ((m >>= f) >>= g) h = (m >>= fun x => f x >>= g) h := by
  show Mo.bnd (Mo.bnd m f) g h = Mo.bnd m (fun x => Mo.bnd (f x) g) h
  unfold Mo.bnd
  cases m h <;> rfl
@[simp] def seqOf : Dat → Mo (List Dat)
  | .tup xs => pure xs
  | d => listOf d
section
variable {α τ : Type} {W : Wd} {R : (Nat → Addr) → Nat → Hp → α → τ → Prop} {β : Nat → Addr} {H : Hp} {h : Hm} {d : Dat} {v : V} {f : List Dat → Mo α} {Q : τ → Hp → Prop} {E : Addr → Hp → Prop}
theorem Lands.listB (L : Lands W R β H h ((do let xs ← listOf d; f xs) h) Q E) (s : Sim W β H h) (r : Rel W β h.length H d v) :
    ∃ a vs xs, v = .ref a ∧ SqL W.K H a vs ∧ Rels W β h.length H xs vs ∧ Lands W R β H h (f xs h) Q E := by
  cases d with
  | lst xs =>
    unfold Rel at r
    obtain ⟨a, vs, e, k, rs⟩ := r
    exact ⟨a, vs, xs, e, k.sq, rs, L⟩
  | ref n =>
    have L' : Lands W R β H h (((cellOf n >>= lstC) >>= f) h) Q E := L
    rw [bnd_assoc] at L'
    obtain ⟨c, e, hd, k, L2⟩ := Lands.cellB L' s
    cases c with
    | lst xs =>
      unfold Rel at r
      obtain ⟨vs, k, rs⟩ := k
      exact ⟨β n, vs, xs, r.2, .inl (.inl k), rs, L2⟩
    | _ => exact L2.elim
  | _ => exact L.elim
theorem Lands.seqB (L : Lands W R β H h ((do let xs ← seqOf d; f xs) h) Q E) (s : Sim W β H h) (r : Rel W β h.length H d v) :
    ∃ a vs xs, v = .ref a ∧ (SqL W.K H a vs ∨ SqT W.K H a vs) ∧ Rels W β h.length H xs vs ∧ Lands W R β H h (f xs h) Q E := by
  cases d with
  | tup xs =>
    unfold Rel at r
    obtain ⟨a, vs, e, k, rs⟩ := r
    exact ⟨a, vs, xs, e, .inr k.sq, rs, L⟩
  | lst xs => obtain ⟨a, vs, ys, e, k, rs, L'⟩ := Lands.listB (d := .lst xs) L s r; exact ⟨a, vs, ys, e, .inl k, rs, L'⟩
  | ref n => obtain ⟨a, vs, ys, e, k, rs, L'⟩ := Lands.listB (d := .ref n) L s r; exact ⟨a, vs, ys, e, .inl k, rs, L'⟩
  | _ => exact L.elim
end
@[simp] def intOf : Dat → Mo Int
  | .int i => pure i
  | _ => bad
@[simp] def strOf : Dat → Mo Str
  | .str x => pure x
  | _ => bad
section
variable {α τ : Type} {W : Wd} {R : (Nat → Addr) → Nat → Hp → α → τ → Prop} {β : Nat → Addr} {H : Hp} {h : Hm} {d : Dat} {v : V} {Q : τ → Hp → Prop} {E : Addr → Hp → Prop}
theorem Lands.intB {f : Int → Mo α} (L : Lands W R β H h ((do let xs ← intOf d; f xs) h) Q E) (r : Rel W β h.length H d v) : ∃ i, v = .int i ∧ Lands W R β H h (f i h) Q E := by
  cases d with
  | int i => exact ⟨i, rel_int r, L⟩
  | _ => exact L.elim
theorem Lands.strB {f : Str → Mo α} (L : Lands W R β H h ((do let xs ← strOf d; f xs) h) Q E) (r : Rel W β h.length H d v) : ∃ i, v = .str i ∧ Lands W R β H h (f i h) Q E := by
  cases d with
  | str i => exact ⟨i, rel_str r, L⟩
  | _ => exact L.elim
/-- a check -/
theorem Lands.ifB {c : Prop} [Decidable c] {m : Mo α} (L : Lands W R β H h ((if c then m else bad) h) Q E) : c ∧ Lands W R β H h (m h) Q E := by
  by_cases z : c
  · rw [if_pos z] at L; exact ⟨z, L⟩
  · rw [if_neg z] at L; exact L.elim
end

/-! ### arithmetic -/
@[simp] def int2 (f : Int → Int → Mo Dat) (x y : Dat) : Mo Dat := do let i ← intOf x; let j ← intOf y; f i j
theorem opM_int {W : Wd} {C : Int → Int → Prop} {g : Int → Int → Int} {f : Int → Int → Mo Dat} (hf : ∀ i j β H h (Q : VK) E, Sim W β H h → Lands W (Rel W) β H h (f i j h) Q E → C i j ∧ Q (.int (g i j)) H) : OpM W (int2 f) (rI C fun i j => .int (g i j)) :=
  fun β H h d1 d2 x y Q E s r1 r2 L => by
    obtain ⟨i, e1, L1⟩ := Lands.intB L r1
    obtain ⟨j, e2, L2⟩ := Lands.intB L1 r2
    obtain ⟨c, q⟩ := hf i j β H h Q E s L2
    exact ⟨i, j, e1, e2, c, q⟩
section
variable {X : Cx} {Wx : WX} {a b : Expr} {ma mb : Mv} {pos : Pos}
@[simp] def aSub (x y : Dat) : Mo Dat := int2 (fun i j => pure (.int (i - j))) x y
theorem op_subC {X : Cx} : OpR X (binaryOp .Sub) (rI (fun _ _ => True) fun i j => .int (i - j)) := fun pins s σ H x y v u Q I rx ry ⟨i, j, e1, e2, _, q⟩ => op_sub pins s σ H x y v u Q I rx ry ⟨i, j, e1, e2, q⟩
theorem me_sub (ha : ME X Wx a ma) (hb : ME X Wx b mb) : ME X Wx (.BinOp a .Sub b pos) (mBin aSub ma mb) :=
  me_op op_subC (opM_int (g := fun i j => i - j) fun i j β H h Q E s L => ⟨trivial, L.ret s mk_int⟩) ha hb
/-- * of great ints: together below a million bits -/
def mulOk (i j : Int) : Bool := (decide (-(2 ^ 64) < i) && decide (i < 2 ^ 64)) || (decide (-(2 ^ 64) < j) && decide (j < 2 ^ 64))
theorem mulOk_iff {i j : Int} (h : mulOk i j = true) : CMul i j := by
  unfold mulOk at h
  simp only [Bool.or_eq_true, Bool.and_eq_true, decide_eq_true_eq] at h
  exact h
@[simp] def aMul (x y : Dat) : Mo Dat := int2 (fun i j => if mulOk i j = true then pure (.int (i * j)) else bad) x y
theorem me_mul (ha : ME X Wx a ma) (hb : ME X Wx b mb) : ME X Wx (.BinOp a .Mult b pos) (mBin aMul ma mb) :=
  me_op op_mul (opM_int (g := fun i j => i * j) fun i j β H h Q E s L => ⟨mulOk_iff L.ifB.1, L.ifB.2.ret s mk_int⟩) ha hb
/-- // by a positive number below 2^30; % by a positive one -/
@[simp] def aDiv (x y : Dat) : Mo Dat := int2 (fun i j => if 0 < j ∧ j < 1073741824 then pure (.int (i / j)) else bad) x y
theorem me_div (ha : ME X Wx a ma) (hb : ME X Wx b mb) : ME X Wx (.BinOp a .FloorDiv b pos) (mBin aDiv ma mb) :=
  me_op op_fdiv (opM_int (g := fun i j => i / j) fun i j β H h Q E s L => ⟨L.ifB.1, L.ifB.2.ret s mk_int⟩) ha hb
@[simp] def aMod (x y : Dat) : Mo Dat := int2 (fun i j => if 0 < j then pure (.int (i % j)) else bad) x y
theorem me_mod (ha : ME X Wx a ma) (hb : ME X Wx b mb) : ME X Wx (.BinOp a .Mod b pos) (mBin aMod ma mb) :=
  me_op op_mod (opM_int (g := fun i j => i % j) fun i j β H h Q E s L => ⟨L.ifB.1, L.ifB.2.ret s mk_int⟩) ha hb
def powOk (i j : Int) : Bool := decide (0 ≤ j) && (decide (j ≤ 1000000) && decide (i.natAbs < 2 ^ 64))
theorem powOk_iff {i j : Int} (h : powOk i j = true) : CPow i j := by
  unfold powOk at h
  rw [Bool.and_eq_true, Bool.and_eq_true, decide_eq_true_eq, decide_eq_true_eq, decide_eq_true_eq] at h
  exact h
theorem me_powc {i j k : Int} {a1 a2 p1 p2} (h : powOk i j = true) (hk : i ^ j.toNat = k) : ME X Wx (.BinOp (.Constant (.int i) a1 p1) .Pow (.Constant (.int j) a2 p2) pos) (mC (.int k)) :=
  me_c (v := .int k) (pe_weak (pe_op op_pow pe_int pe_int) fun σ H Q q => ⟨i, j, rfl, rfl, powOk_iff h, by show Q (.int (i ^ j.toNat)) H; rw [hk]; exact q⟩) fun _ _ _ => mk_int
@[simp] def aNeg : Dat → Mo Dat := fun x => do let i ← intOf x; pure (.int (-i))
theorem me_neg (ha : ME X Wx a ma) : ME X Wx (.UnaryOp .USub a pos) (mUn aNeg ma) :=
  me_un un_neg (fun β H h d1 x Q E s r L => by
    obtain ⟨i, e, L1⟩ := Lands.intB L r
    exact ⟨i, e, L1.ret s mk_int⟩) ha

/-- + of ints, texts, tuples -/
@[simp] def aAdd : Dat → Dat → Mo Dat
  | .int i, .int j => pure (.int (i + j))
  | .str x, .str y => if x.length + y.length ≤ sizeLine then pure (.str (x ++ y)) else bad
  | .tup xs, .tup ys => if xs.length + ys.length ≤ sizeLine then pure (.tup (xs ++ ys)) else bad
  | _, _ => bad
def rAddM (K : PySem.W.Frag) : R2 := fun x y H Q => (rI0 fun i j => .int (i + j)) x y H Q ∨ ((∃ i j, x = .str i ∧ y = .str j ∧ i.length + j.length ≤ sizeLine ∧ Q (.str (i ++ j)) H) ∨ rCatA K x y H Q)
theorem Rels.append {W : Wd} {β : Nat → Addr} {N : Nat} {H : Hp} : ∀ {xs ys : List Dat} {us vs : List V}, Rels W β N H xs us → Rels W β N H ys vs → Rels W β N H (xs ++ ys) (us ++ vs)
  | [], _, us, _, h, k => by unfold Rels at h; subst h; exact k
  | x :: xs, ys, us, vs, h, k => by
    unfold Rels at h
    obtain ⟨v, r, rfl, h1, h2⟩ := h
    show Rels W β N H (x :: (xs ++ ys)) (v :: (r ++ vs))
    unfold Rels
    exact ⟨v, _, rfl, h1, Rels.append h2 k⟩
theorem addM {W : Wd} : OpM W aAdd (rAddM W.K) := fun β H h d1 d2 x y Q E s r1 r2 L => by
  cases d1 with
  | int i => cases d2 with
    | int j => exact .inl ⟨i, j, rel_int r1, rel_int r2, L.ret s mk_int⟩
    | _ => exact False.elim L
  | str a => cases d2 with
    | str b =>
      obtain ⟨z, L⟩ := Lands.ifB L
      exact .inr (.inl ⟨a, b, rel_str r1, rel_str r2, z, L.ret s mk_str⟩)
    | _ => exact False.elim L
  | tup xs => cases d2 with
    | tup ys =>
      obtain ⟨z, L⟩ := Lands.ifB L
      obtain ⟨p, us, e1, k1, q1⟩ := rel_tup r1
      obtain ⟨q, vs, e2, k2, q2⟩ := rel_tup r2
      refine .inr (.inr ⟨p, q, us, vs, e1, e2, k1.sq, k2.sq, by rw [← q1.length, ← q2.length]; exact z, fun e => ?_, fun _ e => ?_, fun _ _ p' hp => ?_⟩)
      · subst e
        have hx : xs = [] := List.length_eq_zero_iff.mp (q1.length)
        subst hx
        exact L.ret s (e2 ▸ r2)
      · subst e
        have hy : ys = [] := List.length_eq_zero_iff.mp (q2.length)
        subst hy
        rw [List.append_nil] at L
        exact L.ret s (e1 ▸ r1)
      · exact L.tup s (q1.append q2) hp
    | _ => exact False.elim L
  | _ => exact False.elim L
theorem me_add (ha : ME X Wx a ma) (hb : ME X Wx b mb) : ME X Wx (.BinOp a .Add b pos) (mBin aAdd ma mb) := me_op (op_add.or (op_add_str.or op_catA)) addM ha hb
end

/-! ### list + list, whatever their slots -/
theorem list_add_any (l : Addr) (items : Array Value) (n : Nat) (sl : Array (Option Value)) (b : Addr) (items2 : Array Value) (n2 : Nat) (sl2 : Array (Option Value)) (hc0 : items.size + items2.size ≤ sizeLine) :
    Meets (Builtin.«list.__add__» ⟨[.ref l, .ref b], []⟩) (fun _ R s => s.heap.get? l = some { cls := .type "list", dict := none, data := .seq items n, slots := sl } ∧ s.heap.get? b = some { cls := .type "list", dict := none, data := .seq items2 n2, slots := sl2 } ∧ R (.ok (.ret (Value.ref s.heap.objs.size))) { s with heap := s.heap.push { cls := Value.type "list", data := Data.seq (items ++ items2) }, toks := s.toks }) :=
  .of_wp fun prog w A R s h => by obtain ⟨hp, g, d, tk, os⟩ := s; obtain ⟨hl, hb, h⟩ := h; have f1 := AutoSeq1.idx_int; have f2 := AutoSeq1.sub_tuple_tuple; have f3 := AutoSeq1.sub_list_list; have f4 := AutoSeq1.sub_tuple_list; have f5 := AutoSeq1.sub_list_tuple; wp_walk using AutoSeq1.wpAny_loadPart' hl, AutoSeq1.wpAny_loadPart' hb; exact ⟨_, rfl, h⟩
theorem plain_any {h : Heap} {a : Addr} {its : Array Value} (p : PlainL h a its) : ∃ n sl, h.get? a = some { cls := .type "list", dict := none, data := .seq its n, slots := sl } := by
  obtain ⟨o, n, e, c, d, dd⟩ := p
  obtain ⟨oc, od, odd, osl⟩ := o
  dsimp only at c d dd
  subst c d dd
  exact ⟨n, osl, e⟩
section
variable {X : Cx} {Wx : WX} {a b : Expr} {ma mb : Mv} {pos : Pos}
def rCatL (K : PySem.W.Frag) : R2 := fun x y H Q => ∃ l b xs zs, x = .ref l ∧ y = .ref b ∧ SqL K H l xs ∧ SqL K H b zs ∧ xs.length + zs.length ≤ sizeLine ∧ ∀ p, H p = none → Q (.ref p) (upd H p (.lst (xs ++ zs)))
theorem op_catL : OpR X (binaryOp .Add) (rCatL X.K) := by
  intro pins s σ H x y v u Q I rx ry h
  obtain ⟨l, b, xs, zs, rfl, rfl, hH, hB, hz, q⟩ := h
  cases rx
  cases ry
  obtain ⟨its, r, p1, _⟩ := I.list hH
  obtain ⟨its2, r2, p2, _⟩ := I.list hB
  obtain ⟨n, sl, e⟩ := plain_any p1
  obtain ⟨n2, sl2, e2⟩ := plain_any p2
  refine concat_meets ⟨_, e, rfl⟩ ⟨_, e2, rfl⟩ noFill_list_add seq_list_add F.slot_list_add F.entry_list_add (F.args_list_add_2 _ _) (list_add_any l its.toArray n sl b its2.toArray n2 sl2 (by rw [List.size_toArray, List.size_toArray, ← r.length, ← r2.length]; exact hz)) ⟨e, e2, ?_⟩
  have ea : its.toArray ++ its2.toArray = (its ++ its2).toArray := by simp
  rw [ea]
  exact ⟨.ref _, _, I.lnew (t' := s.toks) (r.append r2) (by rw [List.length_append]; omega), rfl, q _ I.fresh⟩
@[simp] def mCat (ma mb : Mv) : Ml := fun ρ => do let x ← ma ρ; let y ← mb ρ; let xs ← listOf x; let ys ← listOf y; if xs.length + ys.length ≤ sizeLine then pure (xs ++ ys) else bad
theorem ml_cat (ha : ME X Wx a ma) (hb : ME X Wx b mb) : MLs X Wx (.BinOp a .Add b pos) (mCat ma mb) :=
  pe_weak (pe_op op_catL ha hb) fun σ H Q ⟨β, ρ, h, er, s, L⟩ => two (f := fun x y => do let xs ← listOf x; let ys ← listOf y; if xs.length + ys.length ≤ sizeLine then pure (xs ++ ys) else bad) er s L fun β2 H2 h2 d1 d2 x y s2 r1 r2 L2 => by
    obtain ⟨p, vs, xs, e1, k1, q1, L3⟩ := Lands.listB L2 s2 r1
    obtain ⟨p2, vs2, xs2, e2, k2, q2, L4⟩ := Lands.listB L3 s2 r2
    obtain ⟨z, L5⟩ := Lands.ifB L4
    exact ⟨p, p2, vs, vs2, e1, e2, k1, k2, by rw [← q1.length, ← q2.length]; exact z, fun p' hp => L5.ret s2 (q1.append q2) p' hp⟩
end

/-! ### comparisons of ints -/
@[simp] def cmpI (p : Int → Int → Bool) (x y : Dat) : Mo Bool := do let i ← intOf x; let j ← intOf y; pure (p i j)
theorem opMB_int {W : Wd} {p : Int → Int → Bool} : OpMB W (cmpI p) (rI0 fun i j => .bl (p i j)) := fun β H h d1 d2 x y Q E s r1 r2 L => by
  obtain ⟨i, e1, L1⟩ := Lands.intB L r1
  obtain ⟨j, e2, L2⟩ := Lands.intB L1 r2
  exact ⟨i, j, e1, e2, _, rfl, L2.ret s rfl⟩
@[simp] def cLt (x y : Dat) : Mo Bool := cmpI (fun i j => decide (i < j)) x y
@[simp] def cLe (x y : Dat) : Mo Bool := cmpI (fun i j => decide (i ≤ j)) x y
@[simp] def cGt (x y : Dat) : Mo Bool := cmpI (fun i j => decide (j < i)) x y
@[simp] def cGe (x y : Dat) : Mo Bool := cmpI (fun i j => decide (j ≤ i)) x y
section
variable {X : Cx} {Wx : WX} {a b c : Expr} {ma mb mc : Mv} {pos : Pos}
theorem me_lt (ha : ME X Wx a ma) (hb : ME X Wx b mb) : ME X Wx (.Compare a [.Lt] [b] pos) (mCmp cLt ma mb) := me_cmp op_lt opMB_int ha hb (nomark _)
theorem me_le (ha : ME X Wx a ma) (hb : ME X Wx b mb) : ME X Wx (.Compare a [.LtE] [b] pos) (mCmp cLe ma mb) := me_cmp op_le opMB_int ha hb (nomark _)
theorem me_gt (ha : ME X Wx a ma) (hb : ME X Wx b mb) : ME X Wx (.Compare a [.Gt] [b] pos) (mCmp cGt ma mb) := me_cmp op_gt opMB_int ha hb (nomark _)
theorem me_ge (ha : ME X Wx a ma) (hb : ME X Wx b mb) : ME X Wx (.Compare a [.GtE] [b] pos) (mCmp cGe ma mb) := me_cmp op_ge opMB_int ha hb (nomark _)
theorem mt_lt (ha : ME X Wx a ma) (hb : ME X Wx b mb) : MT X Wx (.Compare a [.Lt] [b] pos) (mCmpT cLt ma mb) := mt_cmp op_lt opMB_int ha hb (nomark _)
theorem mt_le (ha : ME X Wx a ma) (hb : ME X Wx b mb) : MT X Wx (.Compare a [.LtE] [b] pos) (mCmpT cLe ma mb) := mt_cmp op_le opMB_int ha hb (nomark _)
theorem mt_gt (ha : ME X Wx a ma) (hb : ME X Wx b mb) : MT X Wx (.Compare a [.Gt] [b] pos) (mCmpT cGt ma mb) := mt_cmp op_gt opMB_int ha hb (nomark _)
theorem mt_ge (ha : ME X Wx a ma) (hb : ME X Wx b mb) : MT X Wx (.Compare a [.GtE] [b] pos) (mCmpT cGe ma mb) := mt_cmp op_ge opMB_int ha hb (nomark _)
/-- a op b op' c -/
@[simp] def mChT (f g : Dat → Dat → Mo Bool) (ma mb mc : Mv) : Mb := fun ρ => do let x ← ma ρ; let y ← mb ρ; let k ← f x y; if k then (do let z ← mc ρ; g y z) else pure false
@[simp] def mChV (f g : Dat → Dat → Mo Bool) (ma mb mc : Mv) : Mv := fun ρ => do let b ← mChT f g ma mb mc ρ; pure (.bl b)
theorem Lands.cmpBind {α τ : Type} {W : Wd} {R : (Nat → Addr) → Nat → Hp → α → τ → Prop} {p : Int → Int → Bool} {β : Nat → Addr} {H : Hp} {h : Hm} {d1 d2 : Dat} {x y : V} {f : Bool → Mo α} {Q : τ → Hp → Prop} {E : Addr → Hp → Prop}
    (L : Lands W R β H h ((do let k ← cmpI p d1 d2; f k) h) Q E) (r1 : Rel W β h.length H d1 x) (r2 : Rel W β h.length H d2 y) : ∃ i j, x = .int i ∧ y = .int j ∧ Lands W R β H h (f (p i j) h) Q E := by
  cases d1 with
  | int i => cases d2 with
    | int j => exact ⟨i, j, rel_int r1, rel_int r2, L⟩
    | _ => exact False.elim L
  | _ => exact False.elim L
theorem chain_core {p q : Int → Int → Bool} {σ : L2.St} {H : Hp} {Q : Bool → Hp → Prop} {β : Nat → Addr} {ρ : Env'} {h : Hm} (er : ER (wd X) X.N.length β h.length H ρ σ) (s : Sim (wd X) β H h) (L : Lands (wd X) EqB β H h (mChT (cmpI p) (cmpI q) ma mb mc ρ h) Q (exW Wx σ)) :
    tChain (rI0 fun i j => .bl (p i j)) (rI0 fun i j => .bl (q i j)) (tM X Wx ma) (tM X Wx mb) (tM X Wx mc) σ H fun v H' => ∃ k, v = .bl k ∧ Q k H' := by
  refine one (f := fun x => do let y ← mb ρ; let k ← cmpI p x y; if k then (do let z ← mc ρ; cmpI q y z) else pure false) er s L fun β1 H1 h1 d1 x s1 r1 A1 L1 => ?_
  refine one (f := fun y => do let k ← cmpI p d1 y; if k then (do let z ← mc ρ; cmpI q y z) else pure false) (A1.er s er) s1 L1 fun β2 H2 h2 d2 y s2 r2 A2 L2 => ?_
  obtain ⟨i, j, e1, e2, L3⟩ := Lands.cmpBind L2 (A2.rel s1 r1) r2
  refine ⟨i, j, e1, e2, p i j, rfl, ?_⟩
  cases k : p i j with
  | false =>
    rw [k] at L3
    exact iteF ⟨false, rfl, L3.ret s2 rfl⟩
  | true =>
    rw [k] at L3
    refine iteT (one (f := fun z => cmpI q d2 z) (A2.er s1 (A1.er s er)) s2 L3 fun β3 H3 h3 d3 z s3 r3 A3 L4 => ?_)
    exact opMB_int β3 H3 h3 d2 d3 y z Q _ s3 (A3.rel s2 r2) r3 L4
theorem mt_chain {op op' : CmpOp} {p q : Int → Int → Bool} (ho : OpR X (compareOp op) (rI0 fun i j => .bl (p i j))) (ho' : OpR X (compareOp op') (rI0 fun i j => .bl (q i j))) (ha : ME X Wx a ma) (hb : ME X Wx b mb) (hc : ME X Wx c mc)
    (hm : lastMarks [op, op'] [b, c] = false := by with_unfolding_all rfl) : MT X Wx (.Compare a [op, op'] [b, c] pos) (mChT (cmpI p) (cmpI q) ma mb mc) :=
  pt_weak (pt_chain ho ho' ha hb hc hm) fun σ H Q ⟨β, ρ, h, er, s, L⟩ => chain_core er s L
theorem me_chain {op op' : CmpOp} {p q : Int → Int → Bool} (ho : OpR X (compareOp op) (rI0 fun i j => .bl (p i j))) (ho' : OpR X (compareOp op') (rI0 fun i j => .bl (q i j))) (ha : ME X Wx a ma) (hb : ME X Wx b mb) (hc : ME X Wx c mc)
    (hm : lastMarks [op, op'] [b, c] = false := by with_unfolding_all rfl) : ME X Wx (.Compare a [op, op'] [b, c] pos) (mChV (cmpI p) (cmpI q) ma mb mc) :=
  pe_weak (pe_mono (pe_chain ho ho' ha hb hc hm)) fun σ H Q ⟨β, ρ, h, er, s, L⟩ => ⟨fun v H' => ∃ k, v = .bl k ∧ Q (.bl k) H', fun v H' ⟨k, e, q⟩ => e ▸ q, chain_core (Q := fun k H' => Q (.bl k) H') er s L.boolD⟩

/-! ### is None, is not None -/
@[simp] def isNon : Dat → Bool
  | .non => true
  | _ => false
theorem rel_isNon {W : Wd} {β : Nat → Addr} {N : Nat} {H : Hp} {d : Dat} {v : V} (r : Rel W β N H d v) : decide (v = .non) = isNon d := by
  cases d <;> unfold Rel at r <;> first
    | (subst r; rfl)
    | (obtain ⟨a, vs, e, _⟩ := r; subst e; rfl)
    | (obtain ⟨a, _, _, _, _, _, e, _⟩ := r; subst e; rfl)
    | (obtain ⟨_, e⟩ := r; subst e; rfl)
@[simp] def mIsN (ma : Mv) : Mv := fun ρ => do let x ← ma ρ; pure (.bl (isNon x))
@[simp] def mNotN (ma : Mv) : Mv := fun ρ => do let x ← ma ρ; pure (.bl (!isNon x))
theorem me_isN (ha : ME X Wx a ma) {j pos'} : ME X Wx (.Compare a [.Is] [.Constant .none j pos'] pos) (mIsN ma) :=
  pe_weak (pe_cmp (pc_isN ha)) fun σ H Q ⟨β, ρ, h, er, s, L⟩ => one er s L fun β1 H1 h1 d1 x s1 r1 A1 L1 => by
    rw [rel_isNon r1]; exact L1.ret s1 mk_bl
theorem me_notN (ha : ME X Wx a ma) {j pos'} : ME X Wx (.Compare a [.IsNot] [.Constant .none j pos'] pos) (mNotN ma) :=
  pe_weak (pe_cmp (pc_notN ha)) fun σ H Q ⟨β, ρ, h, er, s, L⟩ => one er s L fun β1 H1 h1 d1 x s1 r1 A1 L1 => by
    rw [rel_isNon r1]; exact L1.ret s1 mk_bl
@[simp] def mIsNT (ma : Mv) : Mb := fun ρ => do let x ← ma ρ; pure (isNon x)
@[simp] def mNotNT (ma : Mv) : Mb := fun ρ => do let x ← ma ρ; pure (!isNon x)
theorem isn_core {g : Bool → Bool} {σ : L2.St} {H : Hp} {Q : Bool → Hp → Prop} {β : Nat → Addr} {ρ : Env'} {h : Hm} (er : ER (wd X) X.N.length β h.length H ρ σ) (s : Sim (wd X) β H h)
    (L : Lands (wd X) EqB β H h ((do let x ← ma ρ; pure (g (isNon x))) h) Q (exW Wx σ)) : tM X Wx ma σ H fun x H1 => ∃ c, V.bl (g (decide (x = .non))) = .bl c ∧ Q c H1 :=
  one er s L fun β1 H1 h1 d1 x s1 r1 _ L1 => ⟨_, rfl, by rw [rel_isNon r1]; exact L1.ret s1 rfl⟩
theorem mt_isN (ha : ME X Wx a ma) {j pos'} : MT X Wx (.Compare a [.Is] [.Constant .none j pos'] pos) (mIsNT ma) :=
  pt_weak (pt_cmp (pc_isN ha)) fun σ H Q ⟨β, ρ, h, er, s, L⟩ => isn_core (g := id) er s L
theorem mt_notN (ha : ME X Wx a ma) {j pos'} : MT X Wx (.Compare a [.IsNot] [.Constant .none j pos'] pos) (mNotNT ma) :=
  pt_weak (pt_cmp (pc_notN ha)) fun σ H Q ⟨β, ρ, h, er, s, L⟩ => isn_core (g := not) er s L
end
end Mir
end

section
set_option Elab.async false
set_option linter.all false
set_option maxRecDepth 100000
/-! Mir6: == and in of data, places, slices, len, isinstance, all, any, list, tuple, int, texts' methods. -/
namespace Mir
open PySem PySem.Spec
open PyProof.Rows L2

/-! ### data without dicts, read off the heap -/
@[simp] def optAll {α γ : Type} (f : α → Option γ) : List α → Option (List γ)
  | [] => some []
  | d :: ds => match f d, optAll f ds with
    | some k, some ks => some (k :: ks)
    | _, _ => none
def toPy (h : Hm) : Nat → Dat → Option PyData
  | 0, _ => none
  | _ + 1, .non => some .none
  | _ + 1, .bl b => some (.bool b)
  | _ + 1, .int i => some (.int i)
  | _ + 1, .str x => if PyData.canLay0 (.str x) = true then some (.str x) else none
  | n + 1, .tup xs => (optAll (toPy h n) xs).map .tuple
  | n + 1, .lst xs => (optAll (toPy h n) xs).map .list
  | n + 1, .ref k => match h[k]? with
    | some (.lst xs) => (optAll (toPy h n) xs).map .list
    | _ => none
  | _ + 1, _ => none
theorem optAll_mem {α γ : Type} {f : α → Option γ} {P : γ → Prop} (hf : ∀ a k, f a = some k → P k) : ∀ {xs : List α} {ks : List γ}, optAll f xs = some ks → ∀ k ∈ ks, P k
  | [], ks, e, k, hk => by
    unfold optAll at e
    cases e
    cases hk
  | x :: xs, ks, e, k, hk => by
    unfold optAll at e
    split at e
    · rename_i k0 ks0 e1 e2
      cases e
      rcases List.mem_cons.mp hk with rfl | hk
      · exact hf _ _ e1
      · exact optAll_mem hf e2 k hk
    · cases e
theorem canAll {ds : List PyData} (h : ∀ d ∈ ds, d.canLay0 = true) : PyData.canLayAll0 ds = true := by
  induction ds with
  | nil => rfl
  | cons d ds ih =>
    unfold PyData.canLayAll0
    rw [h d List.mem_cons_self, ih fun e he => h e (List.mem_cons_of_mem _ he)]
    rfl
theorem depAll {ds : List PyData} {n : Nat} (h : ∀ d ∈ ds, d.depth ≤ n) : PyData.depthAll ds ≤ n := by
  induction ds with
  | nil => exact Nat.zero_le _
  | cons d ds ih =>
    unfold PyData.depthAll
    exact Nat.max_le.mpr ⟨h d List.mem_cons_self, ih fun e he => h e (List.mem_cons_of_mem _ he)⟩
theorem toPy_ok (h : Hm) : ∀ (n : Nat) (d : Dat) (p : PyData), toPy h n d = some p → p.canLay0 = true ∧ p.depth ≤ n
  | 0, _, _, e => by unfold toPy at e; cases e
  | n + 1, d, p, e => by
    have key : ∀ xs ds, optAll (toPy h n) xs = some ds → PyData.canLayAll0 ds = true ∧ PyData.depthAll ds ≤ n := fun xs ds e =>
      ⟨canAll fun d hd => (optAll_mem (P := fun p => p.canLay0 = true ∧ p.depth ≤ n) (fun a k ek => toPy_ok h n a k ek) e d hd).1, depAll fun d hd => (optAll_mem (P := fun p => p.canLay0 = true ∧ p.depth ≤ n) (fun a k ek => toPy_ok h n a k ek) e d hd).2⟩
    cases d with
    | non => unfold toPy at e; cases e; exact ⟨rfl, Nat.zero_le _⟩
    | bl b => unfold toPy at e; cases e; exact ⟨rfl, Nat.zero_le _⟩
    | int b => unfold toPy at e; cases e; exact ⟨rfl, Nat.zero_le _⟩
    | str x =>
      unfold toPy at e
      split at e
      · rename_i hs; cases e; exact ⟨hs, Nat.zero_le _⟩
      · cases e
    | tup xs =>
      unfold toPy at e
      obtain ⟨ds, e1, rfl⟩ := Option.map_eq_some_iff.mp e
      obtain ⟨h1, h2⟩ := key xs ds e1
      exact ⟨h1, by unfold PyData.depth; omega⟩
    | lst xs =>
      unfold toPy at e
      obtain ⟨ds, e1, rfl⟩ := Option.map_eq_some_iff.mp e
      obtain ⟨h1, h2⟩ := key xs ds e1
      exact ⟨h1, by unfold PyData.depth; omega⟩
    | ref k =>
      unfold toPy at e
      split at e
      · obtain ⟨ds, e1, rfl⟩ := Option.map_eq_some_iff.mp e
        obtain ⟨h1, h2⟩ := key _ ds e1
        exact ⟨h1, by unfold PyData.depth; omega⟩
      · cases e
    | dct _ _ _ => unfold toPy at e; cases e
    | exn _ => unfold toPy at e; cases e
theorem toPy_shaped {h : Hm} {n : Nat} {d : Dat} {p : PyData} (e : toPy h n d = some p) (hn : n ≤ 64) : SeqAt.shaped p = true := by
  obtain ⟨h1, h2⟩ := toPy_ok h n d p e
  unfold SeqAt.shaped
  rw [h1, decide_eq_true (Nat.le_trans h2 hn)]
  rfl
theorem dp_all {K : PySem.W.Frag} {H : Hp} {W : Wd} {β : Nat → Addr} {N : Nat} {f : Dat → Option PyData} (hf : ∀ d p v, f d = some p → Rel W β N H d v → Dp K H v p) :
    ∀ {xs : List Dat} {ds : List PyData} {vs : List V}, optAll f xs = some ds → Rels W β N H xs vs → DpAll K H vs ds
  | [], ds, vs, e, r => by
    unfold optAll at e
    unfold Rels at r
    cases e
    subst r
    exact .nil
  | x :: xs, ds, vs, e, r => by
    unfold optAll at e
    unfold Rels at r
    obtain ⟨v, r', rfl, h1, h2⟩ := r
    split at e
    · rename_i k0 ks0 e1 e2
      cases e
      exact .cons (hf _ _ _ e1 h1) (dp_all hf e2 h2)
    · cases e
theorem toPy_dp {W : Wd} {β : Nat → Addr} {H : Hp} {h : Hm} (s : Sim W β H h) : ∀ (n : Nat) (d : Dat) (p : PyData) (v : V), toPy h n d = some p → Rel W β h.length H d v → Dp W.K H v p
  | 0, _, _, _, e, _ => by unfold toPy at e; cases e
  | n + 1, d, p, v, e, r => by
    have ih := toPy_dp s n
    cases d with
    | non => unfold toPy at e; cases e; rw [rel_non r]; exact .non
    | bl b => unfold toPy at e; cases e; rw [rel_bl r]; exact .bl b
    | int b => unfold toPy at e; cases e; rw [rel_int r]; exact .int b
    | str x =>
      unfold toPy at e
      split at e
      · cases e; rw [rel_str r]; exact .str x
      · cases e
    | tup xs =>
      unfold toPy at e
      obtain ⟨ds, e1, rfl⟩ := Option.map_eq_some_iff.mp e
      obtain ⟨a, vs, rfl, k, rs⟩ := rel_tup r
      exact .tup k.sq (dp_all (fun d p v e r => ih d p v e r) e1 rs)
    | lst xs =>
      unfold toPy at e
      unfold Rel at r
      obtain ⟨ds, e1, rfl⟩ := Option.map_eq_some_iff.mp e
      obtain ⟨a, vs, rfl, k, rs⟩ := r
      exact .lst k.sq (dp_all (fun d p v e r => ih d p v e r) e1 rs)
    | ref m =>
      unfold toPy at e
      unfold Rel at r
      obtain ⟨_, rfl⟩ := r
      split at e
      · rename_i xs ex
        obtain ⟨ds, e1, rfl⟩ := Option.map_eq_some_iff.mp e
        obtain ⟨vs, k, rs⟩ := s.cell m _ ex
        exact .lst (.inl (.inl k)) (dp_all (fun d p v e r => ih d p v e r) e1 rs)
      · cases e
    | dct _ _ _ => unfold toPy at e; cases e
    | exn _ => unfold toPy at e; cases e
/-- the datum as Python's data: to depth 30 -/
def pyOf (d : Dat) : Mo PyData := fun h => match toPy h 30 d with
  | some p => .val p h
  | none => .bad
theorem pyOf_val {d : Dat} {h : Hm} {p : PyData} (e : toPy h 30 d = some p) : pyOf d h = .val p h := by unfold pyOf; rw [e]
theorem Lands.pyB {α τ : Type} {W : Wd} {R : (Nat → Addr) → Nat → Hp → α → τ → Prop} {β : Nat → Addr} {H : Hp} {h : Hm} {d : Dat} {v : V} {f : PyData → Mo α} {Q : τ → Hp → Prop} {E : Addr → Hp → Prop}
    (L : Lands W R β H h ((do let c ← pyOf d; f c) h) Q E) (s : Sim W β H h) (r : Rel W β h.length H d v) : ∃ p, Dp W.K H v p ∧ SeqAt.shaped p = true ∧ toPy h 30 d = some p ∧ Lands W R β H h (f p h) Q E := by
  cases e : toPy h 30 d with
  | none => rw [bnd_bad (by unfold pyOf; rw [e])] at L; exact L.elim
  | some p =>
    rw [bnd_val (pyOf_val e)] at L
    exact ⟨p, toPy_dp s 30 d p v e r, toPy_shaped e (by decide), rfl, L⟩
def cEqD (x y : Dat) : Mo Bool := do let p ← pyOf x; let q ← pyOf y; pure (PyData.eqv p q)
def cNeD (x y : Dat) : Mo Bool := do let p ← pyOf x; let q ← pyOf y; pure (!PyData.eqv p q)
theorem opM_eqD {W : Wd} : OpMB W cEqD (rEqD W.K) := fun β H h d1 d2 x y Q E s r1 r2 L => by
  obtain ⟨p, k1, s1, _, L1⟩ := Lands.pyB L s r1
  obtain ⟨q, k2, s2, _, L2⟩ := Lands.pyB L1 s r2
  exact ⟨p, q, k1, k2, s1, s2, _, rfl, L2.ret s rfl⟩
theorem opM_neD {W : Wd} : OpMB W cNeD (rNeD W.K) := fun β H h d1 d2 x y Q E s r1 r2 L => by
  obtain ⟨p, k1, s1, _, L1⟩ := Lands.pyB L s r1
  obtain ⟨q, k2, s2, _, L2⟩ := Lands.pyB L1 s r2
  exact ⟨p, q, k1, k2, s1, s2, _, rfl, L2.ret s rfl⟩

/-! ### x in a list or tuple of data; a sign in a text -/
def pysOf (f : Dat → Option PyData) (xs : List Dat) : Option (List PyData) := optAll f xs
def rInS (K : PySem.W.Frag) (neg : Bool) : R2 := fun x y H Q => ∃ p xs d ds, y = .ref p ∧ (SqL K H p xs ∨ SqT K H p xs) ∧ Dp K H x d ∧ DpAll K H xs ds ∧ SeqAt.shaped d = true ∧ (∀ e ∈ ds, SeqAt.shaped e = true) ∧ Q (.bl (neg != ds.any fun e => PyData.eqv e d)) H
/-- whether a value reads as data equal to d -/
noncomputable def eqTo (h : Heap) (d : PyData) (u : Value) : Bool := @decide (∃ e as, Reads h u e as ∧ e.canLay0 = true ∧ PyData.eqv e d = true) (Classical.propDecidable _)
theorem eqTo_of {h : Heap} {d e : PyData} {u : Value} {as : List Addr} (r : Reads h u e as) (c : e.canLay0 = true) : eqTo h d u = PyData.eqv e d := by
  unfold eqTo
  cases k : PyData.eqv e d with
  | true => exact @decide_eq_true _ (Classical.propDecidable _) ⟨e, as, r, c, k⟩
  | false =>
    refine @decide_eq_false _ (Classical.propDecidable _) ?_
    rintro ⟨e', as', r', c', k'⟩
    have := SeqAt.Reads.unique e e' u _ _ c r r'
    rw [← this, k] at k'
    cases k'
theorem dpAll_each {X : Cx} {pins : List (Addr × Obj)} {σ : L2.St} {H : Hp} {s : Shared} (I : Inv X pins σ H s) {A : Around} (hu : A.units + 64 < cLine) {d : PyData} {v : Value} {bs : List Addr} (rd : Reads s.heap v d bs) (sd : SeqAt.shaped d = true) :
    ∀ {ds : List PyData} {xs : List V} {us : List Value}, DpAll X.K H xs ds → Vals xs us → (∀ e ∈ ds, SeqAt.shaped e = true) → (∀ u ∈ us, SeqAt.EqAt A s u v (eqTo s.heap d u)) ∧ us.map (eqTo s.heap d) = ds.map fun e => PyData.eqv e d
  | [], xs, us, hd, r, hs => by
    cases hd
    cases r
    exact ⟨fun _ h => (nomatch h), rfl⟩
  | e :: es, xs, us, hd, r, hs => by
    cases hd with
    | @cons x xs _ _ h1 h2 =>
      cases r with
      | @cons _ u _ us r1 r2 =>
        obtain ⟨h3, h4⟩ := dpAll_each I hu rd sd h2 r2 fun e he => hs e (List.mem_cons_of_mem _ he)
        obtain ⟨as, ra⟩ := Dp.reads I e x u h1 r1
        have ce := SeqAt.canLay_of_shaped (hs e List.mem_cons_self)
        refine ⟨fun w hw => ?_, by rw [List.map_cons, List.map_cons, h4, eqTo_of ra ce]⟩
        rcases List.mem_cons.mp hw with rfl | hw
        · rw [eqTo_of ra ce]
          exact SeqAt.eqAt_reads e d A s _ v _ _ ra rd ce (SeqAt.canLay_of_shaped sd) (SeqAt.room_of_shaped (hs e List.mem_cons_self) hu)
        · exact h3 w hw
theorem any_map {α : Type} {f : α → Bool} : ∀ {l : List α}, l.any f = (l.map f).any id
  | [] => rfl
  | x :: l => by rw [List.any_cons, List.map_cons, List.any_cons, any_map]; rfl
theorem op_inS {X : Cx} (hu : X.A.units + 65 < cLine) : OpR X (compareOp .In) (rInS X.K false) := by
  intro pins s σ H x y v u Q I rx ry h
  obtain ⟨p, xs, d, ds, rfl, hq, hd, hds, sd, sds, q⟩ := h
  cases ry
  obtain ⟨bs, rd⟩ := Dp.reads I d x v hd rx
  have hu' : X.A.in1.units + 64 < cLine := by show X.A.units + 1 + 64 < cLine; omega
  rcases hq with hq | hq
  · obtain ⟨its, r, pl, hz⟩ := I.list hq
    obtain ⟨h1, h2⟩ := dpAll_each I hu' rd sd hds r sds
    refine SeqAt.in_listAt (eqTo s.heap d) pl.isList (fun w hw => h1 w (by simpa using hw)) ⟨.bl _, H, I, rfl, ?_⟩
    rw [show its.toArray.any (eqTo s.heap d) = its.any (eqTo s.heap d) by simp, any_map, h2, ← any_map]
    simpa using q
  · obtain ⟨its, r, pl, hz⟩ := I.tuple hq
    obtain ⟨h1, h2⟩ := dpAll_each I hu' rd sd hds r sds
    refine SeqAt.in_tupleAt (eqTo s.heap d) pl (fun w hw => h1 w (by simpa using hw)) ⟨.bl _, H, I, rfl, ?_⟩
    rw [show its.toArray.any (eqTo s.heap d) = its.any (eqTo s.heap d) by simp, any_map, h2, ← any_map]
    simpa using q
theorem op_ninS {X : Cx} (hu : X.A.units + 65 < cLine) : OpR X (compareOp .NotIn) (rInS X.K true) := by
  intro pins s σ H x y v u Q I rx ry h
  obtain ⟨p, xs, d, ds, rfl, hq, hd, hds, sd, sds, q⟩ := h
  cases ry
  obtain ⟨bs, rd⟩ := Dp.reads I d x v hd rx
  have hu' : X.A.in1.units + 64 < cLine := by show X.A.units + 1 + 64 < cLine; omega
  rcases hq with hq | hq
  · obtain ⟨its, r, pl, hz⟩ := I.list hq
    obtain ⟨h1, h2⟩ := dpAll_each I hu' rd sd hds r sds
    refine SeqAt.notIn_listAt (eqTo s.heap d) pl.isList (fun w hw => h1 w (by simpa using hw)) ⟨.bl _, H, I, rfl, ?_⟩
    rw [show its.toArray.any (eqTo s.heap d) = its.any (eqTo s.heap d) by simp, any_map, h2, ← any_map]
    simpa using q
  · obtain ⟨its, r, pl, hz⟩ := I.tuple hq
    obtain ⟨h1, h2⟩ := dpAll_each I hu' rd sd hds r sds
    refine SeqAt.notIn_tupleAt (eqTo s.heap d) pl (fun w hw => h1 w (by simpa using hw)) ⟨.bl _, H, I, rfl, ?_⟩
    rw [show its.toArray.any (eqTo s.heap d) = its.any (eqTo s.heap d) by simp, any_map, h2, ← any_map]
    simpa using q
end Mir
end

section
set_option Elab.async false
set_option linter.all false
set_option maxRecDepth 100000
/-! Mir7: in, places, slices, len, isinstance, all, any, list, tuple, int, texts' methods. -/
namespace Mir
open PySem PySem.Spec
open PyProof.Rows L2

/-! ### in -/
def pysM (xs : List Dat) : Mo (List PyData) := fun h => match optAll (toPy h 30) xs with
  | some ps => .val ps h
  | none => .bad
theorem pysM_val {xs : List Dat} {h : Hm} {ps : List PyData} (e : optAll (toPy h 30) xs = some ps) : pysM xs h = .val ps h := by unfold pysM; rw [e]
theorem Lands.pysB {α τ : Type} {W : Wd} {R : (Nat → Addr) → Nat → Hp → α → τ → Prop} {β : Nat → Addr} {H : Hp} {h : Hm} {ds : List Dat} {vs : List V} {f : List PyData → Mo α} {Q : τ → Hp → Prop} {E : Addr → Hp → Prop}
    (L : Lands W R β H h ((do let c ← pysM ds; f c) h) Q E) (s : Sim W β H h) (r : Rels W β h.length H ds vs) : ∃ ps, DpAll W.K H vs ps ∧ (∀ e ∈ ps, SeqAt.shaped e = true) ∧ Lands W R β H h (f ps h) Q E := by
  cases e : optAll (toPy h 30) ds with
  | none => rw [bnd_bad (by unfold pysM; rw [e])] at L; exact L.elim
  | some ps =>
    rw [bnd_val (pysM_val e)] at L
    exact ⟨ps, dp_all (fun d p v e r => toPy_dp s 30 d p v e r) e r, fun p hp => optAll_mem (P := fun p => SeqAt.shaped p = true) (fun a k ek => toPy_shaped ek (by decide)) e p hp, L⟩
@[simp] def signIn (x : Dat) (z : Str) : Mo Bool := do let s ← strOf x; if s.cps.size = 1 then pure (decide (s.cps.getD 0 0 ∈ z.cps.toList)) else bad
def memD (x c : Dat) : Mo Bool := do let xs ← seqOf c; let d ← pyOf x; let ds ← pysM xs; pure (ds.any fun e => PyData.eqv e d)
theorem one_sign {s : Str} (h : s.cps.size = 1) : s = ⟨#[s.cps.getD 0 0]⟩ := by
  obtain ⟨⟨l⟩⟩ := s
  match l, h with
  | [c], _ => rfl
theorem Lands.signB {α τ : Type} {W : Wd} {R : (Nat → Addr) → Nat → Hp → α → τ → Prop} {β : Nat → Addr} {H : Hp} {h : Hm} {x : Dat} {v : V} {z : Str} {f : Bool → Mo α} {Q : τ → Hp → Prop} {E : Addr → Hp → Prop}
    (L : Lands W R β H h ((do let c ← signIn x z; f c) h) Q E) (r : Rel W β h.length H x v) : ∃ c : Nat, v = .str ⟨#[c]⟩ ∧ Lands W R β H h (f (decide (c ∈ z.cps.toList)) h) Q E := by
  cases x with
  | str s =>
    have L' : Lands W R β H h (((if s.cps.size = 1 then pure (decide (s.cps.getD 0 0 ∈ z.cps.toList)) else bad : Mo Bool) >>= f) h) Q E := L
    by_cases q : s.cps.size = 1
    · rw [if_pos q] at L'
      exact ⟨s.cps.getD 0 0, by rw [rel_str r]; exact congrArg V.str (one_sign q), L'⟩
    · rw [if_neg q] at L'; exact L'.elim
  | _ => exact False.elim L
theorem Lands.memB {α τ : Type} {W : Wd} {R : (Nat → Addr) → Nat → Hp → α → τ → Prop} {β : Nat → Addr} {H : Hp} {h : Hm} {x c : Dat} {v u : V} {f : Bool → Mo α} {Q : τ → Hp → Prop} {E : Addr → Hp → Prop}
    (L : Lands W R β H h ((do let k ← memD x c; f k) h) Q E) (s : Sim W β H h) (r : Rel W β h.length H x v) (rc : Rel W β h.length H c u) :
    ∃ p xs d ds, u = .ref p ∧ (SqL W.K H p xs ∨ SqT W.K H p xs) ∧ Dp W.K H v d ∧ DpAll W.K H xs ds ∧ SeqAt.shaped d = true ∧ (∀ e ∈ ds, SeqAt.shaped e = true) ∧ Lands W R β H h (f (ds.any fun e => PyData.eqv e d) h) Q E := by
  unfold memD at L
  have L1 : Lands W R β H h ((do let xs ← seqOf c; let d ← pyOf x; let ds ← pysM xs; f (ds.any fun e => PyData.eqv e d)) h) Q E := by
    simpa only [bind_assoc, pure_bind] using L
  obtain ⟨p, xs, ds, e1, k1, q1, L2⟩ := Lands.seqB L1 s rc
  obtain ⟨d, k2, s2, _, L3⟩ := Lands.pyB L2 s r
  obtain ⟨ps, k3, s3, L4⟩ := Lands.pysB L3 s q1
  exact ⟨p, xs, d, ps, e1, k1, k2, k3, s2, s3, L4⟩

/-! ### places -/
theorem Rels.get {W : Wd} {β : Nat → Addr} {N : Nat} {H : Hp} : ∀ {xs : List Dat} {vs : List V} {i : Nat} {d : Dat}, Rels W β N H xs vs → xs[i]? = some d → ∃ v, vs[i]? = some v ∧ Rel W β N H d v
  | [], _, i, _, _, e => by simp at e
  | x :: xs, vs, i, d, h, e => by
    unfold Rels at h
    obtain ⟨v, r, rfl, h1, h2⟩ := h
    cases i with
    | zero => simp at e; subst e; exact ⟨v, by simp, h1⟩
    | succ i =>
      obtain ⟨w, e2, r2⟩ := Rels.get (i := i) h2 (by simpa using e)
      exact ⟨w, by simpa using e2, r2⟩
theorem Rels.atIx {W : Wd} {β : Nat → Addr} {N : Nat} {H : Hp} {xs : List Dat} {vs : List V} {i : Int} {d : Dat} (h : Rels W β N H xs vs) (e : atI xs i = some d) : ∃ v, atI vs i = some v ∧ Rel W β N H d v := by
  unfold atI at e ⊢
  rw [← h.length]
  cases q : ixN xs.length i with
  | none => rw [q] at e; cases e
  | some j =>
    rw [q] at e
    exact Rels.get h e
@[simp] def optM {α : Type} : Option α → Mo α
  | some a => pure a
  | none => bad
theorem Lands.optB {α γ τ : Type} {W : Wd} {R : (Nat → Addr) → Nat → Hp → α → τ → Prop} {β : Nat → Addr} {H : Hp} {h : Hm} {o : Option γ} {f : γ → Mo α} {Q : τ → Hp → Prop} {E : Addr → Hp → Prop} (L : Lands W R β H h ((do let c ← optM o; f c) h) Q E) :
    ∃ a, o = some a ∧ Lands W R β H h (f a h) Q E := by
  cases o with
  | none => exact L.elim
  | some a => exact ⟨a, rfl, L⟩
@[simp] def ixS (z : Str) (k : Dat) : Mo Dat := do let i ← intOf k; let c ← optM (atI z.cps.toList i); if z.length ≤ sizeLine then pure (.str ⟨#[c]⟩) else bad
@[simp] def ixL (d k : Dat) : Mo Dat := do let xs ← seqOf d; let i ← intOf k; optM (atI xs i)
@[simp] def ixSq (d k : Dat) : Mo Dat := match d with
  | .str z => ixS z k
  | _ => ixL d k
theorem Lands.ixM {W : Wd} {β : Nat → Addr} {H : Hp} {h : Hm} {d1 d2 : Dat} {x y : V} {Q : VK} {E : Addr → Hp → Prop} (L : Lands W (Rel W) β H h (ixSq d1 d2 h) Q E) (s : Sim W β H h) (r1 : Rel W β h.length H d1 x) (r2 : Rel W β h.length H d2 y) : rIx W.K x y H Q := by
  have seq : Lands W (Rel W) β H h (ixL d1 d2 h) Q E → rIx W.K x y H Q := fun L => by
    obtain ⟨p, vs, xs, e1, k1, q1, L1⟩ := Lands.seqB L s r1
    obtain ⟨i, e2, L2⟩ := Lands.intB L1 r2
    cases o : atI xs i with
    | none => rw [o] at L2; exact L2.elim
    | some d =>
      rw [o] at L2
      obtain ⟨v, ev, rv⟩ := q1.atIx o
      rcases k1 with k1 | k1
      · exact .inl ⟨p, vs, i, v, e1, e2, k1, ev, L2.ret s rv⟩
      · exact .inr (.inl ⟨p, vs, i, v, e1, e2, k1, ev, L2.ret s rv⟩)
  cases d1 with
  | str z =>
    obtain ⟨i, e2, L1⟩ := Lands.intB L r2
    obtain ⟨c, ec, L2⟩ := Lands.optB L1
    obtain ⟨hz, L3⟩ := Lands.ifB L2
    exact .inr (.inr ⟨z, i, c, rel_str r1, e2, hz, ec, L3.ret s mk_str⟩)
  | _ => exact seq L

/-! ### slices -/
theorem fz_no {v : V} {H : Hp} {Q : VK} (q : Q v H) : ∃ S : Addr → Prop, (∀ a, S a → ∃ u, H a = some u ∧ Fzb u) ∧ ∀ H2, Fzn S H H2 → Q v H2 :=
  ⟨fun _ => False, fun _ h => h.elim, fun H2 z => by
    have e : H2 = H := funext fun a => (z a).1 fun f => f
    rw [e]; exact q⟩
theorem fz_one {p : Addr} {u : HO} {H : Hp} {Q : VK} {v : V} (hp : H p = none) (hu : Fzb u) (q : ∀ o, Q v (upd H p (.frz o u))) : ∃ S : Addr → Prop, (∀ a, S a → ∃ u', upd H p u a = some u' ∧ Fzb u') ∧ ∀ H2, Fzn S (upd H p u) H2 → Q v H2 :=
  ⟨fun a => a = p, fun a e => ⟨u, by rw [e, upd_same], hu⟩, fun H2 z => by
    obtain ⟨o, rfl⟩ := Fzn.one (fun _ => Iff.rfl) hp z
    exact q o⟩
def cutD (xs : List Dat) (lo hi : Option Int) : List Dat := (xs.drop (HT.sIx xs.length 0 lo)).take (HT.sIx xs.length xs.length hi - HT.sIx xs.length 0 lo)
theorem Rels.take {W : Wd} {β : Nat → Addr} {N : Nat} {H : Hp} : ∀ {xs : List Dat} {vs : List V} (n : Nat), Rels W β N H xs vs → Rels W β N H (xs.take n) (vs.take n)
  | [], vs, n, h => by unfold Rels at h; subst h; simp [Rels]
  | x :: xs, vs, 0, h => by simp [Rels]
  | x :: xs, vs, n + 1, h => by
    unfold Rels at h
    obtain ⟨v, r, rfl, h1, h2⟩ := h
    rw [List.take_succ_cons, List.take_succ_cons]
    unfold Rels
    exact ⟨v, _, rfl, h1, Rels.take n h2⟩
theorem Rels.drop {W : Wd} {β : Nat → Addr} {N : Nat} {H : Hp} : ∀ {xs : List Dat} {vs : List V} (n : Nat), Rels W β N H xs vs → Rels W β N H (xs.drop n) (vs.drop n)
  | [], vs, n, h => by unfold Rels at h; subst h; simp [Rels]
  | x :: xs, vs, 0, h => h
  | x :: xs, vs, n + 1, h => by
    unfold Rels at h
    obtain ⟨v, r, rfl, h1, h2⟩ := h
    rw [List.drop_succ_cons, List.drop_succ_cons]
    exact Rels.drop n h2
theorem Rels.cut {W : Wd} {β : Nat → Addr} {N : Nat} {H : Hp} {xs : List Dat} {vs : List V} {lo hi : Option Int} (h : Rels W β N H xs vs) : Rels W β N H (cutD xs lo hi) (cutV vs lo hi) := by
  unfold cutD cutV
  rw [h.length]
  exact (h.drop _).take _
theorem cut_whole {xs : List Dat} {lo hi : Option Int} (h : HT.sIx xs.length 0 lo = 0 ∧ HT.sIx xs.length xs.length hi = xs.length) : cutD xs lo hi = xs := by
  unfold cutD
  rw [h.1, h.2, List.drop_zero, Nat.sub_zero, List.take_length]
@[simp] def slD (d : Dat) (lo hi : Option Int) : Mo Dat := match d with
  | .str z => if z.length ≤ sizeLine then pure (.str (cutS z lo hi)) else bad
  | .tup xs => pure (.tup (cutD xs lo hi))
  | d => do let xs ← listOf d; pure (.lst (cutD xs lo hi))
def rSlM (K : PySem.W.Frag) : V → Option Int → Option Int → Hp → VK → Prop := fun x lo hi H Q => rSlS x lo hi H Q ∨ (rSlA K x lo hi H Q ∨ rSlL K x lo hi H Q)
theorem slM {W : Wd} {β : Nat → Addr} {H : Hp} {h : Hm} {d : Dat} {x : V} {lo hi : Option Int} {Q : VK} {E : Addr → Hp → Prop} (L : Lands W (Rel W) β H h (slD d lo hi h) Q E) (s : Sim W β H h) (r : Rel W β h.length H d x) :
    rSlM W.K x lo hi H fun v H1 => ∃ S : Addr → Prop, (∀ a, S a → ∃ u, H1 a = some u ∧ Fzb u) ∧ ∀ H2, Fzn S H1 H2 → Q v H2 := by
  have lst : Lands W (Rel W) β H h ((do let xs ← listOf d; pure (Dat.lst (cutD xs lo hi))) h) Q E → rSlM W.K x lo hi H fun v H1 => ∃ S : Addr → Prop, (∀ a, S a → ∃ u, H1 a = some u ∧ Fzb u) ∧ ∀ H2, Fzn S H1 H2 → Q v H2 := fun L => by
    obtain ⟨a, vs, xs, e, k, rs, L1⟩ := Lands.listB L s r
    exact .inr (.inr ⟨a, vs, e, k, fun p hp => fz_one hp trivial fun o => L1.fzL s rs.cut hp⟩)
  cases d with
  | str z =>
    obtain ⟨hz, L1⟩ := Lands.ifB L
    exact .inl ⟨z, rel_str r, hz, fz_no (L1.ret s mk_str)⟩
  | tup xs =>
    obtain ⟨a, vs, e, k, rs⟩ := rel_tup r
    refine .inr (.inl ⟨a, vs, e, k.sq, fun hw => ?_, fun hw p hp => fz_no (L.tup s rs.cut hp)⟩)
    rw [← rs.length] at hw
    have L' : Lands W (Rel W) β H h (.val (.tup xs) h) Q E := by
      have q : cutD xs lo hi = xs := cut_whole hw
      have L0 : Lands W (Rel W) β H h (.val (.tup (cutD xs lo hi)) h) Q E := L
      rw [q] at L0
      exact L0
    exact fz_no (L'.ret s (e ▸ r))
  | _ => exact lst L
abbrev Mo' := Env' → Mo (Option Int)
def tMO (X : Cx) (Wx : WX) (m : Mo') : L2.St → Hp → (Option Int → Hp → Prop) → Prop := fun σ H Q => ∃ β ρ h, ER (wd X) X.N.length β h.length H ρ σ ∧ Sim (wd X) β H h ∧ Lands (wd X) (fun _ _ _ (a b : Option Int) => a = b) β H h (m ρ h) Q (exW Wx σ)
section
variable {X : Cx} {Wx : WX} {a b : Expr} {ma mb : Mv} {pos p2 : Pos}
theorem po_weak {e : Option Expr} {t t' : TO} (h : PO X e t) (w : ∀ σ H Q, t' σ H Q → t σ H Q) : PO X e t' := ⟨fun pins s σ H Q I q => h.run pins s σ H Q I (w σ H Q q)⟩
@[simp] def mPn : Mo' := fun _ => pure none
@[simp] def mPs (ma : Mv) : Mo' := fun ρ => do let x ← ma ρ; let i ← intOf x; pure (some i)
theorem mo_none : PO X none (tMO X Wx mPn) := po_weak po_none fun σ H Q ⟨β, ρ, h, er, s, L⟩ => L.ret s rfl
theorem mo_some (ha : ME X Wx a ma) : PO X (some a) (tMO X Wx (mPs ma)) := po_weak (po_some ha) fun σ H Q ⟨β, ρ, h, er, s, L⟩ => one er s L fun β1 H1 h1 d1 x s1 r1 A1 L1 => by
  obtain ⟨i, e, L2⟩ := Lands.intB L1 r1
  exact ⟨i, e, L2.ret s1 rfl⟩
@[simp] def mSl (ma : Mv) (ml mh : Mo') : Mv := fun ρ => do let x ← ma ρ; let lo ← ml ρ; let hi ← mh ρ; slD x lo hi
theorem me_slice {lo hi : Option Expr} {ml mh : Mo'} (ha : ME X Wx a ma) (hl : PO X lo (tMO X Wx ml)) (hh : PO X hi (tMO X Wx mh)) : ME X Wx (.Subscript a (.Slice lo hi none p2) pos) (mSl ma ml mh) :=
  pe_weak (pe_frz (pe_slice (sl_str.or (sl_tupA.or sl_list)) ha hl hh)) fun σ H Q ⟨β, ρ, h, er, s, L⟩ => by
    refine one (f := fun x => do let lo ← ml ρ; let hi ← mh ρ; slD x lo hi) er s L fun β1 H1 h1 d1 x s1 r1 A1 L1 => ?_
    refine ⟨β1, ρ, h1, A1.er s er, s1, (Lands.bind (R' := fun _ _ _ (a b : Option Int) => a = b) L1).mono fun lo H2 ⟨β2, h2, lo', s2, r2, A2, L2⟩ => ?_⟩
    subst r2
    refine ⟨β2, ρ, h2, A2.er s1 (A1.er s er), s2, (Lands.bind (R' := fun _ _ _ (a b : Option Int) => a = b) L2).mono fun hi H3 ⟨β3, h3, hi', s3, r3, A3, L3⟩ => ?_⟩
    subst r3
    exact slM L3 s3 (A3.rel s2 (A2.rel s1 r1))
end
end Mir
end

section
set_option Elab.async false
set_option linter.all false
set_option maxRecDepth 100000
/-! Mir8: calls of built-ins by name: len, isinstance, all, any, list, tuple, int; texts' methods; lists' methods that change them. -/
namespace Mir
open PySem PySem.Spec
open PyProof.Rows L2

section
variable {X : Cx} {Wx : WX} {e e2 : Expr} {ma mb : Mv} {x : Str} {p pos apos : Pos}
/-- f(e), f a built-in -/
theorem me_cb1 {id : String} {r : List V → Hp → VK → Prop} {f : Dat → Mo Dat} (hc : CallR X (.builtin id) r) (hm : X.mg x = none) (hv : bootBuiltins x = some (.builtin id))
    (hf : ∀ β H h d v (Q : VK) E, Sim (wd X) β H h → Rel (wd X) β h.length H d v → Lands (wd X) (Rel (wd X)) β H h (f d h) Q E → r [v] H Q) (ha : ME X Wx e ma) (hg : Gl X x := by rfl) (hn : x ≠ "__name__" := by decide) (hdb : (x == ("__debug__" : Str)) = false := by decide)
    (he : starEach [e] X.env = (false, eval e X.env) :: starEach [] X.env := by rfl) : ME X Wx (.Call (.Name x p) [e] [] pos) (mUn f ma) :=
  pe_weak (pe_callB hc hg hm hv (pa_cons ha pa_nil he) hn hdb he rfl) fun σ H Q ⟨β, ρ, h, er, s, L⟩ => one (f := f) er s L fun β1 H1 h1 d1 v s1 r1 _ L1 => hf β1 H1 h1 d1 v Q _ s1 r1 L1
theorem me_ct1 {T : String} {r : List V → Hp → VK → Prop} {f : Dat → Mo Dat} (hc : CallR X (.type T) r) (hm : X.mg x = none) (hv : bootBuiltins x = some (.type T))
    (hf : ∀ β H h d v (Q : VK) E, Sim (wd X) β H h → Rel (wd X) β h.length H d v → Lands (wd X) (Rel (wd X)) β H h (f d h) Q E → r [v] H Q) (ha : ME X Wx e ma) (hg : Gl X x := by rfl) (hn : x ≠ "__name__" := by decide) (hdb : (x == ("__debug__" : Str)) = false := by decide)
    (he : starEach [e] X.env = (false, eval e X.env) :: starEach [] X.env := by rfl) : ME X Wx (.Call (.Name x p) [e] [] pos) (mUn f ma) :=
  pe_weak (pe_callTy hc hg hm hv (pa_cons ha pa_nil he) hn hdb he rfl) fun σ H Q ⟨β, ρ, h, er, s, L⟩ => one (f := f) er s L fun β1 H1 h1 d1 v s1 r1 _ L1 => hf β1 H1 h1 d1 v Q _ s1 r1 L1

/-! ### len -/
@[simp] def lenSq (d : Dat) : Mo Dat := do let xs ← seqOf d; pure (.int xs.length)
@[simp] def lenD (d : Dat) : Mo Dat := match d with
  | .str z => if z.length ≤ sizeLine then pure (.int z.length) else bad
  | _ => lenSq d
theorem me_len (hm : X.mg "len" = none) (ha : ME X Wx e ma) (hg : Gl X "len" := by rfl) (he : starEach [e] X.env = (false, eval e X.env) :: starEach [] X.env := by rfl) : ME X Wx (.Call (.Name "len" p) [e] [] pos) (mUn lenD ma) :=
  me_cb1 (call_len_seq.or call_len_str) hm PySem.boot_len (fun β H h d v Q E s r L => by
    have sq : Lands (wd X) (Rel (wd X)) β H h (lenSq d h) Q E → ∃ p ys, [v] = [V.ref p] ∧ (SqL X.K H p ys ∨ SqT X.K H p ys) ∧ Q (.int ys.length) H := fun L => by
      obtain ⟨a, vs, xs, e, k, rs, L1⟩ := Lands.seqB L s r
      exact ⟨a, vs, by rw [e], k, by rw [← rs.length]; exact L1.ret s mk_int⟩
    cases d with
    | str z =>
      obtain ⟨hz, L1⟩ := Lands.ifB L
      exact .inr ⟨z, by rw [rel_str r], hz, L1.ret s mk_int⟩
    | _ => exact .inl (sq L)) ha hg (by decide) (by decide) he

/-! ### all, any of a list of truth values -/
@[simp] def isBl : Dat → Option Bool
  | .bl b => some b
  | _ => none
theorem rels_bls {W : Wd} {β : Nat → Addr} {N : Nat} {H : Hp} : ∀ {xs : List Dat} {bs : List Bool} {vs : List V}, optAll isBl xs = some bs → Rels W β N H xs vs → vs = bs.map V.bl
  | [], bs, vs, e, r => by
    unfold optAll at e
    unfold Rels at r
    cases e
    exact r
  | x :: xs, bs, vs, e, r => by
    unfold optAll at e
    unfold Rels at r
    obtain ⟨v, r', rfl, h1, h2⟩ := r
    split at e
    · rename_i k0 ks0 e1 e2
      cases e
      cases x with
      | bl b =>
        have : k0 = b := by unfold isBl at e1; exact (Option.some.inj e1).symm
        rw [rels_bls e2 h2, rel_bl h1, this]
        rfl
      | _ => unfold isBl at e1; cases e1
    · cases e
def allD (d : Dat) : Mo Dat := do let xs ← listOf d; let bs ← optM (optAll isBl xs); pure (.bl (bs.all id))
def anyD (d : Dat) : Mo Dat := do let xs ← listOf d; let bs ← optM (optAll isBl xs); pure (.bl (bs.any id))
theorem me_all (hc : X.calm = true) (hm : X.mg "all" = none) (ha : ME X Wx e ma) (hg : Gl X "all" := by rfl) (he : starEach [e] X.env = (false, eval e X.env) :: starEach [] X.env := by rfl) : ME X Wx (.Call (.Name "all" p) [e] [] pos) (mUn allD ma) :=
  me_cb1 (cr_all hc) hm PyProof.Rows.boot_all (fun β H h d v Q E s r L => by
    obtain ⟨a, vs, xs, e, k, rs, L1⟩ := Lands.listB L s r
    obtain ⟨bs, eb, L2⟩ := Lands.optB L1
    exact ⟨a, bs, by rw [e], by rw [← rels_bls eb rs]; exact k, L2.ret s mk_bl⟩) ha hg (by decide) (by decide) he
theorem me_any (hc : X.calm = true) (hm : X.mg "any" = none) (ha : ME X Wx e ma) (hg : Gl X "any" := by rfl) (he : starEach [e] X.env = (false, eval e X.env) :: starEach [] X.env := by rfl) : ME X Wx (.Call (.Name "any" p) [e] [] pos) (mUn anyD ma) :=
  me_cb1 (cr_any hc) hm PyProof.Rows.boot_any (fun β H h d v Q E s r L => by
    obtain ⟨a, vs, xs, e, k, rs, L1⟩ := Lands.listB L s r
    obtain ⟨bs, eb, L2⟩ := Lands.optB L1
    exact ⟨a, bs, by rw [e], by rw [← rels_bls eb rs]; exact k, L2.ret s mk_bl⟩) ha hg (by decide) (by decide) he

/-! ### int(flag or number), tuple(list or tuple), list(list or tuple) -/
@[simp] def intD : Dat → Mo Dat
  | .int i => pure (.int i)
  | .bl b => pure (.int (if b then 1 else 0))
  | _ => bad
theorem me_intD (hm : X.mg "int" = none) (ha : ME X Wx e ma) (hg : Gl X "int" := by rfl) (he : starEach [e] X.env = (false, eval e X.env) :: starEach [] X.env := by rfl) : ME X Wx (.Call (.Name "int" p) [e] [] pos) (mUn intD ma) :=
  me_ct1 call_int1 hm PyProof.Rows.boot_int (fun β H h d v Q E s r L => by
    cases d with
    | int i => exact .inl ⟨i, by rw [rel_int r], L.ret s mk_int⟩
    | bl b => exact .inr ⟨b, by rw [rel_bl r], L.ret s mk_int⟩
    | _ => exact False.elim L) ha hg (by decide) (by decide) he
@[simp] def tupD (d : Dat) : Mo Dat := do let xs ← seqOf d; pure (.tup xs)
theorem me_tupD (hm : X.mg "tuple" = none) (ha : ME X Wx e ma) (hg : Gl X "tuple" := by rfl) (he : starEach [e] X.env = (false, eval e X.env) :: starEach [] X.env := by rfl) : ME X Wx (.Call (.Name "tuple" p) [e] [] pos) (mUn tupD ma) :=
  me_ct1 call_tuple_of hm PyProof.Rows.boot_tuple (fun β H h d v Q E s r L => by
    have ls : Lands (wd X) (Rel (wd X)) β H h ((do let xs ← listOf d; pure (Dat.tup xs)) h) Q E → ∃ p ys, [v] = [V.ref p] ∧ ((SqL X.K H p ys ∧ ∀ l, H l = none → Q (.ref l) (upd H l (.tup ys))) ∨ (SqT X.K H p ys ∧ Q (.ref p) H)) := fun L => by
      obtain ⟨a, vs, xs, e, k, rs, L1⟩ := Lands.listB L s r
      exact ⟨a, vs, by rw [e], .inl ⟨k, fun l hl => L1.tup s rs hl⟩⟩
    cases d with
    | tup xs =>
      obtain ⟨a, vs, e, k, rs⟩ := rel_tup r
      exact ⟨a, vs, by rw [e], .inr ⟨k.sq, L.ret s (e ▸ r)⟩⟩
    | _ => exact ls L) ha hg (by decide) (by decide) he
@[simp] def mListD (ma : Mv) : Ml := fun ρ => do let x ← ma ρ; seqOf x
theorem ml_listD (hm : X.mg "list" = none) (ha : ME X Wx e ma) (hg : Gl X "list" := by rfl) (he : starEach [e] X.env = (false, eval e X.env) :: starEach [] X.env := by rfl) : MLs X Wx (.Call (.Name "list" p) [e] [] pos) (mListD ma) :=
  pe_weak (pe_callTy call_list_of hg hm PyProof.Rows.boot_list (pa_cons ha pa_nil he) (by decide) (by decide) he rfl) fun σ H Q ⟨β, ρ, h, er, s, L⟩ => one (f := seqOf) er s L fun β1 H1 h1 d1 v s1 r1 _ L1 => by
    obtain ⟨a, vs, xs, e, k, rs, L2⟩ := Lands.seqB (f := pure) (by simpa only [bind_pure] using L1) s1 r1
    exact ⟨a, vs, by rw [e], k, fun l hl => L2.ret s1 rs l hl⟩

/-! ### isinstance of built-in types -/
/-- a value's built-in type -/
inductive TyD (W : Wd) (H : Hp) : V → String → Prop
  | non : TyD W H .non "NoneType"
  | bl (b : Bool) : TyD W H (.bl b) "bool"
  | int (i : Int) : TyD W H (.int i) "int"
  | str (x : Str) : TyD W H (.str x) "str"
  | lst {a : Addr} {xs : List V} (k : SqL W.K H a xs) : TyD W H (.ref a) "list"
  | tup {a : Addr} {xs : List V} (k : SqT W.K H a xs) : TyD W H (.ref a) "tuple"
  | dct {t : Bool} {a : Addr} {o ys} (k : Rd H a (dD W.P W.w t a o ys)) : TyD W H (.ref a) "dict"
theorem dD_obj {P : Program} {w : World} {t : Bool} {H : Hp} {h : Heap} {a : Addr} {o : Obj} {ys : List (NestedKey × V × V)} (k : ObjOk P w H h a (dD P w t a o ys)) : h.get? a = some o ∧ o.ExactDict := by
  obtain ⟨⟨e, _, _, ex, _⟩, _⟩ := k
  exact ⟨e, ex⟩
theorem kit_dat {X : Cx} {pins : List (Addr × Obj)} {σ : L2.St} {H : Hp} {s : Shared} {x : V} {u : Value} {T : String} (I : Inv X pins σ H s) (rx : RelV x u) (ty : TyD (wd X) H x T) :
    ∃ P : Heap → Prop, PySem.W.KitX X.K u (.type T) P ∧ P s.heap ∧ u ≠ .builtin "__main__.__loader__#opaque" := by
  cases ty with
  | non => cases (show u = Value.none from rx); exact ⟨_, PySem.W.kitx_none, True.intro, fun z => nomatch z⟩
  | bl y => cases (show u = Value.bool y from rx); exact ⟨_, PySem.W.kitx_bool, True.intro, fun z => nomatch z⟩
  | int i => obtain ⟨t, q⟩ := (show ∃ t, u = Value.int i t from rx); cases q; exact ⟨_, PySem.W.kitx_int, True.intro, fun z => nomatch z⟩
  | str y => obtain ⟨t, q⟩ := (show ∃ t, u = Value.str y t from rx); cases q; exact ⟨_, PySem.W.kitx_str, True.intro, fun z => nomatch z⟩
  | @lst a xs k =>
    cases (show u = Value.ref a from rx)
    obtain ⟨_, _, ⟨o, _, h1, h2, _⟩, _⟩ := I.list k
    exact ⟨_, PySem.W.kitx_list, ⟨o, h1, h2⟩, fun z => nomatch z⟩
  | @tup a xs k =>
    cases (show u = Value.ref a from rx)
    obtain ⟨_, _, ⟨o, h1, h2, _⟩, _⟩ := I.tuple k
    exact ⟨_, PySem.W.kitx_tuple, ⟨o, h1, h2⟩, fun z => nomatch z⟩
  | @dct t a o ys k =>
    cases (show u = Value.ref a from rx)
    obtain ⟨h1, h2⟩ := dD_obj (k.ok I.hok)
    exact ⟨_, PySem.W.kitx_dict, ⟨o, h1, h2.1⟩, fun z => nomatch z⟩
@[simp] def isA (a b : String) : Bool := a == b || (a == "bool" && b == "int")
def rIsD (W : Wd) (T : String) : List V → Hp → VK → Prop := fun xs H Q => ∃ x t, xs = [x, .ty T] ∧ TyD W H x t ∧ kitB t T = some (isA t T) ∧ Q (.bl (isA t T)) H
theorem call_isD {T : String} : CallR X (.builtin "isinstance") (rIsD (wd X) T) := by
  intro pins s σ H xs us Q I r h
  obtain ⟨x, t, rfl, ty, k, q⟩ := h
  obtain ⟨u1, u2, rfl, r1, r2⟩ := vals2 r
  cases (show u2 = Value.type T from r2)
  obtain ⟨P, Z, p, hx⟩ := kit_dat I r1 ty
  exact PySem.W.kia_one Z I.kIn p (kit_ty k) hx fun tk => ⟨.bl _, H, I.tok tk, rfl, q⟩
@[simp] def tyName : Dat → Mo String
  | .non => pure "NoneType"
  | .bl _ => pure "bool"
  | .int _ => pure "int"
  | .str _ => pure "str"
  | .tup _ => pure "tuple"
  | .lst _ => pure "list"
  | .dct _ _ _ => pure "dict"
  | .ref n => do let c ← cellOf n; match c with
    | .lst _ => pure "list"
    | .dct _ _ _ => pure "dict"
    | _ => bad
  | .exn _ => bad
def tyNames : List String := ["NoneType", "bool", "int", "str", "tuple", "list", "dict"]
theorem Lands.tyB {α τ : Type} {W : Wd} {R : (Nat → Addr) → Nat → Hp → α → τ → Prop} {β : Nat → Addr} {H : Hp} {h : Hm} {d : Dat} {v : V} {f : String → Mo α} {Q : τ → Hp → Prop} {E : Addr → Hp → Prop}
    (L : Lands W R β H h ((do let c ← tyName d; f c) h) Q E) (s : Sim W β H h) (r : Rel W β h.length H d v) : ∃ t, t ∈ tyNames ∧ TyD W H v t ∧ Lands W R β H h (f t h) Q E := by
  cases d with
  | non => rw [rel_non r]; exact ⟨_, by decide, .non, L⟩
  | bl b => rw [rel_bl r]; exact ⟨_, by decide, .bl b, L⟩
  | int b => rw [rel_int r]; exact ⟨_, by decide, .int b, L⟩
  | str b => rw [rel_str r]; exact ⟨_, by decide, .str b, L⟩
  | tup xs => obtain ⟨a, vs, rfl, k, rs⟩ := rel_tup r; exact ⟨_, by decide, .tup k.sq, L⟩
  | lst xs => unfold Rel at r; obtain ⟨a, vs, rfl, k, rs⟩ := r; exact ⟨_, by decide, .lst k.sq, L⟩
  | dct t ks xs => unfold Rel at r; obtain ⟨a, o, od, ns, kvs, vs, rfl, k, _⟩ := r; exact ⟨_, by decide, .dct (.inr ⟨o, k⟩), L⟩
  | ref n =>
    unfold Rel at r
    obtain ⟨_, rfl⟩ := r
    obtain ⟨c, e, hd, k, L1⟩ := Lands.cellB (f := fun c => (match c with | .lst _ => pure "list" | .dct _ _ _ => pure "dict" | _ => bad) >>= f) (by simpa only [tyName, bind_assoc] using L) s
    cases c with
    | lst xs => obtain ⟨vs, k, _⟩ := k; exact ⟨_, by decide, .lst (.inl (.inl k)), L1⟩
    | dct t v kvs => obtain ⟨o, ns, ks, vs, k, _⟩ := k; exact ⟨_, by decide, .dct (.inl k), L1⟩
    | _ => exact L1.elim
  | exn _ => exact L.elim
theorem kitB_ok {T : String} (hT : T ∈ ["bool", "int", "str", "tuple", "list", "dict"]) {t : String} (ht : t ∈ tyNames) : kitB t T = some (isA t T) := by
  have key : (["bool", "int", "str", "tuple", "list", "dict"].all fun T => tyNames.all fun t => decide (kitB t T = some (isA t T))) = true := by decide +kernel
  have h1 := List.all_eq_true.mp key T hT
  exact of_decide_eq_true (List.all_eq_true.mp h1 t ht)
@[simp] def isD (T : String) (d : Dat) : Mo Dat := do let t ← tyName d; pure (.bl (isA t T))
theorem pe_ty {x : Str} {T : String} {pos : Pos} (hm : X.mg x = none) (hv : bootBuiltins x = some (.type T)) (hg : Gl X x := by rfl) (hn : x ≠ "__name__" := by decide) (hd : (x == ("__debug__" : Str)) = false := by decide) : PE X (.Name x pos) (tC (.ty T)) :=
  pe_bltn hg hm hv rfl hn hd
theorem me_isD {y : Str} {T : String} {p2 : Pos} (hm : X.mg "isinstance" = none) (hy : X.mg y = none) (hv : bootBuiltins y = some (.type T)) (hT : T ∈ ["bool", "int", "str", "tuple", "list", "dict"]) (ha : ME X Wx e ma) (hg : Gl X "isinstance" := by rfl) (hgy : Gl X y := by rfl)
    (hn : y ≠ "__name__" := by decide) (hd : (y == ("__debug__" : Str)) = false := by decide) (he : starEach [e, .Name y p2] X.env = (false, eval e X.env) :: starEach [.Name y p2] X.env := by rfl) (hpl : (backTo pos (starEach [.Name y p2] X.env)).any (·.1) = false := by rfl) :
    ME X Wx (.Call (.Name "isinstance" p) [e, .Name y p2] [] pos) (mUn (isD T) ma) :=
  pe_weak (pe_callB call_isD hg hm PyProof.Rows.boot_isinstance (pa_cons ha (pa_cons (pe_ty hy hv hgy hn hd) pa_nil) he) (by decide) (by decide) he hpl) fun σ H Q ⟨β, ρ, h, er, s, L⟩ => one (f := isD T) er s L fun β1 H1 h1 d1 v s1 r1 _ L1 => by
    obtain ⟨t, ht, ty, L2⟩ := Lands.tyB L1 s1 r1
    exact ⟨v, t, rfl, ty, kitB_ok hT ht, L2.ret s1 mk_bl⟩
end
end Mir
end

section
set_option Elab.async false
set_option linter.all false
set_option maxRecDepth 100000
/-! Mir9: isinstance of two types; texts' methods; methods of lists. -/
namespace Mir
open PySem PySem.Spec
open PyProof.Rows L2

theorem rd_laid {H : Hp} {a p : Addr} {u o : HO} (hp : H p = none) (r : Rd H a u) : Rd (upd H p o) a u := by
  rcases r with r | ⟨q, r⟩
  · exact .inl (by rw [upd_ne (ne_of_none r hp)]; exact r)
  · exact .inr ⟨q, by rw [upd_ne (ne_of_none r hp)]; exact r⟩
theorem sqL_laid {K : PySem.W.Frag} {H : Hp} {a p : Addr} {xs : List V} {o : HO} (hp : H p = none) (r : SqL K H a xs) : SqL K (upd H p o) a xs := r.imp (rd_laid hp) id
theorem sqT_laid {K : PySem.W.Frag} {H : Hp} {a p : Addr} {xs : List V} {o : HO} (hp : H p = none) (r : SqT K H a xs) : SqT K (upd H p o) a xs := r.imp (rd_laid hp) id
theorem TyD.laid {W : Wd} {H : Hp} {p : Addr} {o : HO} {x : V} {t : String} (hp : H p = none) (r : TyD W H x t) : TyD W (upd H p o) x t := by
  cases r with
  | non => exact .non
  | bl b => exact .bl b
  | int b => exact .int b
  | str b => exact .str b
  | lst k => exact .lst (sqL_laid hp k)
  | tup k => exact .tup (sqT_laid hp k)
  | dct k => exact .dct (rd_laid hp k)
section
variable {X : Cx} {Wx : WX} {e e2 : Expr} {ma mb : Mv} {x : Str} {p pos apos : Pos}
def rIsD2 (W : Wd) (T1 T2 : String) : List V → Hp → VK → Prop := fun xs H Q => ∃ x tp t, xs = [x, .ref tp] ∧ H tp = some (.tup [.ty T1, .ty T2]) ∧ TyD W H x t ∧ kitB t T1 = some (isA t T1) ∧ kitB t T2 = some (isA t T2) ∧ Q (.bl (isA t T1 || isA t T2)) H
theorem call_isD2 {T1 T2 : String} : CallR X (.builtin "isinstance") (rIsD2 (wd X) T1 T2) := by
  intro pins s σ H xs us Q I r h
  obtain ⟨x, tp, t, rfl, hT, ty, k1, k2, q⟩ := h
  obtain ⟨u1, u2, rfl, r1, r2⟩ := vals2 r
  cases (show u2 = Value.ref tp from r2)
  obtain ⟨P, Z, pz, hx⟩ := kit_dat I r1 ty
  obtain ⟨_, its, rv, o, h1, h2, n, h3⟩ := (show ObjOk X.prog X.w H s.heap tp (.tup [.ty T1, .ty T2]) from I.hok tp _ hT)
  have e3 : its = [.type T1, .type T2] := by
    cases rv with
    | cons a b =>
      cases b with
      | cons c d =>
        cases d
        rw [show _ = Value.type T1 from a, show _ = Value.type T2 from c]
  subst e3
  obtain ⟨oc, od, dt, sl⟩ := o
  simp only at h2 h3
  subst h2 h3
  refine PySem.W.kia_tup (b := isA t T1 || isA t T2) Z I.kIn pz h1 ?_ hx fun tk => ⟨.bl _, H, I.tok tk, rfl, q⟩
  refine kitAny_cons (kit_ty k1) (fun e => ?_) fun e => by rw [e]; rfl
  rw [e, Bool.false_or]
  refine kitAny_cons (kit_ty k2) (fun e2 => ?_) fun e2 => e2
  rw [e2]
  rfl
@[simp] def isD2 (T1 T2 : String) (d : Dat) : Mo Dat := do let t ← tyName d; pure (.bl (isA t T1 || isA t T2))
theorem me_isD2 {y1 y2 : Str} {T1 T2 : String} {p2 p3 p4 : Pos} {kt} (hm : X.mg "isinstance" = none) (hy1 : X.mg y1 = none) (hv1 : bootBuiltins y1 = some (.type T1)) (hT1 : T1 ∈ ["bool", "int", "str", "tuple", "list", "dict"]) (hy2 : X.mg y2 = none) (hv2 : bootBuiltins y2 = some (.type T2)) (hT2 : T2 ∈ ["bool", "int", "str", "tuple", "list", "dict"])
    (ha : ME X Wx e ma) (hg : Gl X "isinstance" := by rfl) (hg1 : Gl X y1 := by rfl) (hg2 : Gl X y2 := by rfl)
    (hn1 : y1 ≠ "__name__" := by decide) (hd1 : (y1 == ("__debug__" : Str)) = false := by decide) (hn2 : y2 ≠ "__name__" := by decide) (hd2 : (y2 == ("__debug__" : Str)) = false := by decide)
    (hs1 : starEach [.Name y1 p2, .Name y2 p3] X.env = (false, eval (.Name y1 p2) X.env) :: starEach [.Name y2 p3] X.env := by rfl) (hs2 : starEach [.Name y2 p3] X.env = (false, eval (.Name y2 p3) X.env) :: starEach [] X.env := by rfl)
    (he : starEach [e, .Tuple [.Name y1 p2, .Name y2 p3] kt p4] X.env = (false, eval e X.env) :: starEach [.Tuple [.Name y1 p2, .Name y2 p3] kt p4] X.env := by rfl)
    (he2 : starEach [.Tuple [.Name y1 p2, .Name y2 p3] kt p4] X.env = (false, eval (.Tuple [.Name y1 p2, .Name y2 p3] kt p4) X.env) :: starEach [] X.env := by rfl)
    (hpl : (backTo pos (starEach [.Tuple [.Name y1 p2, .Name y2 p3] kt p4] X.env)).any (·.1) = false := by rfl) :
    ME X Wx (.Call (.Name "isinstance" p) [e, .Tuple [.Name y1 p2, .Name y2 p3] kt p4] [] pos) (mUn (isD2 T1 T2) ma) :=
  pe_weak (pe_callB call_isD2 hg hm PyProof.Rows.boot_isinstance (pa_cons ha (pa_cons (pe_tup (pa_cons (pe_ty hy1 hv1 hg1 hn1 hd1) (pa_cons (pe_ty hy2 hv2 hg2 hn2 hd2) pa_nil hs2) hs1)) pa_nil he2) he) (by decide) (by decide) he hpl)
    fun σ H Q ⟨β, ρ, h, er, s, L⟩ => one (f := isD2 T1 T2) er s L fun β1 H1 h1 d1 v s1 r1 _ L1 => by
    refine ⟨by show 2 ≤ sizeLine; rw [sizeLine_eq]; decide, fun tp hp => ?_⟩
    obtain ⟨t, ht, ty, L2⟩ := Lands.tyB L1 s1 r1
    have A := Aft.laid (o := .tup [.ty T1, .ty T2]) s1 hp
    exact ⟨v, tp, t, rfl, upd_same, ty.laid hp, kitB_ok hT1 ht, kitB_ok hT2 ht, (L2.after A).ret A.sim mk_bl⟩

/-! ### texts' methods -/
@[simp] def isStr : Dat → Option Str
  | .str y => some y
  | _ => none
theorem rels_strs {W : Wd} {β : Nat → Addr} {N : Nat} {H : Hp} : ∀ {xs : List Dat} {ys : List Str} {vs : List V}, optAll isStr xs = some ys → Rels W β N H xs vs → vs = ys.map V.str
  | [], ys, vs, e, r => by
    unfold optAll at e
    unfold Rels at r
    cases e
    exact r
  | x :: xs, ys, vs, e, r => by
    unfold optAll at e
    unfold Rels at r
    obtain ⟨v, r', rfl, h1, h2⟩ := r
    split at e
    · rename_i k0 ks0 e1 e2
      cases e
      cases x with
      | str b =>
        have : b = k0 := Option.some.inj e1
        rw [rels_strs e2 h2, rel_str h1, this]
        rfl
      | _ => cases e1
    · cases e
@[simp] def joinD (a : Str) (c : Dat) : Mo Dat := do let xs ← seqOf c; let ys ← optM (optAll isStr xs); if (ys.map (·.length)).sum + ys.length * a.length ≤ 16777216 then pure (.str (Txt.join a ys)) else bad
@[simp] def mJoin (ma mb : Mv) : Mv := fun ρ => do let x ← ma ρ; let a ← strOf x; let y ← mb ρ; joinD a y
theorem me_join {o : Expr} (ho : ME X Wx o ma) (ha : ME X Wx e mb) (hs : starEach [e] X.env = [(false, eval e X.env)] := by rfl) (hbase : attributeBase o "join" X.env (eval o X.env) = eval o X.env := by rfl) (hline : (apos.endLine == pos.line) = true := by rfl) :
    ME X Wx (.Call (.Attribute o "join" apos) [e] [] pos) (mJoin ma mb) :=
  pe_weak (pe_join ho ha hs hbase hline) fun σ H Q ⟨β, ρ, h, er, s, L⟩ => one (f := fun x => do let a ← strOf x; let y ← mb ρ; joinD a y) er s L fun β1 H1 h1 d1 x s1 r1 A1 L1 => by
    obtain ⟨a, ea, L1⟩ := Lands.strB L1 r1
    refine ⟨⟨a, ea⟩, one (f := fun y => joinD a y) (A1.er s er) s1 L1 fun β2 H2 h2 d2 y s2 r2 A2 L2 => ?_⟩
    obtain ⟨p, vs, xs, e, k, rs, L3⟩ := Lands.seqB L2 s2 r2
    obtain ⟨ys, ey, L4⟩ := Lands.optB L3
    obtain ⟨hz, L5⟩ := Lands.ifB L4
    exact ⟨a, p, ys, ea, by rw [e], by rw [← rels_strs ey rs]; exact k, hz, L5.ret s2 mk_str⟩
@[simp] def upD (x : Dat) : Mo Dat := do let a ← strOf x; if a.length ≤ 5592405 then pure (.str (Txt.upper a)) else bad
@[simp] def loD (x : Dat) : Mo Dat := do let a ← strOf x; if a.length ≤ 5592405 then pure (.str (Txt.lower a)) else bad
theorem me_upper {o : Expr} (ho : ME X Wx o ma) (hbase : attributeBase o "upper" X.env (eval o X.env) = eval o X.env := by rfl) (hline : (apos.endLine == pos.line) = true := by rfl) :
    ME X Wx (.Call (.Attribute o "upper" apos) [] [] pos) (mUn upD ma) :=
  pe_weak (pe_upper ho hbase hline) fun σ H Q ⟨β, ρ, h, er, s, L⟩ => one (f := upD) er s L fun β1 H1 h1 d1 x s1 r1 A1 L1 => by
    obtain ⟨a, ea, L1⟩ := Lands.strB L1 r1
    obtain ⟨hz, L1⟩ := Lands.ifB L1
    exact ⟨⟨a, ea⟩, a, ea, rfl, hz, L1.ret s1 mk_str⟩
theorem me_lower {o : Expr} (ho : ME X Wx o ma) (hbase : attributeBase o "lower" X.env (eval o X.env) = eval o X.env := by rfl) (hline : (apos.endLine == pos.line) = true := by rfl) :
    ME X Wx (.Call (.Attribute o "lower" apos) [] [] pos) (mUn loD ma) :=
  pe_weak (pe_lower ho hbase hline) fun σ H Q ⟨β, ρ, h, er, s, L⟩ => one (f := loD) er s L fun β1 H1 h1 d1 x s1 r1 A1 L1 => by
    obtain ⟨a, ea, L1⟩ := Lands.strB L1 r1
    obtain ⟨hz, L1⟩ := Lands.ifB L1
    exact ⟨⟨a, ea⟩, a, ea, rfl, hz, L1.ret s1 mk_str⟩

/-! ### methods of lists -/
/-- a list cell is written -/
theorem Lands.setL {α τ : Type} {W : Wd} {R : (Nat → Addr) → Nat → Hp → α → τ → Prop} {β : Nat → Addr} {H : Hp} {h : Hm} {n : Nat} {ys xs : List Dat} {vs : List V} {a : α} {Q : τ → Hp → Prop} {E : Addr → Hp → Prop}
    (L : Lands W R β H h (.val a (h.set n (.lst xs))) Q E) (s : Sim W β H h) (e : h[n]? = some (.lst ys)) (r : Rels W β h.length H xs vs) {v : τ} (ra : ∀ (N' : Nat) (H' : Hp), PExt H H' → h.length ≤ N' → R β N' H' a v) : Q v (upd H (β n) (.lst vs)) := by
  have A := Aft.write (o := .lst vs) (c' := .lst xs) s e (by simp) (fun _ _ _ z => nomatch z) fun u eu n1 n2 => by
    have pe : PExt H (upd H (β n) (.lst vs)) := ⟨fun a xs q => by rw [upd_ne (fun z => by rw [z, eu] at q; cases q; exact n1 _ rfl)]; exact q, fun a q' u' q => by rw [upd_ne (fun z => by rw [z, eu] at q; cases q; exact n2 _ _ rfl)]; exact q⟩
    exact ⟨vs, upd_same, Rels.mono pe (Nat.le_refl _) (fun _ _ => rfl) _ _ r⟩
  exact L β _ v A (ra _ _ (A.pext s) A.len)
/-- the cell of a reference to a list -/
def lref : Dat → Mo (Nat × List Dat)
  | .ref n => do let c ← cellOf n; let xs ← lstC c; pure (n, xs)
  | _ => bad
theorem Lands.lrefB {α τ : Type} {W : Wd} {R : (Nat → Addr) → Nat → Hp → α → τ → Prop} {β : Nat → Addr} {H : Hp} {h : Hm} {d : Dat} {v : V} {f : Nat × List Dat → Mo α} {Q : τ → Hp → Prop} {E : Addr → Hp → Prop}
    (L : Lands W R β H h ((do let c ← lref d; f c) h) Q E) (s : Sim W β H h) (r : Rel W β h.length H d v) : ∃ n xs vs, d = .ref n ∧ v = .ref (β n) ∧ h[n]? = some (.lst xs) ∧ H (β n) = some (.lst vs) ∧ Rels W β h.length H xs vs ∧ Lands W R β H h (f (n, xs) h) Q E := by
  cases d with
  | ref n =>
    have L' : Lands W R β H h ((do let c ← cellOf n; let xs ← lstC c; f (n, xs)) h) Q E := by simpa only [lref, bind_assoc, pure_bind] using L
    obtain ⟨c, e, hd, k, L1⟩ := Lands.cellB L' s
    cases c with
    | lst xs =>
      obtain ⟨vs, k, rs⟩ := k
      unfold Rel at r
      exact ⟨n, xs, vs, rfl, r.2, e, k, rs, L1⟩
    | _ => exact False.elim L1
  | _ => exact False.elim L
def setC (n : Nat) (c : Cell) : Mo Dat := fun h => .val .non (h.set n c)
@[simp] def mLm (f : Dat → Dat → Mo Dat) (ma mb : Mv) : Mv := fun ρ => do let x ← ma ρ; let _ ← listOf x; let y ← mb ρ; f x y
/-- o.m(e), m a built-in's method that changes a list -/
theorem me_lm1 {o : Expr} {name : Str} {id : String} {r : V → List V → Hp → VK → Prop} {f : Dat → Dat → Mo Dat} (slot : Slot "list" name id) (ty : typeOf (.builtin id) = pure (.type "method_descriptor")) (hr : MtR X id r)
    (hf : ∀ β H h d1 d2 x y (Q : VK) E, Sim (wd X) β H h → Rel (wd X) β h.length H d1 x → Rel (wd X) β h.length H d2 y → Lands (wd X) (Rel (wd X)) β H h (f d1 d2 h) Q E → r x [y] H Q)
    (ho : ME X Wx o ma) (ha : ME X Wx e mb)
    (hbase : attributeBase o name X.env (eval o X.env) = eval o X.env := by rfl)
    (hfew : ((backTo pos (starEach [e] X.env)).all (fun x => !x.1) && (backToKw pos (keywordEach [] X.env)).all (fun x => x.1.isSome) && decide ([e].length + ([] : List Keyword).length + (if ([] : List Keyword).isEmpty then 0 else 1) < 30)) = true := by rfl)
    (hline : (apos.endLine == pos.line) = true := by rfl) (hs : starEach [e] X.env = (false, eval e X.env) :: starEach [] X.env := by rfl) (hplain : (backTo pos (starEach [] X.env)).any (·.1) = false := by rfl) :
    ME X Wx (.Call (.Attribute o name apos) [e] [] pos) (mLm f ma mb) :=
  pe_weak (pe_bm PySem.F.plainAttrs_list slot ty hr ho (pa_cons ha pa_nil hs) hbase hfew hline hs hplain) fun σ H Q ⟨β, ρ, h, er, s, L⟩ =>
    one (f := fun x => do let _ ← listOf x; let y ← mb ρ; f x y) er s L fun β1 H1 h1 d1 x s1 r1 A1 L1 => by
    obtain ⟨a, vs, xs, e, k, rs, L2⟩ := Lands.listB L1 s1 r1
    refine ⟨?_, one (f := fun y => f d1 y) (A1.er s er) s1 L2 fun β2 H2 h2 d2 y s2 r2 A2 L3 => hf β2 H2 h2 d1 d2 x y Q _ s2 (A2.rel s1 r1) r2 L3⟩
    subst e
    exact .inl ⟨rfl, vs, k⟩

def lAppend (x y : Dat) : Mo Dat := do let c ← lref x; if c.2.length < sizeLine then setC c.1 (.lst (c.2 ++ [y])) else bad
theorem mk_lst1 {W : Wd} {β : Nat → Addr} {N : Nat} {H : Hp} {d : Dat} {v : V} (r : Rel W β N H d v) : Rels W β N H [d] [v] := by
  unfold Rels
  exact ⟨v, [], rfl, r, by unfold Rels; rfl⟩
theorem me_append {o : Expr} (ho : ME X Wx o ma) (ha : ME X Wx e mb)
    (hbase : attributeBase o "append" X.env (eval o X.env) = eval o X.env := by rfl)
    (hfew : ((backTo pos (starEach [e] X.env)).all (fun x => !x.1) && (backToKw pos (keywordEach [] X.env)).all (fun x => x.1.isSome) && decide ([e].length + ([] : List Keyword).length + (if ([] : List Keyword).isEmpty then 0 else 1) < 30)) = true := by rfl)
    (hline : (apos.endLine == pos.line) = true := by rfl) (hs : starEach [e] X.env = (false, eval e X.env) :: starEach [] X.env := by rfl) (hplain : (backTo pos (starEach [] X.env)).any (·.1) = false := by rfl) :
    ME X Wx (.Call (.Attribute o "append" apos) [e] [] pos) (mLm lAppend ma mb) :=
  me_lm1 PySem.F.slot_list_append PySem.F.type_list_append mt_append (fun β H h d1 d2 x y Q E s r1 r2 L => by
    obtain ⟨n, xs, vs, rfl, rfl, e, k, rs, L1⟩ := Lands.lrefB L s r1
    obtain ⟨hz, L2⟩ := Lands.ifB L1
    exact ⟨β n, vs, y, rfl, rfl, k, by rw [← rs.length]; exact hz, L2.setL s e (rs.append (mk_lst1 r2)) fun _ _ _ _ => mk_non⟩) ho ha hbase hfew hline hs hplain
theorem list_extend_any (l : Addr) (items : Array Value) (n : Nat) (b : Addr) (items2 : Array Value) (n2 : Nat) (sl2 : Array (Option Value)) (hc0 : ¬(!items.isEmpty && Builtin.List.listTooLong (items.size + items2.size)) = true) (hc1 : items.size ≤ sizeLine) (hs2 : items.size + items2.size ≤ sizeLine + 1) :
    Meets (Builtin.«list.extend» ⟨[.ref l, .ref b], []⟩) (fun _ R s => s.heap.get? l = some { cls := .type "list", dict := none, data := .seq items n, slots := #[] } ∧ s.heap.get? b = some { cls := .type "list", dict := none, data := .seq items2 n2, slots := sl2 } ∧ R (.ok (.ret Value.none)) { s with heap := s.heap.update l (Obj.mapSeq fun x => x ++ items2), toks := s.toks }) :=
  .of_wp fun prog w A R s h => by
    obtain ⟨hp, g, d, tk, os⟩ := s
    obtain ⟨hl, hb, h⟩ := h
    have f1 := AutoSeq1.idx_int; have f2 := AutoSeq1.sub_tuple_tuple; have f3 := AutoSeq1.sub_list_list; have f4 := AutoSeq1.sub_tuple_list; have f5 := AutoSeq1.sub_list_tuple
    have hz2 : (items ++ items2).size ≤ sizeLine + 1 := by rw [Array.size_append]; exact hs2
    wp_walk using (wpAny_updateSeq hl rfl (hz := hc1) (_hz' := hz2)), AutoSeq1.wpAny_loadPart' hl, AutoSeq1.wpAny_loadPart' hb
    exact ⟨_, rfl, h⟩
def rExtL (K : PySem.W.Frag) : V → List V → Hp → VK → Prop := fun x vs H Q => ∃ l b xs zs, x = .ref l ∧ vs = [.ref b] ∧ H l = some (.lst xs) ∧ SqL K H b zs ∧ xs.length + zs.length ≤ sizeLine ∧ Q .non (upd H l (.lst (xs ++ zs)))
theorem mt_extL : MtR X "list.extend" (rExtL X.K) := by
  intro pins s σ H x vs v us Q I rx rv h
  obtain ⟨l, b, xs, zs, rfl, rfl, hH, hB, hz, q⟩ := h
  cases rx
  obtain ⟨u, rfl, ru⟩ := rv.one
  cases ru
  obtain ⟨z, its, n, r, hl, e⟩ := I.lstM hH
  obtain ⟨its2, r2, p2, _⟩ := I.list hB
  obtain ⟨n2, sl2, e2⟩ := plain_any p2
  have hl2 := r2.length
  have hsz : its.toArray.size + its2.toArray.size ≤ sizeLine := by rw [List.size_toArray, List.size_toArray]; omega
  have hlong : ¬ (!its.toArray.isEmpty && Builtin.List.listTooLong (its.toArray.size + its2.toArray.size)) = true := by
    rw [notLongL hsz, Bool.and_false]; exact Bool.false_ne_true
  refine call_meets F.slot_list_extend ⟨_, e, rfl⟩ F.entry_list_extend (F.args_list_extend_2 _ _) (list_extend_any l its.toArray n b its2.toArray n2 sl2 hlong (by rw [List.size_toArray]; omega) (by omega)) ⟨e, e2, ?_⟩
  refine ⟨.non, _, I.lset (its' := its ++ its2) hH e (by simp) (r.append r2) ?_, rfl, q⟩
  rw [List.length_append]
  omega
def lExtend (x y : Dat) : Mo Dat := do let c ← lref x; let ys ← listOf y; if c.2.length + ys.length ≤ sizeLine then setC c.1 (.lst (c.2 ++ ys)) else bad
theorem me_extend {o : Expr} (ho : ME X Wx o ma) (ha : ME X Wx e mb)
    (hbase : attributeBase o "extend" X.env (eval o X.env) = eval o X.env := by rfl)
    (hfew : ((backTo pos (starEach [e] X.env)).all (fun x => !x.1) && (backToKw pos (keywordEach [] X.env)).all (fun x => x.1.isSome) && decide ([e].length + ([] : List Keyword).length + (if ([] : List Keyword).isEmpty then 0 else 1) < 30)) = true := by rfl)
    (hline : (apos.endLine == pos.line) = true := by rfl) (hs : starEach [e] X.env = (false, eval e X.env) :: starEach [] X.env := by rfl) (hplain : (backTo pos (starEach [] X.env)).any (·.1) = false := by rfl) :
    ME X Wx (.Call (.Attribute o "extend" apos) [e] [] pos) (mLm lExtend ma mb) :=
  me_lm1 PySem.F.slot_list_extend PySem.F.type_list_extend mt_extL (fun β H h d1 d2 x y Q E s r1 r2 L => by
    obtain ⟨n, xs, vs, rfl, rfl, e, k, rs, L1⟩ := Lands.lrefB L s r1
    obtain ⟨b, ws, ys, rfl, k2, rs2, L2⟩ := Lands.listB L1 s r2
    obtain ⟨hz, L3⟩ := Lands.ifB L2
    exact ⟨β n, b, vs, ws, rfl, rfl, k, k2, by rw [← rs.length, ← rs2.length]; exact hz, L3.setL s e (rs.append rs2) fun _ _ _ _ => mk_non⟩) ho ha hbase hfew hline hs hplain
end
end Mir
end

section
set_option Elab.async false
set_option linter.all false
set_option maxRecDepth 100000
/-! Mir10: statements: stores, if, return, raise, for, while; comprehensions. -/
namespace Mir
open PySem PySem.Spec
open PyProof.Rows L2

inductive Fl where
  | nx (ρ : Env') | rt (d : Dat) | bk (ρ : Env') | ct (ρ : Env')
abbrev Ms := Env' → Mo Fl
inductive FlV where
  | nx (σ : L2.St) | rt (v : V) | bk (σ : L2.St) | ct (σ : L2.St)
def RFl (W : Wd) (l : Nat) (β : Nat → Addr) (N : Nat) (H : Hp) : Fl → FlV → Prop
  | .nx ρ, .nx σ => ER W l β N H ρ σ
  | .bk ρ, .bk σ => ER W l β N H ρ σ
  | .ct ρ, .ct σ => ER W l β N H ρ σ
  | .rt d, .rt v => Rel W β N H d v
  | _, _ => False
def dQ (D : Ends) : FlV → Hp → Prop
  | .nx σ, H => D.nx σ H
  | .bk σ, H => D.bk σ H
  | .ct σ, H => D.ct σ H
  | .rt v, H => D.rt v H
def exS (Wx : WX) (l : Nat) : Addr → Hp → Prop := fun C H' => ∀ σ', σ'.length = l → Wx (.ref C) none σ' H'
abbrev LandsS (X : Cx) (Wx : WX) (D : Ends) (β : Nat → Addr) (H : Hp) (h : Hm) (r : Res Fl) : Prop := Lands (wd X) (RFl (wd X) X.N.length) β H h r (dQ D) (exS Wx X.N.length)
def tMS (X : Cx) (Wx : WX) (m : Ms) : TS := fun D σ H => ∃ β ρ h, ER (wd X) X.N.length β h.length H ρ σ ∧ Sim (wd X) β H h ∧ LandsS X Wx D β H h (m ρ h)
abbrev MS (X : Cx) (Wx : WX) (st : Stmt) (m : Ms) : Prop := PS X st (tMS X Wx m)
abbrev MSs (X : Cx) (Wx : WX) (st : List Stmt) (m : Ms) : Prop := PSs X st (tMS X Wx m)

theorem Lands.monoE {α τ : Type} {W : Wd} {R : (Nat → Addr) → Nat → Hp → α → τ → Prop} {β : Nat → Addr} {H : Hp} {h : Hm} {r : Res α} {Q : τ → Hp → Prop} {E E' : Addr → Hp → Prop} (L : Lands W R β H h r Q E) (e : ∀ C H', E C H' → E' C H') : Lands W R β H h r Q E' := by
  cases r with
  | bad => exact L
  | val a h' => exact L
  | exc c h' => exact fun β' H' C A k => e _ _ (L β' H' C A k)

section
variable {X : Cx} {Wx : WX} {D : Ends} {e e2 : Expr} {ma mb : Mv} {σ : L2.St} {H : Hp} {β : Nat → Addr} {ρ : Env'} {h : Hm}
/-- an expression ahead of what a statement does -/
theorem oneS {f : Dat → Mo Fl} {P : V → Hp → Prop} (er : ER (wd X) X.N.length β h.length H ρ σ) (s : Sim (wd X) β H h) (L : LandsS X Wx D β H h ((do let x ← ma ρ; f x) h))
    (k : ∀ β1 H1 h1 d1 x, Sim (wd X) β1 H1 h1 → Rel (wd X) β1 h1.length H1 d1 x → Aft (wd X) β H h β1 H1 h1 → LandsS X Wx D β1 H1 h1 (f d1 h1) → P x H1) : tM X Wx ma σ H P :=
  ⟨β, ρ, h, er, s, ((Lands.bind (R' := Rel (wd X)) L).mono fun x H1 ⟨β1, h1, d1, s1, r1, A1, L1⟩ => k β1 H1 h1 d1 x s1 r1 A1 L1).monoE fun C H' q => q σ er.1.2⟩
theorem oneBS {m : Mb} {f : Bool → Mo Fl} {P : Bool → Hp → Prop} (er : ER (wd X) X.N.length β h.length H ρ σ) (s : Sim (wd X) β H h) (L : LandsS X Wx D β H h ((do let x ← m ρ; f x) h))
    (k : ∀ β1 H1 h1 b, Sim (wd X) β1 H1 h1 → ER (wd X) X.N.length β1 h1.length H1 ρ σ → LandsS X Wx D β1 H1 h1 (f b h1) → P b H1) : tMT X Wx m σ H P :=
  ⟨β, ρ, h, er, s, ((Lands.bind (R' := EqB) L).mono fun x H1 ⟨β1, h1, d1, s1, r1, A1, L1⟩ => by
    cases r1
    exact k β1 H1 h1 x s1 (A1.er s er) L1).monoE fun C H' q => q σ er.1.2⟩
/-- the end: what follows -/
theorem Lands.nx {ρ' : Env'} {σ' : L2.St} (L : LandsS X Wx D β H h (.val (.nx ρ') h)) (s : Sim (wd X) β H h) (er : ER (wd X) X.N.length β h.length H ρ' σ') : D.nx σ' H := Lands.ret (v := FlV.nx σ') L s er
theorem Lands.rt {d : Dat} {v : V} (L : LandsS X Wx D β H h (.val (.rt d) h)) (s : Sim (wd X) β H h) (r : Rel (wd X) β h.length H d v) : D.rt v H := Lands.ret (v := FlV.rt v) L s r

/-! ### blocks -/
@[simp] def mSeq (m1 m2 : Ms) : Ms := fun ρ => do
  let f ← m1 ρ
  match f with
  | .nx ρ' => m2 ρ'
  | f => pure f
@[simp] def mNext : Ms := fun ρ => pure (.nx ρ)
theorem seq_core {m1 m2 : Ms} {D : Ends} {σ : L2.St} {H : Hp} (q : tMS X Wx (mSeq m1 m2) D σ H) : tSeq (tMS X Wx m1) (tMS X Wx m2) D σ H := by
  obtain ⟨β, ρ, h, er, s, L⟩ := q
  refine ⟨β, ρ, h, er, s, (Lands.bind (R' := RFl (wd X) X.N.length) (f := fun f => match f with | .nx ρ' => m2 ρ' | f => pure f) L).mono fun x H1 ⟨β1, h1, f1, s1, r1, A1, L1⟩ => ?_⟩
  cases f1 with
  | nx ρ1 => cases x with
    | nx σ1 => exact ⟨β1, ρ1, h1, r1, s1, L1⟩
    | _ => exact r1.elim
  | rt d => cases x with
    | rt v => exact Lands.rt (D := D) L1 s1 r1
    | _ => exact r1.elim
  | bk ρ1 => cases x with
    | bk σ1 => show dQ D (.bk σ1) H1; exact Lands.ret (v := FlV.bk σ1) L1 s1 r1
    | _ => exact r1.elim
  | ct ρ1 => cases x with
    | ct σ1 => show dQ D (.ct σ1) H1; exact Lands.ret (v := FlV.ct σ1) L1 s1 r1
    | _ => exact r1.elim
theorem mss_nil : MSs X Wx [] mNext := pss_weak pss_nil fun D σ H ⟨β, ρ, h, er, s, L⟩ => Lands.nx L s er
theorem mss_cons {st : Stmt} {rest : List Stmt} {m1 m2 : Ms} (h1 : MS X Wx st m1) (h2 : MSs X Wx rest m2) : MSs X Wx (st :: rest) (mSeq m1 m2) := pss_weak (pss_cons h1 h2) fun D σ H q => seq_core q
theorem mss_one {st : Stmt} {m1 : Ms} (h1 : MS X Wx st m1) : MSs X Wx [st] m1 := pss_one h1
theorem ms_pass {pos : Pos} : MS X Wx (.Pass pos) mNext := ps_weak ps_pass fun D σ H ⟨β, ρ, h, er, s, L⟩ => Lands.nx L s er

/-! ### small statements -/
@[simp] def mSet (i : Nat) (ma : Mv) : Ms := fun ρ => do let x ← ma ρ; pure (.nx (ρ.set i (some x)))
theorem ms_set {i : Nat} {x : Str} {pos pos' : Pos} (hN : X.N.Nodup) (ha : ME X Wx e ma) (hi : X.N[i]? = some x := by rfl) (hx : Loc X.env.scope x := by first | exact Or.inl rfl | exact Or.inr rfl) (hs : swapsWith e (some (.Name x pos')) pos.line X.env = pure false := by rfl)
    (hf : X.fn x = true ∨ X.env.scope.names.lookup x = some .local := by first | exact .inl rfl | exact .inr rfl) : MS X Wx (.Assign [.Name x pos'] e pos) (mSet i ma) :=
  ps_weak (ps_set hN hi hx ha hs hf) fun D σ H ⟨β, ρ, h, er, s, L⟩ => oneS (f := fun x => pure (.nx (ρ.set i (some x)))) er s L fun β1 H1 h1 d1 x s1 r1 A1 L1 => Lands.nx L1 s1 ((A1.er s er).set r1)
@[simp] def mDrop (ma : Mv) : Ms := fun ρ => do let _ ← ma ρ; pure (.nx ρ)
theorem ms_expr {pos : Pos} (ha : ME X Wx e ma) (hs : swapsWith e none pos.line X.env = pure false := by rfl) : MS X Wx (.Expr e pos) (mDrop ma) :=
  ps_weak (ps_expr ha hs) fun D σ H ⟨β, ρ, h, er, s, L⟩ => oneS (f := fun _ => pure (.nx ρ)) er s L fun β1 H1 h1 d1 x s1 r1 A1 L1 => Lands.nx L1 s1 (A1.er s er)
@[simp] def mRet (ma : Mv) : Ms := fun ρ => do let x ← ma ρ; pure (.rt x)
theorem ms_ret {pos : Pos} (ha : ME X Wx e ma) : MS X Wx (.Return (some e) pos) (mRet ma) :=
  ps_weak (ps_ret ha) fun D σ H ⟨β, ρ, h, er, s, L⟩ => oneS (f := fun x => pure (.rt x)) er s L fun β1 H1 h1 d1 x s1 r1 A1 L1 => Lands.rt L1 s1 r1
@[simp] def mIfS (c : Mb) (m1 m2 : Ms) : Ms := fun ρ => do let b ← c ρ; if b then m1 ρ else m2 ρ
theorem ms_if {c : Expr} {a b : List Stmt} {mc : Mb} {m1 m2 : Ms} {pos : Pos} (hc : MT X Wx c mc) (ha : MSs X Wx a m1) (hb : MSs X Wx b m2) : MS X Wx (.If c a b pos) (mIfS mc m1 m2) :=
  ps_weak (ps_if hc ha hb) fun D σ H ⟨β, ρ, h, er, s, L⟩ => oneBS (f := fun b => if b then m1 ρ else m2 ρ) er s L fun β1 H1 h1 b s1 er1 L1 => by
    cases b with
    | true => exact iteT ⟨β1, ρ, h1, er1, s1, L1⟩
    | false => exact iteF ⟨β1, ρ, h1, er1, s1, L1⟩
/-- raise C('..'), C an own class without an own __init__ -/
@[simp] def mRaise (c : Str) : Ms := fun _ h => .exc c h
theorem ms_raise {pos : Pos} {c : Str} {C : Addr} (hc : X.calm = true) (tk : Takes X Wx) (he : PMk X e fun _ H Q => Q (.ref C) none H) (gC : X.mg c = some (.ref C)) : MS X Wx (.Raise (some e) none pos) (mRaise c) :=
  ps_weak (ps_raise hc tk he) fun D σ H ⟨β, ρ, h, er, s, L⟩ => L β H C (Aft.refl s) gC σ er.1.2

/-! ### targets -/
@[simp] def bName (i : Nat) : Dat → Env' → Option Env' := fun d ρ => some (ρ.set i (some d))
@[simp] def bNames : List Nat → List Dat → Env' → Option Env'
  | [], [], ρ => some ρ
  | i :: is, d :: ds, ρ => bNames is ds (ρ.set i (some d))
  | _, _, _ => none
@[simp] def bTup (is : List Nat) : Dat → Env' → Option Env'
  | .tup ds, ρ => bNames is ds ρ
  | _, _ => none
/-- what a target asks -/
def tMG (X : Cx) (is : List Nat) (b : Dat → Env' → Option Env') : TG := fun v σ H Q => ∃ β ρ h d ρ', ER (wd X) X.N.length β h.length H ρ σ ∧ Sim (wd X) β H h ∧ Rel (wd X) β h.length H d v ∧ b d ρ = some ρ' ∧
  ∀ σ' , ER (wd X) X.N.length β h.length H ρ' σ' → (∀ vs : List Nat, (∀ i ∈ is, i ∈ vs) → wipe σ' vs = wipe σ vs) → Q σ' H
abbrev MG (X : Cx) (t : Expr) (is : List Nat) (b : Dat → Env' → Option Env') : Prop := PG X t (tMG X is b)
theorem wipe_set {σ : L2.St} {i : Nat} {v : Option V} : ∀ {vs : List Nat}, i ∈ vs → wipe (σ.set i v) vs = wipe σ vs
  | [], h => absurd h (by simp)
  | w :: vs, h => by
    show (wipe (σ.set i v) vs).set w none = (wipe σ vs).set w none
    by_cases z : i ∈ vs
    · rw [wipe_set z]
    · have e : i = w := by
        rcases List.mem_cons.mp h with h | h
        · exact h
        · exact absurd h z
      subst e
      have key : ∀ us : List Nat, i ∉ us → wipe (σ.set i v) us = (wipe σ us).set i v := fun us => by
        induction us with
        | nil => intro _; rfl
        | cons u us ih =>
          intro hn
          have h1 : i ≠ u := fun e => hn (by rw [e]; simp)
          have h2 : i ∉ us := fun e => hn (List.mem_cons_of_mem _ e)
          show (wipe (σ.set i v) us).set u none = ((wipe σ us).set u none).set i v
          rw [ih h2, List.set_comm _ _ h1]
      rw [key vs z, List.set_set]
theorem pg_weak {tg : Expr} {t t' : TG} (h : PG X tg t) (w : ∀ v σ H Q, t' v σ H Q → t v σ H Q) : PG X tg t' := ⟨fun pins s σ H v u Q I r q => h.run pins s σ H v u Q I r (w v σ H Q q)⟩
theorem mg_name {i : Nat} {x : Str} {pos : Pos} (hN : X.N.Nodup) (hi : X.N[i]? = some x := by rfl) (hx : Loc X.env.scope x := by first | exact Or.inl rfl | exact Or.inr rfl) (hf : X.fn x = true ∨ X.env.scope.names.lookup x = some .local := by first | exact .inl rfl | exact .inr rfl) : MG X (.Name x pos) [i] (bName i) :=
  pg_weak (pg_name hN hi hx hf) fun v σ H Q ⟨β, ρ, h, d, ρ', er, s, r, e, k⟩ => by
    cases e
    exact k _ (er.set r) fun vs hv => wipe_set (hv i (by simp))
theorem mg_tup2 {i j : Nat} {x y : Str} {p1 p2 pos : Pos} {kt : Nat} (hc : X.calm = true) (hN : X.N.Nodup) (hi : X.N[i]? = some x := by rfl) (hj : X.N[j]? = some y := by rfl) (hx : Loc X.env.scope x := by first | exact Or.inl rfl | exact Or.inr rfl) (hy : Loc X.env.scope y := by first | exact Or.inl rfl | exact Or.inr rfl)
    (hf : X.fn x = true ∨ X.env.scope.names.lookup x = some .local := by first | exact .inl rfl | exact .inr rfl) (hg : X.fn y = true ∨ X.env.scope.names.lookup y = some .local := by first | exact .inl rfl | exact .inr rfl) :
    MG X (.Tuple [.Name x p1, .Name y p2] kt pos) [i, j] (bTup [i, j]) :=
  pg_weak (pg_tup hc (pgs_cons (pg_name hN hi hx hf) (pgs_cons (pg_name hN hj hy hg) pgs_nil))) fun v σ H Q ⟨β, ρ, h, d, ρ', er, s, r, e, k⟩ => by
    cases d with
    | tup ds =>
      obtain ⟨a, vs, rfl, kt, rs⟩ := rel_tup r
      match ds, rs, e with
      | [d1, d2], rs, e =>
        unfold Rels at rs
        obtain ⟨v1, r1, rfl, q1, rs⟩ := rs
        unfold Rels at rs
        obtain ⟨v2, r2, rfl, q2, rs⟩ := rs
        unfold Rels at rs
        subst rs
        cases e
        exact ⟨a, _, rfl, kt.sq, rfl, v1, _, rfl, v2, _, rfl, rfl, k _ ((er.set q1).set q2) fun vs hv => by rw [wipe_set (hv j (by simp)), wipe_set (hv i (by simp))]⟩
      | [], rs, e => cases e
      | [_], rs, e => cases e
      | _ :: _ :: _ :: _, rs, e => cases e
    | _ => cases e
theorem mg_tup3 {i j l : Nat} {x y z : Str} {p1 p2 p3 pos : Pos} {kt : Nat} (hc : X.calm = true) (hN : X.N.Nodup) (hi : X.N[i]? = some x := by rfl) (hj : X.N[j]? = some y := by rfl) (hl : X.N[l]? = some z := by rfl) (hx : Loc X.env.scope x := by first | exact Or.inl rfl | exact Or.inr rfl) (hy : Loc X.env.scope y := by first | exact Or.inl rfl | exact Or.inr rfl) (hz : Loc X.env.scope z := by first | exact Or.inl rfl | exact Or.inr rfl)
    (hf : X.fn x = true ∨ X.env.scope.names.lookup x = some .local := by first | exact .inl rfl | exact .inr rfl) (hg : X.fn y = true ∨ X.env.scope.names.lookup y = some .local := by first | exact .inl rfl | exact .inr rfl) (hh : X.fn z = true ∨ X.env.scope.names.lookup z = some .local := by first | exact .inl rfl | exact .inr rfl) :
    MG X (.Tuple [.Name x p1, .Name y p2, .Name z p3] kt pos) [i, j, l] (bTup [i, j, l]) :=
  pg_weak (pg_tup hc (pgs_cons (pg_name hN hi hx hf) (pgs_cons (pg_name hN hj hy hg) (pgs_cons (pg_name hN hl hz hh) pgs_nil)))) fun v σ H Q ⟨β, ρ, h, d, ρ', er, s, r, e, k⟩ => by
    cases d with
    | tup ds =>
      obtain ⟨a, vs, rfl, kt, rs⟩ := rel_tup r
      match ds, rs, e with
      | [d1, d2, d3], rs, e =>
        unfold Rels at rs
        obtain ⟨v1, r1, rfl, q1, rs⟩ := rs
        unfold Rels at rs
        obtain ⟨v2, r2, rfl, q2, rs⟩ := rs
        unfold Rels at rs
        obtain ⟨v3, r3, rfl, q3, rs⟩ := rs
        unfold Rels at rs
        subst rs
        cases e
        exact ⟨a, _, rfl, kt.sq, rfl, v1, _, rfl, v2, _, rfl, v3, _, rfl, rfl, k _ (((er.set q1).set q2).set q3) fun vs hv => by rw [wipe_set (hv l (by simp)), wipe_set (hv j (by simp)), wipe_set (hv i (by simp))]⟩
      | [], rs, e => cases e
      | [_], rs, e => cases e
      | [_, _], rs, e => cases e
      | _ :: _ :: _ :: _ :: _, rs, e => cases e
    | _ => cases e
/-- target = e, a tuple's items to names -/
@[simp] def mAsg (b : Dat → Env' → Option Env') (ma : Mv) : Ms := fun ρ => do let x ← ma ρ; let ρ' ← optM (b x ρ); pure (.nx ρ')
theorem ms_asg {tg : Expr} {is : List Nat} {b : Dat → Env' → Option Env'} {pos : Pos} (ha : ME X Wx e ma) (hg : MG X tg is b) (hs : swapsWithSole [tg] e pos.line X.env = pure false := by rfl) (hw : swappedStores [tg] e X.env = pure none := by rfl) (h1 : (assignEach [tg] X.env).map (·.2) = [assign tg X.env] := by rfl) :
    MS X Wx (.Assign [tg] e pos) (mAsg b ma) :=
  ps_weak (ps_asg ha hg hs hw h1) fun D σ H ⟨β, ρ, h, er, s, L⟩ => oneS (f := fun x => do let ρ' ← optM (b x ρ); pure (.nx ρ')) er s L fun β1 H1 h1 d1 x s1 r1 A1 L1 => by
    obtain ⟨ρ', e, L2⟩ := Lands.optB L1
    exact ⟨β1, ρ, h1, d1, ρ', A1.er s er, s1, r1, e, fun σ' er' _ => Lands.nx L2 s1 er'⟩
end
end Mir
end

section
set_option Elab.async false
set_option linter.all false
set_option maxRecDepth 100000
/-! Mir11: what is walked; for, while; comprehensions. -/
namespace Mir
open PySem PySem.Spec
open PyProof.Rows L2

structure Src where
  items : List Dat
  lk : Option (Nat × Cell)
def Src.ok (s : Src) (h : Hm) : Bool := match s.lk with
  | none => true
  | some p => decide (h[p.1]? = some p.2)
abbrev MSrc := Env' → Mo Src
/-- the walk J gives the items -/
structure JOk (W : Wd) (J : It) (β1 : Nat → Addr) (H1 : Hp) (h1 : Hm) (src : Src) : Prop where
  few : src.items.length ≤ sizeLine
  go : ∀ i β H h, Aft W β1 H1 h1 β H h → src.ok h = true → i < src.items.length → J.go i H
  stop : ∀ i β H h, Aft W β1 H1 h1 β H h → src.ok h = true → src.items.length ≤ i → J.stop i H
  same : ∀ i β H h v H', Aft W β1 H1 h1 β H h → src.ok h = true → J.yld i H v H' → Same H H'
  yld : ∀ i β H h v H', Aft W β1 H1 h1 β H h → src.ok h = true → J.yld i H v H' → i < src.items.length → ∃ d, src.items[i]? = some d ∧ Rel W β h.length H' d v
def tMI (X : Cx) (Wx : WX) (m : MSrc) : TI := fun σ H R => ∃ β ρ h, ER (wd X) X.N.length β h.length H ρ σ ∧ Sim (wd X) β H h ∧
  match m ρ h with
  | .bad => False
  | .val src h' => ∀ β' H' J, Aft (wd X) β H h β' H' h' → JOk (wd X) J β' H' h' src → R J H'
  | .exc c h' => ∀ β' H' C, Aft (wd X) β H h β' H' h' → X.mg c = some (.ref C) → exW Wx σ C H'
abbrev MI (X : Cx) (Wx : WX) (tg e : Expr) (m : MSrc) : Prop := PI X tg e (tMI X Wx m)

theorem same_upd {H : Hp} {T : Addr} {o : HO} (h : H T = none) : Same H (upd H T o) := fun a u e => by
  rw [upd_ne fun z => by rw [z, h] at e; cases e]
  exact e
theorem Aft.same {W : Wd} {β : Nat → Addr} {H H' : Hp} {h : Hm} (s : Sim W β H h) (k : Same H H') : Aft W β H h β H' h := by
  have pe : PExt H H' := ⟨fun a xs e => k _ _ e, fun a o u e => k _ _ e⟩
  have at_ : ∀ n c, h[n]? = some c → c ≠ .dead → H' (β n) = H (β n) := fun n c e d => by
    obtain ⟨u, e2, _⟩ := (s.cell n c e).some d
    rw [e2, k _ _ e2]
  refine ⟨Nat.le_refl _, fun _ _ => rfl, ⟨fun n c e => CRel.mono pe (Nat.le_refl _) (fun _ _ => rfl) (fun d => at_ n c e d) (s.cell n c e), s.inj⟩, fun a o e _ => k _ _ e, fun _ e => e, fun n c hn e _ => ?_, fun a e => ?_, fun n t v kvs c' e e' => ?_⟩
  · rw [List.getElem?_eq_none hn] at e; cases e
  · cases q : H a with
    | none => exact absurd q e
    | some o => rw [k _ _ q]; simp
  · rw [e] at e'; cases e'
    exact .inr ⟨t, v, kvs, rfl, Nat.le_refl _, fun _ => ⟨rfl, rfl, at_ n _ e (by simp)⟩⟩

/-! ### by values -/
def ItR (X : Cx) (tg : Expr) (ti : V → Hp → (It → Hp → Prop) → Prop) : Prop :=
  ∀ (pins : List (Addr × Obj)) (s : Shared) (σ : L2.St) (H : Hp) (x : V) (u : Value) (R : It → Hp → Prop), Inv X pins σ H s → RelV x u → ti x H R → wpAny (model X.prog X.w) X.A (pyIter u) (PIE X pins σ tg R) X.xe s
theorem ItR.or {X : Cx} {tg : Expr} {t t' : V → Hp → (It → Hp → Prop) → Prop} (h : ItR X tg t) (h' : ItR X tg t') : ItR X tg fun x H R => t x H R ∨ t' x H R := fun pins s σ H x u R I r q => q.elim (h pins s σ H x u R I r) (h' pins s σ H x u R I r)
theorem pi_by {X : Cx} {tg e : Expr} {t : TE} {ti : V → Hp → (It → Hp → Prop) → Prop} (ha : PE X e t) (hi : ItR X tg ti) : PI X tg e fun σ H R => t σ H fun x H1 => ti x H1 R :=
  ⟨fun pins s σ H R I h => thn (ha.run pins s σ H _ I h) fun u s1 ⟨x, H1, I1, r1, q1⟩ => hi pins s1 σ H1 x u R I1 r1 q1⟩
theorem it_list {X : Cx} {tg : Expr} : ItR X tg fun x H R => ∃ a xs, x = .ref a ∧ SqL X.K H a xs ∧ (xs.length ≤ sizeLine → R (Itl X.K a) H) := by
  intro pins s σ H x u R I r h
  obtain ⟨a, xs, rfl, hq, q⟩ := h
  cases r
  obtain ⟨its, rv, p, hz⟩ := I.list hq
  refine wpAny_pyIter_list p.isList ?_
  exact pi_one (tk := s.toks) I _ (turn_list a _) ⟨_, Heap.get?_push_size _ rfl, rfl, rfl⟩ (q (by first | exact hz | (rw [rv.length]; exact hz)))
theorem it_tup {X : Cx} {tg : Expr} : ItR X tg fun x H R => ∃ a xs, x = .ref a ∧ SqT X.K H a xs ∧ (xs.length ≤ sizeLine → R (Itt X.K a) H) := by
  intro pins s σ H x u R I r h
  obtain ⟨a, xs, rfl, hq, q⟩ := h
  cases r
  obtain ⟨its, rv, p, hz⟩ := I.tuple hq
  refine wpAny_pyIter_tuple (show s.heap.IsTuple a its.toArray from p) ?_
  exact pi_one (tk := s.toks) I _ (turn_tuple a _) ⟨_, Heap.get?_push_size _ rfl, rfl, rfl⟩ (q (by first | exact hz | (rw [rv.length]; exact hz)))
theorem it_str {X : Cx} {tg : Expr} : ItR X tg fun x H R => ∃ z, x = .str z ∧ R (Its z) H := by
  intro pins s σ H x u R I r h
  obtain ⟨z, rfl, q⟩ := h
  obtain ⟨t, rfl⟩ := r
  cases ha : z.cps.all (· < 128)
  · exact wpAny_pyIter_wide ha (pi_one (tk := s.toks) I _ (turn_str _ z t "str_iterator" (.inr rfl)) ⟨_, Heap.get?_push_size _ rfl, rfl, rfl⟩ q)
  · exact wpAny_pyIter_ascii ha (pi_one (tk := s.toks) I _ (turn_str _ z t "str_ascii_iterator" (.inl rfl)) ⟨_, Heap.get?_push_size _ rfl, rfl, rfl⟩ q)

/-! ### sequences -/
def signsOf (z : Str) : List Dat := z.cps.toList.map fun c => .str ⟨#[c]⟩
def srcC (n : Nat) (c : Cell) : Mo Src := match c with
  | .lst xs => pure ⟨xs, some (n, c)⟩
  | _ => bad
@[simp] def srcD (d : Dat) : Mo Src := match d with
  | .str z => if z.length ≤ sizeLine then pure ⟨signsOf z, none⟩ else bad
  | .tup xs => pure ⟨xs, none⟩
  | .lst xs => pure ⟨xs, none⟩
  | .ref n => do let c ← cellOf n; srcC n c
  | _ => bad
@[simp] def mSrc (ma : Mv) : MSrc := fun ρ => do let x ← ma ρ; srcD x
section
variable {W : Wd} {β : Nat → Addr} {H : Hp} {h : Hm}
theorem jok_str (z : Str) (hz : z.length ≤ sizeLine) : JOk W (Its z) β H h ⟨signsOf z, none⟩ := by
  have hl : (signsOf z).length = z.cps.size := by unfold signsOf; rw [List.length_map, Array.length_toList]
  refine ⟨by rw [hl]; exact hz, fun i _ _ _ _ _ hi => by rw [hl] at hi; exact hi, fun i _ _ _ _ _ hi => by rw [hl] at hi; exact hi, fun i β' H' h' v H2 A _ y => (by obtain ⟨rfl, y⟩ := y; exact Same.refl _), fun i β' H' h' v H2 A _ y _ => ?_⟩
  obtain ⟨rfl, c, hc, rfl⟩ := y
  refine ⟨.str ⟨#[c]⟩, ?_, mk_str⟩
  show (signsOf z)[i]? = _
  unfold signsOf
  rw [List.getElem?_map, Array.getElem?_toList, hc]
  rfl
theorem jok_list {a : Addr} {vs : List V} {xs : List Dat} (s : Sim W β H h) (k : FzL W.K H a vs) (r : Rels W β h.length H xs vs) (hz : vs.length ≤ sizeLine) : JOk W (Itl W.K a) β H h ⟨xs, none⟩ := by
  refine ⟨by rw [r.length]; exact hz, fun i β' H' h' A _ hi => ?_, fun i β' H' h' A _ hi => ?_, fun i β' H' h' v H2 A _ y => (by obtain ⟨rfl, y⟩ := y; exact Same.refl _), fun i β' H' h' v H2 A _ y _ => ?_⟩
  · obtain ⟨v, hv, _⟩ := r.get (List.getElem?_eq_getElem hi)
    exact ⟨vs, v, (k.mono (A.pext s)).sq, hv⟩
  · exact ⟨vs, (k.mono (A.pext s)).sq, by rw [← r.length]; exact hi⟩
  · obtain ⟨rfl, y⟩ := y
    have hv := y vs (k.mono (A.pext s)).sq
    have hi : i < xs.length := by rw [r.length]; exact (List.getElem?_eq_some_iff.mp hv).1
    obtain ⟨v', hv', rv⟩ := r.get (List.getElem?_eq_getElem hi)
    rw [hv] at hv'
    cases hv'
    exact ⟨xs[i], List.getElem?_eq_getElem hi, A.rel s rv⟩
theorem jok_tup {a : Addr} {vs : List V} {xs : List Dat} (s : Sim W β H h) (k : FzT W.K H a vs) (r : Rels W β h.length H xs vs) (hz : vs.length ≤ sizeLine) : JOk W (Itt W.K a) β H h ⟨xs, none⟩ := by
  refine ⟨by rw [r.length]; exact hz, fun i β' H' h' A _ hi => ?_, fun i β' H' h' A _ hi => ?_, fun i β' H' h' v H2 A _ y => (by obtain ⟨rfl, y⟩ := y; exact Same.refl _), fun i β' H' h' v H2 A _ y _ => ?_⟩
  · obtain ⟨v, hv, _⟩ := r.get (List.getElem?_eq_getElem hi)
    exact ⟨vs, v, (k.mono (A.pext s)).sq, hv⟩
  · exact ⟨vs, (k.mono (A.pext s)).sq, by rw [← r.length]; exact hi⟩
  · obtain ⟨rfl, y⟩ := y
    have hv := y vs (k.mono (A.pext s)).sq
    have hi : i < xs.length := by rw [r.length]; exact (List.getElem?_eq_some_iff.mp hv).1
    obtain ⟨v', hv', rv⟩ := r.get (List.getElem?_eq_getElem hi)
    rw [hv] at hv'
    cases hv'
    exact ⟨xs[i], List.getElem?_eq_getElem hi, A.rel s rv⟩
theorem jok_cell {n : Nat} {xs : List Dat} (s : Sim W β H h) (e : h[n]? = some (.lst xs)) (hz : xs.length ≤ sizeLine) : JOk W (Itl W.K (β n)) β H h ⟨xs, some (n, .lst xs)⟩ := by
  have hn : n < h.length := (List.getElem?_eq_some_iff.mp e).1
  have now : ∀ β' H' h', Aft W β H h β' H' h' → (Src.ok ⟨xs, some (n, .lst xs)⟩ h') = true → ∃ vs, H' (β n) = some (.lst vs) ∧ Rels W β' h'.length H' xs vs := fun β' H' h' A ok => by
    have e' : h'[n]? = some (.lst xs) := of_decide_eq_true ok
    obtain ⟨vs, k, r⟩ := A.sim.cell n _ e'
    rw [A.agree n hn] at k
    exact ⟨vs, k, r⟩
  refine ⟨hz, fun i β' H' h' A ok hi => ?_, fun i β' H' h' A ok hi => ?_, fun i β' H' h' v H2 A _ y => (by obtain ⟨rfl, y⟩ := y; exact Same.refl _), fun i β' H' h' v H2 A ok y _ => ?_⟩
  · obtain ⟨vs, k, r⟩ := now β' H' h' A ok
    obtain ⟨v, hv, _⟩ := r.get (List.getElem?_eq_getElem hi)
    exact ⟨vs, v, .of k, hv⟩
  · obtain ⟨vs, k, r⟩ := now β' H' h' A ok
    exact ⟨vs, .of k, by rw [← r.length]; exact hi⟩
  · obtain ⟨vs, k, r⟩ := now β' H' h' A ok
    obtain ⟨rfl, y⟩ := y
    have hv := y vs (.of k)
    have hi : i < xs.length := by rw [r.length]; exact (List.getElem?_eq_some_iff.mp hv).1
    obtain ⟨v', hv', rv⟩ := r.get (List.getElem?_eq_getElem hi)
    rw [hv] at hv'
    cases hv'
    exact ⟨xs[i], List.getElem?_eq_getElem hi, rv⟩
end
section
variable {X : Cx} {Wx : WX} {tg : Expr}
/-- from an outcome of a source -/
def LandsI (X : Cx) (β : Nat → Addr) (H : Hp) (h : Hm) (r : Res Src) (R : It → Hp → Prop) (E : Addr → Hp → Prop) : Prop := match r with
  | .bad => False
  | .val src h' => ∀ β' H' J, Aft (wd X) β H h β' H' h' → JOk (wd X) J β' H' h' src → R J H'
  | .exc c h' => ∀ β' H' C, Aft (wd X) β H h β' H' h' → X.mg c = some (.ref C) → E C H'
theorem LandsI.bind {α τ : Type} {R' : (Nat → Addr) → Nat → Hp → α → τ → Prop} {β : Nat → Addr} {H : Hp} {h : Hm} {m : Mo α} {f : α → Mo Src} {R : It → Hp → Prop} {E : Addr → Hp → Prop} (L : LandsI X β H h ((m >>= f) h) R E) :
    Lands (wd X) R' β H h (m h) (fun v H1 => ∃ β1 h1 a1, Sim (wd X) β1 H1 h1 ∧ R' β1 h1.length H1 a1 v ∧ Aft (wd X) β H h β1 H1 h1 ∧ LandsI X β1 H1 h1 (f a1 h1) R E) E := by
  cases e : m h with
  | bad => rw [bnd_bad e] at L; exact L
  | val a h1 =>
    rw [bnd_val e] at L
    refine fun β1 H1 v A r => ⟨β1, h1, a, A.sim, r, A, ?_⟩
    cases e2 : f a h1 with
    | bad => rw [e2] at L; exact L
    | val src h2 => rw [e2] at L; exact fun β' H' J B j => L β' H' J (A.trans B) j
    | exc c h2 => rw [e2] at L; exact fun β' H' C B k => L β' H' C (A.trans B) k
  | exc c h1 => rw [bnd_exc e] at L; exact L
theorem tMI_iff {m : MSrc} {σ : L2.St} {H : Hp} {R : It → Hp → Prop} : tMI X Wx m σ H R ↔ ∃ β ρ h, ER (wd X) X.N.length β h.length H ρ σ ∧ Sim (wd X) β H h ∧ LandsI X β H h (m ρ h) R (exW Wx σ) := Iff.rfl
theorem LandsI.ret {β : Nat → Addr} {H : Hp} {h : Hm} {src : Src} {R : It → Hp → Prop} {E : Addr → Hp → Prop} {J : It} (L : LandsI X β H h (.val src h) R E) (s : Sim (wd X) β H h) (j : JOk (wd X) J β H h src) : R J H := L β H J (Aft.refl s) j
theorem cellOf_eq {n : Nat} {h : Hm} {β : Nat → Addr} {H : Hp} {f : Cell → Mo Src} {R : It → Hp → Prop} {E : Addr → Hp → Prop} (L : LandsI X β H h ((do let c ← cellOf n; f c) h) R E) : ∃ c, h[n]? = some c ∧ LandsI X β H h (f c h) R E := by
  cases e : h[n]? with
  | none =>
    have : (cellOf n) h = .bad := by unfold cellOf; rw [e]
    rw [bnd_bad this] at L; exact L.elim
  | some c =>
    by_cases hd : c = .dead
    · subst hd
      have : (cellOf n) h = .bad := by unfold cellOf; rw [e]
      rw [bnd_bad this] at L; exact L.elim
    · have : (cellOf n) h = .val c h := by
        unfold cellOf; rw [e]
        cases c <;> first | rfl | exact absurd rfl hd
      rw [bnd_val this] at L; exact ⟨c, rfl, L⟩
theorem mi_seq {e : Expr} {ma : Mv} (ha : ME X Wx e ma) : MI X Wx tg e (mSrc ma) :=
  pi_weak (pi_by ha (it_str.or (it_tup.or it_list))) fun σ H R ⟨β, ρ, h, er, s, L⟩ => by
    refine ⟨β, ρ, h, er, s, (LandsI.bind (R' := Rel (wd X)) (f := srcD) L).mono fun x H1 ⟨β1, h1, d1, s1, r1, A1, L1⟩ => ?_⟩
    cases d1 with
    | str z =>
      refine .inl ⟨z, by unfold Rel at r1; exact r1, ?_⟩
      by_cases hz : z.length ≤ sizeLine
      · have L2 : LandsI X β1 H1 h1 ((if z.length ≤ sizeLine then pure ⟨signsOf z, none⟩ else bad : Mo Src) h1) R (exW Wx σ) := L1
        rw [if_pos hz] at L2
        exact LandsI.ret L2 s1 (jok_str z hz)
      · have L2 : LandsI X β1 H1 h1 ((if z.length ≤ sizeLine then pure ⟨signsOf z, none⟩ else bad : Mo Src) h1) R (exW Wx σ) := L1
        rw [if_neg hz] at L2
        exact L2.elim
    | tup xs =>
      obtain ⟨a, vs, rfl, k, rs⟩ := rel_tup r1
      exact .inr (.inl ⟨a, vs, rfl, k.sq, fun hz => LandsI.ret L1 s1 (jok_tup s1 k rs hz)⟩)
    | lst xs =>
      obtain ⟨a, vs, rfl, k, rs⟩ : ∃ a vs, x = .ref a ∧ FzL (wd X).K H1 a vs ∧ Rels (wd X) β1 h1.length H1 xs vs := by unfold Rel at r1; exact r1
      exact .inr (.inr ⟨a, vs, rfl, k.sq, fun hz => LandsI.ret L1 s1 (jok_list s1 k rs hz)⟩)
    | ref n =>
      obtain ⟨c, ec, L2⟩ := cellOf_eq (f := srcC n) L1
      obtain ⟨hn, rfl⟩ : n < h1.length ∧ x = .ref (β1 n) := by unfold Rel at r1; exact r1
      cases c with
      | lst xs =>
        obtain ⟨vs, k, rs⟩ := s1.cell n _ ec
        exact .inr (.inr ⟨β1 n, vs, rfl, .of k, fun hz => LandsI.ret L2 s1 (jok_cell s1 ec (by rw [rs.length]; exact hz))⟩)
      | _ => exact L2.elim
    | _ => exact L1.elim
/-! ### ranges -/
def i62 (i : Int) : Bool := decide (-(2 ^ 62) ≤ i ∧ i < 2 ^ 62)
def rngD (lo : Int) (n : Nat) : List Dat := (List.range n).map fun (i : Nat) => .int (lo + (i : Int))
theorem rngD_len (lo : Int) (n : Nat) : (rngD lo n).length = n := by simp [rngD]
theorem jok_range {β : Nat → Addr} {H : Hp} {h : Hm} (W : Wd) (lo : Int) (n : Nat) (hz : n ≤ sizeLine) : JOk W (Itr lo n) β H h ⟨rngD lo n, none⟩ := by
  refine ⟨by rw [rngD_len]; exact hz, fun i _ _ _ _ _ hi => by rw [rngD_len] at hi; exact hi, fun i _ _ _ _ _ hi => by rw [rngD_len] at hi; exact hi, fun i β' H' h' v H2 A _ y => ?_, fun i β' H' h' v H2 A _ y => ?_⟩
  · obtain ⟨rfl, rfl⟩ := y
    exact Same.refl _
  · obtain ⟨rfl, rfl⟩ := y
    intro hi
    rw [rngD_len] at hi
    refine ⟨.int (lo + i), ?_, mk_int⟩
    show (rngD lo n)[i]? = _
    simp [rngD, hi]
/-- at every later time: the list at a -/
def LNow (W : Wd) (β : Nat → Addr) (H : Hp) (h : Hm) (src : Src) (a : Addr) : Prop := ∀ β' H' h', Aft W β H h β' H' h' → src.ok h' = true → ∃ vs, SqL W.K H' a vs ∧ Rels W β' h'.length H' src.items vs
theorem lnow_frz {W : Wd} {β : Nat → Addr} {H : Hp} {h : Hm} {a : Addr} {vs : List V} {xs : List Dat} (s : Sim W β H h) (k : FzL W.K H a vs) (r : Rels W β h.length H xs vs) : LNow W β H h ⟨xs, none⟩ a :=
  fun β' H' h' A _ => ⟨vs, (k.mono (A.pext s)).sq, A.rels s r⟩
theorem lnow_cell {W : Wd} {β : Nat → Addr} {H : Hp} {h : Hm} {n : Nat} {xs : List Dat} (e : h[n]? = some (.lst xs)) : LNow W β H h ⟨xs, some (n, .lst xs)⟩ (β n) := fun β' H' h' A ok => by
  have hn : n < h.length := (List.getElem?_eq_some_iff.mp e).1
  have e' : h'[n]? = some (.lst xs) := of_decide_eq_true ok
  obtain ⟨vs, k, r⟩ := A.sim.cell n _ e'
  rw [A.agree n hn] at k
  exact ⟨vs, .of k, r⟩
def enumD (xs : List Dat) : List Dat := xs.mapIdx fun i x => .tup [.int (i : Nat), x]
theorem jok_enum {W : Wd} {β : Nat → Addr} {H : Hp} {h : Hm} {src : Src} {a : Addr} (hz : src.items.length ≤ sizeLine) (ln : LNow W β H h src a) : JOk W (Ite W.K a) β H h ⟨enumD src.items, src.lk⟩ := by
  have hl : (enumD src.items).length = src.items.length := by simp [enumD]
  have sok : ∀ h', (Src.ok ⟨enumD src.items, src.lk⟩ h') = src.ok h' := fun _ => rfl
  refine ⟨by rw [hl]; exact hz, fun i β' H' h' A ok hi => ?_, fun i β' H' h' A ok hi => ?_, fun i β' H' h' v H2 A ok y => ?_, fun i β' H' h' v H2 A ok y => ?_⟩
  · obtain ⟨vs, k, r⟩ := ln β' H' h' A ok
    obtain ⟨v, hv, _⟩ := r.get (List.getElem?_eq_getElem (by rw [hl] at hi; exact hi))
    exact ⟨vs, v, k, hv⟩
  · obtain ⟨vs, k, r⟩ := ln β' H' h' A ok
    exact ⟨vs, k, by rw [← r.length]; rw [hl] at hi; exact hi⟩
  · obtain ⟨T, x, rfl, hT, rfl, y⟩ := y
    exact same_upd hT
  · obtain ⟨T, x, rfl, hT, rfl, y⟩ := y
    intro hi
    rw [hl] at hi
    obtain ⟨vs, k, r⟩ := ln β' H' h' A ok
    have hv := y vs k
    obtain ⟨v', hv', rv⟩ := r.get (List.getElem?_eq_getElem hi)
    rw [hv] at hv'
    cases hv'
    refine ⟨.tup [.int i, src.items[i]], ?_, ?_⟩
    · show (enumD src.items)[i]? = _
      simp [enumD, hi]
    · have pe : PExt H' (upd H' T (.tup [.int (i : Nat), x])) := ⟨fun a xs e => same_upd hT _ _ e, fun a o u e => same_upd hT _ _ e⟩
      unfold Rel
      refine ⟨T, _, rfl, .inl upd_same, ?_⟩
      unfold Rels
      refine ⟨_, _, rfl, mk_int, ?_⟩
      unfold Rels
      refine ⟨_, _, rfl, Rel.mono pe (Nat.le_refl _) (fun _ _ => rfl) _ _ rv, ?_⟩
      unfold Rels
      rfl
def zipD (xs ys : List Dat) : List Dat := (xs.zip ys).map fun p => .tup [p.1, p.2]
theorem jok_zipT {W : Wd} {β : Nat → Addr} {H : Hp} {h : Hm} {a b : Addr} {xs ys : List Dat} {vs us : List V} (s : Sim W β H h) (ka : FzT W.K H a vs) (ra : Rels W β h.length H xs vs) (kb : FzT W.K H b us) (rb : Rels W β h.length H ys us) (hz : xs.length ≤ sizeLine) :
    JOk W (RZ.ItzT W.K a b) β H h ⟨zipD xs ys, none⟩ := by
  have hl : (zipD xs ys).length = min xs.length ys.length := by simp [zipD]
  refine ⟨by rw [hl]; exact Nat.le_trans (Nat.min_le_left _ _) hz, fun i β' H' h' A ok hi => ?_, fun i β' H' h' A ok hi => ?_, fun i β' H' h' v H2 A ok y => ?_, fun i β' H' h' v H2 A ok y => ?_⟩
  · have hi : i < (zipD xs ys).length := hi
    rw [hl] at hi
    obtain ⟨v, hv, _⟩ := ra.get (List.getElem?_eq_getElem (Nat.lt_of_lt_of_le hi (Nat.min_le_left _ _)))
    obtain ⟨u, hu, _⟩ := rb.get (List.getElem?_eq_getElem (Nat.lt_of_lt_of_le hi (Nat.min_le_right _ _)))
    exact ⟨vs, us, v, u, (ka.mono (A.pext s)).sq, (kb.mono (A.pext s)).sq, hv, hu⟩
  · have hi : (zipD xs ys).length ≤ i := hi
    rw [hl] at hi
    refine ⟨vs, us, (ka.mono (A.pext s)).sq, (kb.mono (A.pext s)).sq, ?_⟩
    rw [← ra.length, ← rb.length]
    omega
  · obtain ⟨T, x, y', rfl, hT, rfl, y⟩ := y
    exact same_upd hT
  · obtain ⟨T, x, y', rfl, hT, rfl, y1, y2⟩ := y
    intro hi
    have hi : i < (zipD xs ys).length := hi
    rw [hl] at hi
    have h1 := y1 vs (ka.mono (A.pext s)).sq
    have h2 := y2 us (kb.mono (A.pext s)).sq
    obtain ⟨v, hv, rv⟩ := ra.get (List.getElem?_eq_getElem (Nat.lt_of_lt_of_le hi (Nat.min_le_left _ _)))
    obtain ⟨u, hu, ru⟩ := rb.get (List.getElem?_eq_getElem (Nat.lt_of_lt_of_le hi (Nat.min_le_right _ _)))
    rw [h1] at hv
    rw [h2] at hu
    cases hv
    cases hu
    refine ⟨.tup [xs[i]'(Nat.lt_of_lt_of_le hi (Nat.min_le_left _ _)), ys[i]'(Nat.lt_of_lt_of_le hi (Nat.min_le_right _ _))], ?_, ?_⟩
    · show (zipD xs ys)[i]? = _
      rw [List.getElem?_eq_getElem (by rw [hl]; exact hi)]
      simp [zipD]
    · have pe : PExt H' (upd H' T (.tup [x, y'])) := ⟨fun a xs e => same_upd hT _ _ e, fun a o u e => same_upd hT _ _ e⟩
      unfold Rel
      refine ⟨T, _, rfl, .inl upd_same, ?_⟩
      unfold Rels
      refine ⟨_, _, rfl, Rel.mono pe (Nat.le_refl _) (fun _ _ => rfl) _ _ (A.rel s rv), ?_⟩
      unfold Rels
      refine ⟨_, _, rfl, Rel.mono pe (Nat.le_refl _) (fun _ _ => rfl) _ _ (A.rel s ru), ?_⟩
      unfold Rels
      rfl
end
end Mir
end

section
set_option Elab.async false
set_option linter.all false
set_option maxRecDepth 100000
/-! Mir12: range, enumerate, zip as sources; for, while; comprehensions. -/
namespace Mir
open PySem PySem.Spec
open PyProof.Rows L2
section
variable {X : Cx} {Wx : WX} {tg : Expr}
theorem LandsI.ifB {c : Prop} [Decidable c] {m : Mo Src} {β : Nat → Addr} {H : Hp} {h : Hm} {R : It → Hp → Prop} {E : Addr → Hp → Prop} (L : LandsI X β H h ((if c then m else bad) h) R E) : c ∧ LandsI X β H h (m h) R E := by
  by_cases z : c
  · rw [if_pos z] at L; exact ⟨z, L⟩
  · rw [if_neg z] at L; exact L.elim
@[simp] def rng1C (j : Int) : Mo Src := if i62 j = true ∧ j.toNat ≤ sizeLine then pure ⟨rngD 0 j.toNat, none⟩ else bad
@[simp] def rng2C (i j : Int) : Mo Src := if (i62 i = true ∧ i62 j = true) ∧ (j - i).toNat ≤ sizeLine then pure ⟨rngD i (j - i).toNat, none⟩ else bad
@[simp] def rng1 : List Dat → Mo Src
  | [.int j] => rng1C j
  | _ => bad
@[simp] def rng2 : List Dat → Mo Src
  | [.int i, .int j] => rng2C i j
  | _ => bad
theorem rng1_inv {X : Cx} {ds : List Dat} {β : Nat → Addr} {H : Hp} {h : Hm} {R : It → Hp → Prop} {E : Addr → Hp → Prop} (L : LandsI X β H h (rng1 ds h) R E) : ∃ j, ds = [.int j] ∧ LandsI X β H h (rng1C j h) R E := by
  unfold rng1 at L
  split at L
  · exact ⟨_, rfl, L⟩
  · exact L.elim
theorem rng2_inv {X : Cx} {ds : List Dat} {β : Nat → Addr} {H : Hp} {h : Hm} {R : It → Hp → Prop} {E : Addr → Hp → Prop} (L : LandsI X β H h (rng2 ds h) R E) : ∃ i j, ds = [.int i, .int j] ∧ LandsI X β H h (rng2C i j h) R E := by
  unfold rng2 at L
  split at L
  · exact ⟨_, _, rfl, L⟩
  · exact L.elim
@[simp] def mSrcA (f : List Dat → Mo Src) (ml : Ml) : MSrc := fun ρ => do let xs ← ml ρ; f xs
theorem rels1 {W : Wd} {β : Nat → Addr} {N : Nat} {H : Hp} {d : Dat} {vs : List V} (r : Rels W β N H [d] vs) : ∃ v, vs = [v] ∧ Rel W β N H d v := by
  unfold Rels at r
  obtain ⟨v, r1, rfl, q1, rs⟩ := r
  unfold Rels at rs
  subst rs
  exact ⟨v, rfl, q1⟩
theorem rels2 {W : Wd} {β : Nat → Addr} {N : Nat} {H : Hp} {d e : Dat} {vs : List V} (r : Rels W β N H [d, e] vs) : ∃ v u, vs = [v, u] ∧ Rel W β N H d v ∧ Rel W β N H e u := by
  unfold Rels at r
  obtain ⟨v, r1, rfl, q1, rs⟩ := r
  obtain ⟨u, rfl, q2⟩ := rels1 rs
  exact ⟨v, u, rfl, q1, q2⟩
theorem mi_range1 {a : Expr} {ml : Ml} {p pos : Pos} (hg : Gl X "range") (hm : X.mg "range" = none) (ha : MA X Wx [a] ml) (hs : starEach [a] X.env = [(false, eval a X.env)] := by rfl) : MI X Wx tg (.Call (.Name "range" p) [a] [] pos) (mSrcA rng1 ml) :=
  pi_weak (pi_range1 hg hm ha hs) fun σ H R ⟨β, ρ, h, er, s, L⟩ =>
    ⟨β, ρ, h, er, s, (LandsI.bind (R' := fun β N H => Rels (wd X) β N H) (f := rng1) L).mono fun vs H1 ⟨β1, h1, ds, s1, r1, A1, L1⟩ => by
        obtain ⟨j, rfl, L1⟩ := rng1_inv L1
        obtain ⟨v, rfl, q⟩ := rels1 r1
        obtain ⟨⟨c1, c2⟩, L2⟩ := LandsI.ifB L1
        have c1 := of_decide_eq_true c1
        exact ⟨j, by rw [rel_int q], c1.1, c1.2, L2.ret s1 (jok_range _ 0 _ c2)⟩⟩
theorem mi_range2 {a b : Expr} {ml : Ml} {p pos : Pos} (hg : Gl X "range") (hm : X.mg "range" = none) (ha : MA X Wx [a, b] ml) (hs : starEach [a, b] X.env = [(false, eval a X.env), (false, eval b X.env)] := by rfl) (hs2 : starEach [b] X.env = [(false, eval b X.env)] := by rfl) :
    MI X Wx tg (.Call (.Name "range" p) [a, b] [] pos) (mSrcA rng2 ml) :=
  pi_weak (pi_range2 hg hm ha hs hs2) fun σ H R ⟨β, ρ, h, er, s, L⟩ =>
    ⟨β, ρ, h, er, s, (LandsI.bind (R' := fun β N H => Rels (wd X) β N H) (f := rng2) L).mono fun vs H1 ⟨β1, h1, ds, s1, r1, A1, L1⟩ => by
        obtain ⟨i, j, rfl, L1⟩ := rng2_inv L1
        obtain ⟨v, u, rfl, q, q2⟩ := rels2 r1
        obtain ⟨⟨⟨c1, c2⟩, c3⟩, L2⟩ := LandsI.ifB L1
        have c1 := of_decide_eq_true c1
        have c2 := of_decide_eq_true c2
        exact ⟨i, j, by rw [rel_int q, rel_int q2], ⟨c1.1, c1.2, c2.1, c2.2⟩, L2.ret s1 (jok_range _ i _ c3)⟩⟩
def enC (n : Nat) (c : Cell) : Mo Src := match c with
  | .lst xs => if xs.length ≤ sizeLine then pure ⟨enumD xs, some (n, c)⟩ else bad
  | _ => bad
def enL (xs : List Dat) : Mo Src := if xs.length ≤ sizeLine then pure ⟨enumD xs, none⟩ else bad
def enA : List Dat → Mo Src
  | [.lst xs] => enL xs
  | [.ref n] => do let c ← cellOf n; enC n c
  | _ => bad
theorem enA_inv {X : Cx} {ds : List Dat} {β : Nat → Addr} {H : Hp} {h : Hm} {R : It → Hp → Prop} {E : Addr → Hp → Prop} (L : LandsI X β H h (enA ds h) R E) : (∃ xs, ds = [.lst xs] ∧ LandsI X β H h (enL xs h) R E) ∨ ∃ n, ds = [.ref n] ∧ LandsI X β H h ((do let c ← cellOf n; enC n c) h) R E := by
  unfold enA at L
  split at L
  · exact .inl ⟨_, rfl, L⟩
  · exact .inr ⟨_, rfl, L⟩
  · exact L.elim
theorem mi_enum {a : Expr} {ml : Ml} {p pos tpos : Pos} {elts : List Expr} {kk : Nat} (hg : Gl X "enumerate") (hm : X.mg "enumerate" = none) (ha : MA X Wx [a] ml) (hs : starEach [a] X.env = [(false, eval a X.env)] := by rfl) :
    MI X Wx (.Tuple elts kk tpos) (.Call (.Name "enumerate" p) [a] [] pos) (mSrcA enA ml) :=
  pi_weak (pi_enum hg hm ha hs) fun σ H R ⟨β, ρ, h, er, s, L⟩ =>
    ⟨β, ρ, h, er, s, (LandsI.bind (R' := fun β N H => Rels (wd X) β N H) (f := enA) L).mono fun vs H1 ⟨β1, h1, ds, s1, r1, A1, L1⟩ => by
      rcases enA_inv L1 with ⟨xs, rfl, L1⟩ | ⟨n, rfl, L1⟩
      ·
        obtain ⟨v, rfl, q⟩ := rels1 r1
        obtain ⟨c2, L2⟩ := LandsI.ifB L1
        obtain ⟨a, vs, rfl, k, rs⟩ : ∃ a vs, v = .ref a ∧ FzL (wd X).K H1 a vs ∧ Rels (wd X) β1 h1.length H1 xs vs := by unfold Rel at q; exact q
        exact ⟨a, vs, rfl, k.sq, L2.ret s1 (jok_enum (src := ⟨xs, none⟩) c2 (lnow_frz s1 k rs))⟩
      · obtain ⟨v, rfl, q⟩ := rels1 r1
        obtain ⟨c, ec, L2⟩ := cellOf_eq (f := enC n) L1
        obtain ⟨hn, rfl⟩ : n < h1.length ∧ v = .ref (β1 n) := by unfold Rel at q; exact q
        cases c with
        | lst xs =>
          obtain ⟨vs, k, rs⟩ := s1.cell n _ ec
          obtain ⟨c2, L3⟩ := LandsI.ifB L2
          exact ⟨β1 n, vs, rfl, .of k, LandsI.ret L3 s1 (jok_enum (src := ⟨xs, some (n, .lst xs)⟩) c2 (lnow_cell ec))⟩
        | _ => exact L2.elim⟩
def zpL (xs ys : List Dat) : Mo Src := if xs.length ≤ sizeLine then pure ⟨zipD xs ys, none⟩ else bad
def zpA : List Dat → Mo Src
  | [.tup xs, .tup ys] => zpL xs ys
  | _ => bad
theorem zpA_inv {X : Cx} {ds : List Dat} {β : Nat → Addr} {H : Hp} {h : Hm} {R : It → Hp → Prop} {E : Addr → Hp → Prop} (L : LandsI X β H h (zpA ds h) R E) : ∃ xs ys, ds = [.tup xs, .tup ys] ∧ LandsI X β H h (zpL xs ys h) R E := by
  unfold zpA at L
  split at L
  · exact ⟨_, _, rfl, L⟩
  · exact L.elim
theorem mi_zip {a b : Expr} {ml : Ml} {p pos tpos : Pos} {elts : List Expr} {kk : Nat} (hg : Gl X "zip") (hm : X.mg "zip" = none) (ha : MA X Wx [a, b] ml) (hs : starEach [a, b] X.env = (false, eval a X.env) :: starEach [b] X.env := by rfl) (hpl : (backTo pos (starEach [b] X.env)).any (·.1) = false := by rfl) :
    MI X Wx (.Tuple elts kk tpos) (.Call (.Name "zip" p) [a, b] [] pos) (mSrcA zpA ml) :=
  pi_weak (RZ.pi_zipA hg hm ha hs hpl) fun σ H R ⟨β, ρ, h, er, s, L⟩ =>
    ⟨β, ρ, h, er, s, (LandsI.bind (R' := fun β N H => Rels (wd X) β N H) (f := zpA) L).mono fun vs H1 ⟨β1, h1, ds, s1, r1, A1, L1⟩ => by
        obtain ⟨xs, ys, rfl, L1⟩ := zpA_inv L1
        obtain ⟨v, u, rfl, q, q2⟩ := rels2 r1
        obtain ⟨c2, L2⟩ := LandsI.ifB L1
        obtain ⟨a, vs, rfl, k, rs⟩ := rel_tup q
        obtain ⟨b, us, rfl, k2, rs2⟩ := rel_tup q2
        exact ⟨a, b, vs, us, rfl, .inr ⟨k.sq, k2.sq, L2.ret s1 (jok_zipT s1 k rs k2 rs2 c2)⟩⟩⟩
end

/-! ### for -/
def mGuard (s : Src) : Mo Unit := fun h => if s.ok h = true then .val () h else .bad
def forL (src : Src) (bd : Dat → Env' → Option Env') (body : Ms) : List Dat → Ms
  | [], ρ => do mGuard src; pure (.nx ρ)
  | d :: ds, ρ => do
    mGuard src
    let ρ' ← optM (bd d ρ)
    let f ← body ρ'
    match f with
    | .nx ρ2 => forL src bd body ds ρ2
    | .ct ρ2 => forL src bd body ds ρ2
    | .bk ρ2 => pure (.nx ρ2)
    | .rt d => pure (.rt d)
@[simp] def mFor (ms : MSrc) (bd : Dat → Env' → Option Env') (body : Ms) : Ms := fun ρ => do let src ← ms ρ; forL src bd body src.items ρ
theorem Lands.guard {α τ : Type} {W : Wd} {R : (Nat → Addr) → Nat → Hp → α → τ → Prop} {β : Nat → Addr} {H : Hp} {h : Hm} {src : Src} {f : Mo α} {Q : τ → Hp → Prop} {E : Addr → Hp → Prop} (L : Lands W R β H h ((do mGuard src; f) h) Q E) : src.ok h = true ∧ Lands W R β H h (f h) Q E := by
  by_cases e : src.ok h = true
  · have g : mGuard src h = .val () h := by unfold mGuard; rw [if_pos e]
    have : (do mGuard src; f) h = f h := bnd_val g
    rw [this] at L
    exact ⟨e, L⟩
  · have g : mGuard src h = .bad := by unfold mGuard; rw [if_neg e]
    have : (do mGuard src; f) h = .bad := bnd_bad g
    rw [this] at L
    exact L.elim
section
variable {X : Cx} {Wx : WX} {tg e : Expr}
theorem ms_for {body : List Stmt} {is : List Nat} {ms : MSrc} {bd : Dat → Env' → Option Env'} {mb : Ms} {pos : Pos} (hp : PassesOwn (model X.prog X.w) X.A X.env X.xe) (hc : X.calm = true) (hi : MI X Wx tg e ms) (hg : MG X tg is bd) (hb : MSs X Wx body mb)
    (hs : ∀ x, foldedSetIterable e X.env x = pure x := by intro _; rfl) : MS X Wx (.For tg e body [] pos) (mFor ms bd mb) :=
  ps_weak (ps_for hp hc hi hg hb hs) fun D σ H ⟨β, ρ, h, er, s, L⟩ => by
    refine ⟨β, ρ, h, er, s, ?_⟩
    have L : LandsS X Wx D β H h ((do let src ← ms ρ; forL src bd mb src.items ρ) h) := L
    cases em : ms ρ h with
    | bad => rw [bnd_bad em] at L; exact L
    | exc c h' =>
      rw [bnd_exc em] at L
      exact fun β' H' C A k => L β' H' C A k σ er.1.2
    | val src h1 =>
      rw [bnd_val em] at L
      intro β1 H1 J A1 J1
      have L1 : LandsS X Wx D β1 H1 h1 (forL src bd mb src.items ρ h1) := L.after A1
      refine ⟨fun i m σ H => m = src.items.length - i ∧ i ≤ src.items.length ∧ ∃ β' ρ' h', ER (wd X) X.N.length β' h'.length H ρ' σ ∧ Aft (wd X) β1 H1 h1 β' H h' ∧ LandsS X Wx D β' H h' (forL src bd mb (src.items.drop i) ρ' h'), ⟨src.items.length, by simp, Nat.zero_le _, β1, ρ, h1, A1.er s er, Aft.refl A1.sim, L1⟩, ?_⟩
      rintro i m σ2 H2 ⟨rfl, hi, β2, ρ2, h2, er2, A2, L2⟩
      by_cases hlt : i < src.items.length
      · rw [List.drop_eq_getElem_cons hlt] at L2
        obtain ⟨ok2, L3⟩ := Lands.guard L2
        refine .inr ⟨J1.go i β2 H2 h2 A2 ok2 hlt, fun σ' H' => ∃ β' ρ' h', ER (wd X) X.N.length β' h'.length H' ρ' σ' ∧ Aft (wd X) β1 H1 h1 β' H' h' ∧ LandsS X Wx D β' H' h' (forL src bd mb (src.items.drop (i + 1)) ρ' h'), fun σ' H' q => ⟨src.items.length - (i + 1), by omega, rfl, hlt, q⟩, fun x H3 y => ?_⟩
        obtain ⟨d, hd, rd⟩ := J1.yld i β2 H2 h2 x H3 A2 ok2 y hlt
        have sm := J1.same i β2 H2 h2 x H3 A2 ok2 y
        rw [List.getElem?_eq_getElem hlt] at hd
        cases hd
        have A3 := Aft.same A2.sim sm
        obtain ⟨ρ3, e3, L4⟩ := Lands.optB L3
        refine ⟨β2, ρ2, h2, _, ρ3, A3.er A2.sim er2, A3.sim, rd, e3, fun σ3 er3 _ => ⟨β2, ρ3, h2, er3, A3.sim, ?_⟩⟩
        refine (Lands.bind (R' := RFl (wd X) X.N.length) (L4.after A3)).mono fun fl H4 ⟨β4, h4, f4, s4, r4, A4, L5⟩ => ?_
        have A5 := A2.trans (A3.trans A4)
        cases f4 with
        | nx ρ4 => cases fl with
          | nx σ4 => exact ⟨β4, ρ4, h4, r4, A5, L5⟩
          | _ => exact r4.elim
        | ct ρ4 => cases fl with
          | ct σ4 => exact ⟨β4, ρ4, h4, r4, A5, L5⟩
          | _ => exact r4.elim
        | bk ρ4 => cases fl with
          | bk σ4 => exact Lands.nx (D := D) L5 s4 r4
          | _ => exact r4.elim
        | rt d => cases fl with
          | rt v => exact Lands.rt (D := D) L5 s4 r4
          | _ => exact r4.elim
      · have hl : src.items.length ≤ i := Nat.le_of_not_lt hlt
        rw [List.drop_eq_nil_of_le hl] at L2
        obtain ⟨ok2, L3⟩ := Lands.guard L2
        exact .inl ⟨J1.stop i β2 H2 h2 A2 ok2 hl, Lands.nx L3 A2.sim er2⟩
def whileF (c : Mb) (body : Ms) : Nat → Ms
  | 0, _ => bad
  | n + 1, ρ => do
    let b ← c ρ
    if b then (do
      let f ← body ρ
      match f with
      | .nx ρ2 => whileF c body n ρ2
      | .ct ρ2 => whileF c body n ρ2
      | .bk ρ2 => pure (.nx ρ2)
      | .rt d => pure (.rt d)) else pure (.nx ρ)
theorem ms_while {c : Expr} {body : List Stmt} {mc : Mb} {mb : Ms} {pos : Pos} (n : Nat) (hp : PassesOwn (model X.prog X.w) X.A X.env X.xe) (hc : MT X Wx c mc) (hb : MSs X Wx body mb) : MS X Wx (.While c body [] pos) (whileF mc mb n) :=
  ps_weak (ps_while hp hc hb) fun D σ H ⟨β, ρ, h, er, s, L⟩ => by
    refine ⟨fun m σ H => ∃ β ρ h, ER (wd X) X.N.length β h.length H ρ σ ∧ Sim (wd X) β H h ∧ LandsS X Wx D β H h (whileF mc mb m ρ h), ⟨n, β, ρ, h, er, s, L⟩, ?_⟩
    rintro m σ H ⟨β, ρ, h, er, s, L⟩
    cases m with
    | zero => exact L.elim
    | succ m =>
      refine oneBS (f := fun b => if b = true then (do
        let f ← mb ρ
        match f with
        | .nx ρ2 => whileF mc mb m ρ2
        | .ct ρ2 => whileF mc mb m ρ2
        | .bk ρ2 => pure (.nx ρ2)
        | .rt d => pure (.rt d)) else pure (.nx ρ)) er s L fun β1 H1 h1 b s1 er1 L1 => ?_
      cases b with
      | false => exact Lands.nx L1 s1 er1
      | true =>
        refine ⟨fun σ' H' => ∃ β ρ h, ER (wd X) X.N.length β h.length H' ρ σ' ∧ Sim (wd X) β H' h ∧ LandsS X Wx D β H' h (whileF mc mb m ρ h), fun σ' H' q => ⟨m, Nat.lt_succ_self _, q⟩, β1, ρ, h1, er1, s1, ?_⟩
        refine (Lands.bind (R' := RFl (wd X) X.N.length) (m := mb ρ) (f := fun f => match f with
          | .nx ρ2 => whileF mc mb m ρ2
          | .ct ρ2 => whileF mc mb m ρ2
          | .bk ρ2 => pure (.nx ρ2)
          | .rt d => pure (.rt d)) L1).mono fun fl H4 ⟨β4, h4, f4, s4, r4, A4, L5⟩ => ?_
        cases f4 with
        | nx ρ4 => cases fl with
          | nx σ4 => exact ⟨β4, ρ4, h4, r4, s4, L5⟩
          | _ => exact r4.elim
        | ct ρ4 => cases fl with
          | ct σ4 => exact ⟨β4, ρ4, h4, r4, s4, L5⟩
          | _ => exact r4.elim
        | bk ρ4 => cases fl with
          | bk σ4 => exact Lands.nx (D := D) L5 s4 r4
          | _ => exact r4.elim
        | rt d => cases fl with
          | rt v => exact Lands.rt (D := D) L5 s4 r4
          | _ => exact r4.elim
end
end Mir
end

section
set_option Elab.async false
set_option linter.all false
set_option maxRecDepth 100000
/-! Mir13: comprehensions. -/
namespace Mir
open PySem PySem.Spec
open PyProof.Rows L2

theorem upd_upd' {H : Hp} {a : Addr} {o p : HO} : upd (upd H a o) a p = upd H a p := funext fun b => by
  by_cases z : b = a
  · subst z; rw [upd_same, upd_same]
  · rw [upd_ne z, upd_ne z, upd_ne z]
/-- without what lies at D -/
def ers (H : Hp) (D : Addr) : Hp := fun a => if a = D then none else H a
theorem ers_same {H : Hp} {D : Addr} : ers H D D = none := if_pos rfl
theorem ers_ne {H : Hp} {D a : Addr} (h : a ≠ D) : ers H D a = H a := if_neg h
theorem ers_upd {H : Hp} {D : Addr} {o : HO} (h : H D = some o) : upd (ers H D) D o = H := funext fun b => by
  by_cases z : b = D
  · subst z; rw [upd_same, h]
  · rw [upd_ne z, ers_ne z]
/-- a list under way at D is no cell of the mirror's -/
theorem Aft.erase {W : Wd} {β β' : Nat → Addr} {Hb H' : Hp} {h h' : Hm} {D : Addr} {vs : List V} (s : Sim W β Hb h) (hD : Hb D = none) (A : Aft W β (upd Hb D (.lst vs)) h β' H' h') :
    H' D = some (.lst vs) ∧ Aft W β Hb h β' (ers H' D) h' ∧ PExt H' (ers H' D) := by
  have nl : ∀ n c, h[n]? = some c → c ≠ .dead → β n ≠ D := fun n c e d z => by
    obtain ⟨u, e2, _⟩ := (s.cell n c e).some d
    rw [z, hD] at e2; cases e2
  have hD' : H' D = some (.lst vs) := A.rest D _ upd_same fun ⟨n, c, e, d, z⟩ => nl n c e d z
  have pe : PExt H' (ers H' D) := ⟨fun a xs e => by rw [ers_ne fun z => by rw [z, hD'] at e; cases e]; exact e, fun a o u e => by rw [ers_ne fun z => by rw [z, hD'] at e; cases e]; exact e⟩
  have nl' : ∀ n c, h'[n]? = some c → c ≠ .dead → β' n ≠ D := fun n c e d z => by
    by_cases hn : n < h.length
    · have e0 : h[n]? = some h[n] := List.getElem?_eq_getElem hn
      by_cases d0 : h[n] = .dead
      · rw [d0] at e0
        rw [A.dead n e0] at e
        cases e
        exact d rfl
      · rw [A.agree n hn] at z
        exact nl n _ e0 d0 z
    · have := A.fresh n c (Nat.le_of_not_lt hn) e d
      rw [z, upd_same] at this
      cases this
  refine ⟨hD', ⟨A.len, A.agree, ⟨fun n c e => CRel.mono pe (Nat.le_refl _) (fun _ _ => rfl) (fun d => ers_ne (nl' n c e d)) (A.sim.cell n c e), A.sim.inj⟩, fun a o e k => ?_, A.dead, fun n c hn e d => ?_, fun a e => ?_, fun n t v kvs c' e e' => ?_⟩, pe⟩
  · have z : a ≠ D := fun z => by rw [z, hD] at e; cases e
    rw [ers_ne z]
    exact A.rest a o (by rw [upd_ne z]; exact e) k
  · have := A.fresh n c hn e d
    rwa [upd_ne (nl' n c e d)] at this
  · have z : a ≠ D := fun z => e (by rw [z, hD])
    rw [ers_ne z]
    exact A.keep a (by rw [upd_ne z]; exact e)
  · rcases A.vers n t v kvs c' e e' with k | ⟨t', v', kvs', e1, e2, e3⟩
    · exact .inl k
    · refine .inr ⟨t', v', kvs', e1, e2, fun ev => ?_⟩
      obtain ⟨q1, q2, q3⟩ := e3 ev
      refine ⟨q1, q2, ?_⟩
      rw [ers_ne (nl' n c' e' (by rw [e1]; simp)), q3, upd_ne (nl n _ e (by simp))]

@[simp] def wipeE (ρ : Env') : List Nat → Env'
  | [] => ρ
  | v :: vs => (wipeE ρ vs).set v none
theorem ER.wipe {W : Wd} {l : Nat} {β : Nat → Addr} {N : Nat} {H : Hp} {ρ : Env'} {σ : L2.St} (r : ER W l β N H ρ σ) : ∀ vs : List Nat, ER W l β N H (wipeE ρ vs) (wipe σ vs)
  | [] => r
  | v :: vs => (ER.wipe r vs).set_none
def noX {α : Type} (m : Mo α) : Mo α := fun h => match m h with
  | .exc _ _ => .bad
  | r => r
theorem noX_cases {α : Type} (m : Mo α) (h : Hm) : (noX m h = .bad) ∨ ∃ a h', m h = .val a h' ∧ noX m h = .val a h' := by
  unfold noX
  cases e : m h with
  | bad => exact .inl rfl
  | val a h' => exact .inr ⟨a, h', rfl, rfl⟩
  | exc c h' => exact .inl rfl
def lcL (src : Src) (bd : Dat → Env' → Option Env') (c : Mb) (e : Mv) (ρ0 : Env') : List Dat → List Dat → Mo (List Dat)
  | [], acc => do mGuard src; pure acc
  | d :: ds, acc => do
    mGuard src
    let ρ' ← optM (bd d ρ0)
    let b ← noX (c ρ')
    if b = true then (do let y ← noX (e ρ'); lcL src bd c e ρ0 ds (acc ++ [y])) else lcL src bd c e ρ0 ds acc
@[simp] def mLc (ms : MSrc) (vs : List Nat) (bd : Dat → Env' → Option Env') (c : Mb) (e : Mv) : Ml := fun ρ => do let src ← ms ρ; lcL src bd c e (wipeE ρ vs) src.items []
abbrev MTs (X : Cx) (Wx : WX) (es : List Expr) (m : Mb) : Prop := PTs X es (tMT X Wx m)
@[simp] def mYes : Mb := fun _ => pure true
theorem mts_nil {X : Cx} {Wx : WX} : MTs X Wx [] mYes := ⟨fun pins s σ H Q I ⟨β, ρ, h, er, sm, L⟩ => pts_nil.run pins s σ H Q I (L.ret (a := true) (v := true) sm rfl)⟩
theorem mts_one {X : Cx} {Wx : WX} {e : Expr} {m : Mb} (h : MT X Wx e m) : MTs X Wx [e] m := pts_one h
abbrev ML (X : Cx) (Wx : WX) (e : Expr) (m : Ml) : Prop := PE X e (tML X Wx m)
theorem Rels.snoc {W : Wd} {β : Nat → Addr} {N : Nat} {H : Hp} : ∀ {ds : List Dat} {vs : List V} {d : Dat} {v : V}, Rels W β N H ds vs → Rel W β N H d v → Rels W β N H (ds ++ [d]) (vs ++ [v])
  | [], vs, d, v, h, r => by
    unfold Rels at h
    subst h
    show Rels W β N H [d] [v]
    unfold Rels
    refine ⟨v, [], rfl, r, ?_⟩
    unfold Rels
    rfl
  | x :: ds, vs, d, v, h, r => by
    unfold Rels at h
    obtain ⟨u, us, rfl, q, qs⟩ := h
    show Rels W β N H (x :: (ds ++ [d])) (u :: (us ++ [v]))
    unfold Rels
    exact ⟨u, _, rfl, q, Rels.snoc qs r⟩
section
variable {X : Cx} {Wx : WX}
theorem lc_weak {is vs : List Nat} {ms : MSrc} {bd : Dat → Env' → Option Env'} {mc : Mb} {me : Mv} (hv : ∀ i ∈ is, i ∈ vs) (σ : L2.St) (H : Hp) (Q : VK) (q : tML X Wx (mLc ms vs bd mc me) σ H Q) :
    tLc (tMI X Wx ms) (tMG X is bd) (tMT X WNo mc) (tM X WNo me) vs σ H Q := by
  obtain ⟨β, ρ, h, er, s, L⟩ := q
  refine ⟨β, ρ, h, er, s, ?_⟩
  have L : Lands (wd X) (fun β N H => Rels (wd X) β N H) β H h ((do let src ← ms ρ; lcL src bd mc me (wipeE ρ vs) src.items []) h) (fun vs H' => ∀ p, H' p = none → Q (.ref p) (upd H' p (.lst vs))) (exW Wx σ) := L
  cases em : ms ρ h with
  | bad => rw [bnd_bad em] at L; exact L
  | exc c h' => rw [bnd_exc em] at L; exact L
  | val src h1 =>
    rw [bnd_val em] at L
    intro β1 H1 J A1 J1 D hD1
    have L1 := L.after A1
    refine ⟨fun i m H => m = src.items.length - i ∧ i ≤ src.items.length ∧ ∃ β' h' acc us Hb, Hb D = none ∧ H = upd Hb D (.lst us) ∧ acc.length ≤ i ∧ Aft (wd X) β1 H1 h1 β' Hb h' ∧ Rels (wd X) β' h'.length Hb acc us ∧
        Lands (wd X) (fun β N H => Rels (wd X) β N H) β' Hb h' (lcL src bd mc me (wipeE ρ vs) (src.items.drop i) acc h') (fun vs H' => ∀ p, H' p = none → Q (.ref p) (upd H' p (.lst vs))) (exW Wx σ),
      ⟨src.items.length, by simp, Nat.zero_le _, β1, h1, [], [], H1, hD1, rfl, Nat.le_refl _, Aft.refl A1.sim, (by unfold Rels; rfl), L1⟩, ?_⟩
    rintro i m H2 ⟨rfl, hi, β2, h2, acc, us, Hb, hDb, rfl, hacc, A2, ra, L2⟩
    have same2 : Same Hb (upd Hb D (.lst us)) := same_upd hDb
    have A2' := Aft.same A2.sim same2
    by_cases hlt : i < src.items.length
    · rw [List.drop_eq_getElem_cons hlt] at L2
      obtain ⟨ok2, L3⟩ := Lands.guard L2
      obtain ⟨ρ3, e3, L4⟩ := Lands.optB L3
      refine .inr ⟨J1.go i β2 _ h2 (A2.trans A2') ok2 hlt, fun H => ∃ β' h' acc us Hb, Hb D = none ∧ H = upd Hb D (.lst us) ∧ acc.length ≤ i + 1 ∧ Aft (wd X) β1 H1 h1 β' Hb h' ∧ Rels (wd X) β' h'.length Hb acc us ∧
        Lands (wd X) (fun β N H => Rels (wd X) β N H) β' Hb h' (lcL src bd mc me (wipeE ρ vs) (src.items.drop (i + 1)) acc h') (fun vs H' => ∀ p, H' p = none → Q (.ref p) (upd H' p (.lst vs))) (exW Wx σ),
        fun H' q => ⟨src.items.length - (i + 1), by omega, rfl, hlt, q⟩, fun x H3 y => ?_⟩
      obtain ⟨d, hd, rd⟩ := J1.yld i β2 _ h2 x H3 (A2.trans A2') ok2 y hlt
      have sm := J1.same i β2 _ h2 x H3 (A2.trans A2') ok2 y
      rw [List.getElem?_eq_getElem hlt] at hd
      cases hd
      have A3 := Aft.same A2'.sim sm
      have er3 : ER (wd X) X.N.length β2 h2.length H3 (wipeE ρ vs) (wipe σ vs) := A3.er A2'.sim (A2'.er A2.sim (A2.er A1.sim (A1.er s er))) |>.wipe vs
      refine ⟨β2, wipeE ρ vs, h2, _, ρ3, er3, A3.sim, rd, e3, fun σ3 er4 hw => ⟨?_, β2, ρ3, h2, er4, A3.sim, ?_⟩⟩
      · rw [hw vs hv]
        have key : ∀ ws : List Nat, (∀ i ∈ ws, i ∈ vs) → wipe (wipe σ ws) vs = wipe σ vs := fun ws => by
          induction ws with
          | nil => intro _; rfl
          | cons w ws ih =>
            intro hw
            show wipe ((wipe σ ws).set w none) vs = _
            rw [wipe_set (hw w (by simp)), ih fun i hi => hw i (List.mem_cons_of_mem _ hi)]
        exact key vs fun i hi => hi
      · have L4 : Lands (wd X) (fun β N H => Rels (wd X) β N H) β2 Hb h2 ((do let b ← noX (mc ρ3); if b = true then (do let y ← noX (me ρ3); lcL src bd mc me (wipeE ρ vs) (src.items.drop (i + 1)) (acc ++ [y])) else lcL src bd mc me (wipeE ρ vs) (src.items.drop (i + 1)) acc) h2) (fun vs H' => ∀ p, H' p = none → Q (.ref p) (upd H' p (.lst vs))) (exW Wx σ) := L4
        rcases noX_cases (mc ρ3) h2 with nb | ⟨b, h5, e5, e5'⟩
        · rw [bnd_bad nb] at L4; exact L4.elim
        rw [bnd_val e5'] at L4
        rw [e5]
        rintro β5 H5 _ A5 rfl
        have A35 := A3.trans A5
        obtain ⟨_, B5, pe5⟩ := Aft.erase A2.sim hDb (A3.trans A5)
        cases b with
        | false =>
          obtain ⟨hD5, B5, pe5⟩ := Aft.erase A2.sim hDb (A3.trans A5)
          exact iteF ⟨β5, h5, acc, us, ers H5 D, ers_same, (ers_upd hD5).symm, Nat.le_succ_of_le hacc, A2.trans B5, B5.rels A2.sim ra, L4.after B5⟩
        | true =>
          refine iteT ⟨β5, ρ3, h5, A5.er A3.sim er4, A5.sim, ?_⟩
          have L4 : Lands (wd X) (fun β N H => Rels (wd X) β N H) β2 Hb h2 ((do let y ← noX (me ρ3); lcL src bd mc me (wipeE ρ vs) (src.items.drop (i + 1)) (acc ++ [y])) h5) (fun vs H' => ∀ p, H' p = none → Q (.ref p) (upd H' p (.lst vs))) (exW Wx σ) := L4
          rcases noX_cases (me ρ3) h5 with nb | ⟨z, h6, e6, e6'⟩
          · rw [bnd_bad nb] at L4; exact L4.elim
          rw [bnd_val e6'] at L4
          rw [e6]
          intro β6 H6 v A6 r6
          obtain ⟨hD6, B6, pe6⟩ := Aft.erase A2.sim hDb (A3.trans (A5.trans A6))
          refine ⟨us, hD6, ?_, β6, h6, acc ++ [z], us ++ [v], ers H6 D, ers_same, ?_, ?_, A2.trans B6, (B6.rels A2.sim ra).snoc (Rel.mono pe6 (Nat.le_refl _) (fun _ _ => rfl) _ _ r6), L4.after B6⟩
          · rw [← ra.length]
            exact Nat.lt_of_le_of_lt hacc (Nat.lt_of_lt_of_le hlt J1.few)
          · rw [← ers_upd hD6, upd_upd', ers_upd hD6]
          · rw [List.length_append]
            exact Nat.succ_le_succ hacc
    · have hl : src.items.length ≤ i := Nat.le_of_not_lt hlt
      rw [List.drop_eq_nil_of_le hl] at L2
      obtain ⟨ok2, L3⟩ := Lands.guard L2
      exact .inl ⟨J1.stop i β2 _ h2 (A2.trans A2') ok2 hl, Lands.ret L3 A2.sim ra D hDb⟩
theorem ml_lc {elt tg iter : Expr} {ifs : List Expr} {scope : Scope} {own : List (Str × Nat)} {pos : Pos} {is : List Nat} {ms : MSrc} {bd : Dat → Env' → Option Env'} {mc : Mb} {me : Mv} (hc : X.calm = true) (hN : X.N.Nodup) (hi : MI X Wx tg iter ms) (ok : BlkOk X.N X.env.scope scope own)
    (hg : ∀ (s : Shared) (H : Hp) (C : Addr) (cl : List (Str × Addr)) (fp : List Addr), MG (X.blk s H scope (compEnvC scope cl C X.env) fp) tg is bd) (ht : ∀ (s : Shared) (H : Hp) (C : Addr) (cl : List (Str × Addr)) (fp : List Addr), MTs (X.blk s H scope (compEnvC scope cl C X.env) fp) WNo ifs mc)
    (he : ∀ (s : Shared) (H : Hp) (C : Addr) (cl : List (Str × Addr)) (fp : List Addr), ME (X.blk s H scope (compEnvC scope cl C X.env) fp) WNo elt me) (hv : ∀ i ∈ is, i ∈ own.map (·.2)) (hs : ∀ x, foldedSetIterable iter X.env x = pure x := by intro _; rfl) :
    ML X Wx (.ListComp elt [⟨tg, iter, ifs, 0⟩] scope pos) (mLc ms (own.map (·.2)) bd mc me) :=
  pe_weak (pe_lc hc hN hi ok hg ht he hs) fun σ H Q q => lc_weak hv σ H Q q
end
end Mir
end

section
set_option Elab.async false
set_option linter.all false
set_option maxRecDepth 100000
/-! Mir14: comprehensions that are stored on one line; defs; calls; closing a def. -/
namespace Mir
open PySem PySem.Spec
open PyProof.Rows L2

/-! ### name = [..] on one line -/
theorem ps_frz {X : Cx} {st : Stmt} {t : TS} (h : PS X st t) : PS X st (fun D σ H => t { D with nx := fun σ' H1 => ∃ S : Addr → Prop, (∀ a, S a → ∃ u, H1 a = some u ∧ Fzb u) ∧ ∀ H2, Fzn S H1 H2 → D.nx σ' H2 } σ H) := by
  refine ⟨fun pins s σ H D I q => ?_⟩
  refine thn (h.run pins s σ H _ I q) fun f s' hf => ?_
  cases f with
  | next =>
    obtain ⟨σ', H1, I1, S, hS, q1⟩ := hf
    obtain ⟨H2, z, I2⟩ := Inv.frz I1 hS
    exact ⟨σ', H2, I2, q1 H2 z⟩
  | brk => exact hf
  | cont => exact hf
  | ret v => exact hf
@[simp] def mSetC (i : Nat) (ml : Ml) : Ms := fun ρ => do let xs ← ml ρ; let d ← alloc (.lst xs); pure (.nx (ρ.set i (some d)))
@[simp] def mSetF (i : Nat) (ml : Ml) : Ms := fun ρ => do let xs ← ml ρ; pure (.nx (ρ.set i (some (.lst xs))))
section
variable {X : Cx} {Wx : WX}
theorem ms_setLcC {i : Nat} {y : Str} {py : Pos} {elt tg iter : Expr} {ifs : List Expr} {scope : Scope} {own : List (Str × Nat)} {pos spos : Pos} {is : List Nat} {ms : MSrc} {bd : Dat → Env' → Option Env'} {mc : Mb} {me : Mv} (hc : X.calm = true) (hN : X.N.Nodup) (hy : X.N[i]? = some y) (hyl : X.env.scope.names.lookup y = some .local)
    (hsw : swapsWith (.ListComp elt [⟨tg, iter, ifs, 0⟩] scope pos) (some (.Name y py)) spos.line X.env = pure true) (hi : MI X Wx tg iter ms) (ok : BlkOk X.N X.env.scope scope own)
    (hg : ∀ (s : Shared) (H : Hp) (C : Addr) (cl : List (Str × Addr)) (fp : List Addr), MG (X.blk s H scope (compEnvC scope cl C X.env) fp) tg is bd) (ht : ∀ (s : Shared) (H : Hp) (C : Addr) (cl : List (Str × Addr)) (fp : List Addr), MTs (X.blk s H scope (compEnvC scope cl C X.env) fp) WNo ifs mc)
    (he : ∀ (s : Shared) (H : Hp) (C : Addr) (cl : List (Str × Addr)) (fp : List Addr), ME (X.blk s H scope (compEnvC scope cl C X.env) fp) WNo elt me) (hv : ∀ i ∈ is, i ∈ own.map (·.2)) (hs : ∀ x, foldedSetIterable iter X.env x = pure x := by intro _; rfl) :
    MS X Wx (.Assign [.Name y py] (.ListComp elt [⟨tg, iter, ifs, 0⟩] scope pos) spos) (mSetC i (mLc ms (own.map (·.2)) bd mc me)) :=
  ps_weak (ps_setLc (g := tMG X is bd) (tt := tMT X WNo mc) (te := tM X WNo me) hc hN hy hyl hsw hi ok hg ht he hs) fun D σ H ⟨β, ρ, h, er, s, L⟩ => by
    refine lc_weak (bd := bd) (mc := mc) (me := me) hv σ H (fun x H1 => D.nx (σ.set i (some x)) H1) ⟨β, ρ, h, er, s, ?_⟩
    refine ((Lands.bind (R' := fun β N H => Rels (wd X) β N H) (f := fun xs => (do let d ← alloc (.lst xs); pure (Fl.nx (ρ.set i (some d))) : Mo Fl)) L).mono fun vs H1 ⟨β1, h1, ds, s1, r1, A1, L1⟩ p hp => ?_).monoE fun C H' q => q σ er.1.2
    have A := Aft.alloc (o := .lst vs) (c := .lst ds) s1 hp ⟨vs, upd_same, bx_rels (s1.pext_laid hp) r1⟩
    refine L1 _ _ (.nx (σ.set i (some (.ref p)))) A ?_
    refine ER.set (A.er s1 (A1.er s er)) ?_
    unfold Rel
    exact ⟨by simp, by rw [bx_eq]⟩
theorem ms_setLcF {i : Nat} {y : Str} {py : Pos} {elt tg iter : Expr} {ifs : List Expr} {scope : Scope} {own : List (Str × Nat)} {pos spos : Pos} {is : List Nat} {ms : MSrc} {bd : Dat → Env' → Option Env'} {mc : Mb} {me : Mv} (hc : X.calm = true) (hN : X.N.Nodup) (hy : X.N[i]? = some y) (hyl : X.env.scope.names.lookup y = some .local)
    (hsw : swapsWith (.ListComp elt [⟨tg, iter, ifs, 0⟩] scope pos) (some (.Name y py)) spos.line X.env = pure true) (hi : MI X Wx tg iter ms) (ok : BlkOk X.N X.env.scope scope own)
    (hg : ∀ (s : Shared) (H : Hp) (C : Addr) (cl : List (Str × Addr)) (fp : List Addr), MG (X.blk s H scope (compEnvC scope cl C X.env) fp) tg is bd) (ht : ∀ (s : Shared) (H : Hp) (C : Addr) (cl : List (Str × Addr)) (fp : List Addr), MTs (X.blk s H scope (compEnvC scope cl C X.env) fp) WNo ifs mc)
    (he : ∀ (s : Shared) (H : Hp) (C : Addr) (cl : List (Str × Addr)) (fp : List Addr), ME (X.blk s H scope (compEnvC scope cl C X.env) fp) WNo elt me) (hv : ∀ i ∈ is, i ∈ own.map (·.2)) (hs : ∀ x, foldedSetIterable iter X.env x = pure x := by intro _; rfl) :
    MS X Wx (.Assign [.Name y py] (.ListComp elt [⟨tg, iter, ifs, 0⟩] scope pos) spos) (mSetF i (mLc ms (own.map (·.2)) bd mc me)) :=
  ps_weak (ps_frz (ps_setLc (g := tMG X is bd) (tt := tMT X WNo mc) (te := tM X WNo me) hc hN hy hyl hsw hi ok hg ht he hs)) fun D σ H ⟨β, ρ, h, er, s, L⟩ => by
    refine lc_weak (bd := bd) (mc := mc) (me := me) hv σ H (fun x H1 => ∃ S : Addr → Prop, (∀ a, S a → ∃ u, H1 a = some u ∧ Fzb u) ∧ ∀ H2, Fzn S H1 H2 → D.nx (σ.set i (some x)) H2) ⟨β, ρ, h, er, s, ?_⟩
    refine ((Lands.bind (R' := fun β N H => Rels (wd X) β N H) (f := fun xs => (pure (Fl.nx (ρ.set i (some (.lst xs)))) : Mo Fl)) L).mono fun vs H1 ⟨β1, h1, ds, s1, r1, A1, L1⟩ p hp => ?_).monoE fun C H' q => q σ er.1.2
    refine ⟨fun a => a = p, fun a e => ⟨.lst vs, by rw [e, upd_same], trivial⟩, fun H2 z => ?_⟩
    obtain ⟨o, rfl⟩ := Fzn.one (fun _ => Iff.rfl) hp z
    have A := Aft.laid (o := .frz o (.lst vs)) s1 hp
    refine L1 _ _ (.nx (σ.set i (some (.ref p)))) A ?_
    refine ER.set (A.er s1 (A1.er s er)) ?_
    unfold Rel
    exact ⟨p, vs, rfl, .inl ⟨o, upd_same⟩, A.rels s1 r1⟩
end

/-! ### defs -/
def spM (W : Wd) (n : Nat) (f : List Dat → Mo Dat) : Sp := fun vs H Q E => vs.length = n ∧ ∃ β h ds, Rels W β h.length H ds vs ∧ Sim W β H h ∧ Lands W (Rel W) β H h (f ds h) Q (fun C H' => E (.ref C) none H')
@[simp] def startE (l : Nat) (ds : List Dat) : Env' := ds.map some ++ List.replicate (l - ds.length) none
@[simp] def retOf : Fl → Mo Dat
  | .rt d => pure d
  | .nx _ => pure .non
  | _ => bad
@[simp] def runFn (l : Nat) (m : Ms) : List Dat → Mo Dat := fun ds => do let f ← m (startE l ds); retOf f
theorem start_er {W : Wd} {β : Nat → Addr} {n : Nat} {H : Hp} {N : List Str} {ds : List Dat} {vs : List V} (r : Rels W β n H ds vs) (hl : vs.length ≤ N.length) : ER W N.length β n H (startE N.length ds) (L2.start N vs) := by
  have hd := r.length
  refine ⟨⟨by unfold startE; simp; omega, by unfold L2.start; simp; omega⟩, fun i d e => ?_⟩
  unfold startE at e
  by_cases hi : i < ds.length
  · rw [List.getElem?_append_left (by simpa using hi), List.getElem?_map, List.getElem?_eq_getElem hi] at e
    cases e
    obtain ⟨v, hv, rv⟩ := r.get (List.getElem?_eq_getElem hi)
    refine ⟨v, ?_, rv⟩
    unfold L2.start
    rw [List.getElem?_append_left (by rw [List.length_map, ← hd]; exact hi), List.getElem?_map, hv]
    rfl
  · rw [List.getElem?_append_right (by simpa using Nat.le_of_not_lt hi)] at e
    obtain ⟨_, e⟩ := List.getElem?_eq_some_iff.mp e
    simp at e
/-- the wish of an exception of a def's body -/
abbrev WxE (E : XK) : WX := fun cls d _ H => E cls d H
theorem body_core {X : Cx} {m : Ms} {E : XK} {n : Nat} {vs : List V} {H : Hp} {Q : VK} (hl : n ≤ X.N.length) (q : spM (wd X) n (runFn X.N.length m) vs H Q E) : tMS X (WxE E) m { nx := fun _ H' => Q .non H', rt := Q } (L2.start X.N vs) H := by
  obtain ⟨hn, β, h, ds, r, s, L⟩ := q
  refine ⟨β, startE X.N.length ds, h, start_er r (by rw [hn]; exact hl), s, ?_⟩
  refine ((Lands.bind (R' := RFl (wd X) X.N.length) (f := retOf) L).mono fun x H1 ⟨β1, h1, f1, s1, r1, A1, L1⟩ => ?_).monoE fun C H' q σ' _ => q
  cases f1 with
  | nx ρ1 => cases x with
    | nx σ1 => exact Lands.ret (v := V.non) L1 s1 (by unfold Rel; rfl)
    | _ => exact r1.elim
  | rt d => cases x with
    | rt v => show Q v H1; exact Lands.ret (a := d) L1 s1 r1
    | _ => exact r1.elim
  | bk ρ1 => exact L1.elim
  | ct ρ1 => exact L1.elim
section
variable {P : Program} {w : World} {K : PySem.W.Frag} {mg : Str → Option Value} {base : Heap}
/-- a def, by its mirror -/
theorem fn_mir {x qual : Str} {st : Stmt} {f : Addr} {fd : FuncData} {N ps : List Str} {k : Nat} {m : Ms} (F : Fun K x qual st f fd) (S : FnScope N ps (defScope st)) (hl : ps.length ≤ N.length)
    (hbody : ∀ (cdv : Value) (A : Around) (outer : List Env) (s : Shared) (H : Hp) (E : XK), Room k (A.deeper (envOfC qual (defScope st) s.heap.objs.size f cdv)) →
      MSs (cxOf (L2.CX P w) P w K mg base N qual (defScope st) f cdv A outer s H E) (WxE E) (defBody st) m) :
    FnOk P w K mg base (L2.CX P w) (k + 1) f fd ps (spM ⟨P, w, K, mg⟩ ps.length (runFn N.length m)) :=
  F.okX S (fun vs H Q E q => q.1) fun cdv A outer s H vs Q E hr q => ⟨_, hbody cdv A outer s H E hr, body_core (X := cxOf (L2.CX P w) P w K mg base N qual (defScope st) f cdv A outer s H E) hl q⟩
end

/-! ### calls -/
@[simp] def mCall (f : List Dat → Mo Dat) (ms : Ml) : Mv := fun ρ => do let xs ← ms ρ; f xs
section
variable {X : Cx} {Wx : WX} {k n : Nat} {f : Addr} {fd : FuncData} {ps : List Str} {fm : List Dat → Mo Dat} {x : Str} {p pos : Pos} {e : Expr} {es : List Expr} {ms : Ml}
theorem call_core {σ : L2.St} {H : Hp} {Q : VK} (hn : n = ps.length) (q : tM X Wx (mCall fm ms) σ H Q) (F : FnOk X.prog X.w X.K X.mg X.base (L2.CX X.prog X.w) k f fd ps (spM (wd X) n fm)) (hlen : ∀ ρ h xs h', ms ρ h = .val xs h' → xs.length = n) :
    tMA X Wx ms σ H fun vs H1 => spM (wd X) n fm vs H1 Q (WE Wx σ) := by
  obtain ⟨β, ρ, h, er, s, L⟩ := q
  have L : Lands (wd X) (Rel (wd X)) β H h ((do let xs ← ms ρ; fm xs) h) Q (exW Wx σ) := L
  refine ⟨β, ρ, h, er, s, ?_⟩
  cases em : ms ρ h with
  | bad => rw [bnd_bad em] at L; exact L
  | exc c h' => rw [bnd_exc em] at L; exact L
  | val xs h1 =>
    rw [bnd_val em] at L
    exact fun β1 H1 vs A r => ⟨by rw [← r.length]; exact hlen _ _ _ _ em, β1, h1, xs, r, A.sim, L.after A⟩
/-- argument lists have their length -/
def LenM (ms : Ml) (n : Nat) : Prop := ∀ ρ h xs h', ms ρ h = .val xs h' → xs.length = n
theorem len_nil : LenM mNil 0 := fun ρ h xs h' e => by cases e; rfl
theorem len_cons {ma : Mv} {ms : Ml} {n : Nat} (hm : LenM ms n) : LenM (mCons ma ms) (n + 1) := fun ρ h xs h' e => by
  have e : (do let x ← ma ρ; let xs ← ms ρ; pure (x :: xs) : Mo (List Dat)) h = .val xs h' := e
  cases e1 : ma ρ h with
  | bad => rw [bnd_bad e1] at e; cases e
  | exc c h1 => rw [bnd_exc e1] at e; cases e
  | val a h1 =>
    rw [bnd_val e1] at e
    cases e2 : ms ρ h1 with
    | bad => rw [bnd_bad e2] at e; cases e
    | exc c h1 => rw [bnd_exc e2] at e; cases e
    | val as h2 =>
      rw [bnd_val e2] at e
      cases e
      simp [hm _ _ _ _ e2]
theorem me_call (F : FnOk X.prog X.w X.K X.mg X.base (L2.CX X.prog X.w) k f fd ps (spM (wd X) n fm)) (hn : n = ps.length) (hr : Room k X.A) (hg : Gl X x) (hm : X.mg x = some (.ref f)) (hk : PySem.W.keepIn X.K (.ref f) = true) (hb : Binds X.K fd ps []) (tk : Takes X Wx)
    (ha : MA X Wx (e :: es) ms) (hlen : LenM ms n) (hdb : (x == ("__debug__" : Str)) = false := by decide) (he : starEach (e :: es) X.env = (false, eval e X.env) :: starEach es X.env := by rfl) (hpl : (backTo pos (starEach es X.env)).any (·.1) = false := by rfl) :
    ME X Wx (.Call (.Name x p) (e :: es) [] pos) (mCall fm ms) :=
  pe_weak (pe_callS F hr hg hm hk hb (E := WE Wx) (fun σ => passAt tk σ) ha hdb he hpl) fun σ H Q q => call_core hn q F hlen
end

/-! ### closing a def: its own cells go, what it gives is frozen -/
mutual
def thaw (N : Nat) (h : Hm) : Nat → Dat → Option Dat
  | _, .non => some .non
  | _, .bl b => some (.bl b)
  | _, .int i => some (.int i)
  | _, .str x => some (.str x)
  | 0, _ => none
  | k + 1, .tup xs => (thaws N h k xs).map .tup
  | k + 1, .lst xs => (thaws N h k xs).map .lst
  | k + 1, .dct t ks vs => match thaws N h k ks, thaws N h k vs with
    | some a, some b => if ks = a then some (.dct t a b) else none
    | _, _ => none
  | k + 1, .ref n => if n < N then some (.ref n) else match h[n]? with
    | some (.lst xs) => (thaws N h k xs).map .lst
    | some (.dct t _ kvs) => match thaws N h k (kvs.map (·.1)), thaws N h k (kvs.map (·.2)) with
      | some a, some b => if kvs.map (·.1) = a then some (.dct t a b) else none
      | _, _ => none
    | _ => none
  | _ + 1, .exn _ => none
def thaws (N : Nat) (h : Hm) : Nat → List Dat → Option (List Dat)
  | _, [] => some []
  | k, d :: ds => match thaw N h k d, thaws N h k ds with
    | some a, some as => some (a :: as)
    | _, _ => none
end
/-- the cells from N on that may be frozen -/
def Own (β : Nat → Addr) (N : Nat) (h : Hm) (a : Addr) : Prop := ∃ n, N ≤ n ∧ β n = a ∧ ((∃ xs, h[n]? = some (.lst xs)) ∨ ∃ t v kvs, h[n]? = some (.dct t v kvs))
section
variable {W : Wd} {β : Nat → Addr} {H H2 : Hp} {h : Hm} {N : Nat}
theorem own_fz (s : Sim W β H h) : ∀ a, Own β N h a → ∃ u, H a = some u ∧ Fzb u := fun a ⟨n, hn, e, q⟩ => by
  subst e
  rcases q with ⟨xs, q⟩ | ⟨t, v, kvs, q⟩
  · obtain ⟨vs, k, _⟩ := s.cell n _ q
    exact ⟨_, k, trivial⟩
  · obtain ⟨o, ns, ks, vs, k, _⟩ := s.cell n _ q
    exact ⟨_, k, trivial⟩
theorem FzL.fzn {K : PySem.W.Frag} {S : Addr → Prop} {a : Addr} {vs : List V} (z : Fzn S H H2) (k : FzL K H a vs) : FzL K H2 a vs := by
  rcases k with ⟨o, k⟩ | k
  · exact .inl ⟨o, z.nofrz k (fun f => f)⟩
  · exact .inr k
theorem FzT.fzn {K : PySem.W.Frag} {S : Addr → Prop} {a : Addr} {vs : List V} (z : Fzn S H H2) (k : FzT K H a vs) : FzT K H2 a vs := by
  rcases k with k | k
  · exact .inl (z.nofrz k (fun f => f))
  · exact .inr k
theorem opt_map {α γ : Type} {o : Option α} {g : α → γ} {y : γ} (e : o.map g = some y) : ∃ x, o = some x ∧ g x = y := by
  cases o with
  | none => cases e
  | some x => exact ⟨x, rfl, Option.some.inj e⟩
mutual
theorem thaw_rel (s : Sim W β H h) (hN : N ≤ h.length) (z : Fzn (Own β N h) H H2) : ∀ (k : Nat) (d d' : Dat) (v : V), thaw N h k d = some d' → Rel W β h.length H d v → Rel W β N H2 d' v
  | k, .non, d', v, e, r => by
    have : d' = .non := by unfold thaw at e; exact (Option.some.inj e).symm
    subst this; unfold Rel at r ⊢; exact r
  | k, .bl b, d', v, e, r => by
    have : d' = .bl b := by unfold thaw at e; exact (Option.some.inj e).symm
    subst this; unfold Rel at r ⊢; exact r
  | k, .int b, d', v, e, r => by
    have : d' = .int b := by unfold thaw at e; exact (Option.some.inj e).symm
    subst this; unfold Rel at r ⊢; exact r
  | k, .str b, d', v, e, r => by
    have : d' = .str b := by unfold thaw at e; exact (Option.some.inj e).symm
    subst this; unfold Rel at r ⊢; exact r
  | 0, .tup _, d', v, e, r => by unfold thaw at e; cases e
  | 0, .lst _, d', v, e, r => by unfold thaw at e; cases e
  | 0, .dct _ _ _, d', v, e, r => by unfold thaw at e; cases e
  | 0, .ref _, d', v, e, r => by unfold thaw at e; cases e
  | 0, .exn _, d', v, e, r => by unfold thaw at e; cases e
  | k + 1, .exn _, d', v, e, r => by unfold thaw at e; cases e
  | k + 1, .tup xs, d', v, e, r => by
    unfold thaw at e
    obtain ⟨ys, e1, rfl⟩ := opt_map e
    unfold Rel at r ⊢
    obtain ⟨a, vs, rfl, q, rs⟩ := r
    exact ⟨a, vs, rfl, q.fzn z, thaws_rel s hN z k xs ys vs e1 rs⟩
  | k + 1, .lst xs, d', v, e, r => by
    unfold thaw at e
    obtain ⟨ys, e1, rfl⟩ := opt_map e
    unfold Rel at r ⊢
    obtain ⟨a, vs, rfl, q, rs⟩ := r
    exact ⟨a, vs, rfl, q.fzn z, thaws_rel s hN z k xs ys vs e1 rs⟩
  | k + 1, .dct t ks xs, d', v, e, r => by
    unfold thaw at e
    split at e
    · rename_i a b e1 e2
      by_cases hk : ks = a
      · rw [if_pos hk] at e
        cases e
        unfold Rel at r ⊢
        obtain ⟨p, o, od, ns, kvs, vs, e3, h1, h2, h3, h4, h5⟩ := r
        refine ⟨p, o, od, ns, kvs, vs, e3, z.nofrz h1 (fun f => f), thaws_rel s hN z k ks a kvs e1 h2, thaws_rel s hN z k xs b vs e2 h3, ?_, hk ▸ h5⟩
        have l1 := (thaws_rel s hN z k ks a kvs e1 h2).length
        have l2 := (thaws_rel s hN z k xs b vs e2 h3).length
        rw [l1, l2, ← h2.length, ← h3.length, h4]
      · rw [if_neg hk] at e; cases e
    · cases e
  | k + 1, .ref n, d', v, e, r => by
    unfold Rel at r
    obtain ⟨hn, rfl⟩ := r
    unfold thaw at e
    by_cases c : n < N
    · rw [if_pos c] at e
      cases e
      unfold Rel
      exact ⟨c, rfl⟩
    · rw [if_neg c] at e
      have c := Nat.le_of_not_lt c
      split at e
      · rename_i xs q
        obtain ⟨ys, e1, rfl⟩ := opt_map e
        obtain ⟨vs, k1, rs⟩ := s.cell n _ q
        obtain ⟨o, u, e2, _, e3⟩ := (z (β n)).2 ⟨n, c, rfl, .inl ⟨xs, q⟩⟩
        rw [k1] at e2
        cases e2
        unfold Rel
        exact ⟨β n, vs, rfl, .inl ⟨o, e3⟩, thaws_rel s hN z k xs ys vs e1 rs⟩
      · rename_i t ve kvs q
        split at e
        · rename_i a b e1 e2
          by_cases hk : kvs.map (·.1) = a
          · rw [if_pos hk] at e
            cases e
            obtain ⟨od, ns, ks, vs, k1, h2, h3, h5⟩ := s.cell n _ q
            obtain ⟨o, u, e4, _, e3⟩ := (z (β n)).2 ⟨n, c, rfl, .inr ⟨t, ve, kvs, q⟩⟩
            rw [k1] at e4
            cases e4
            have r1 := thaws_rel s hN z k _ a ks e1 h2
            have r2 := thaws_rel s hN z k _ b vs e2 h3
            unfold Rel
            refine ⟨β n, o, od, ns, ks, vs, rfl, e3, r1, r2, ?_, hk ▸ h5⟩
            rw [r1.length, r2.length, ← h2.length, ← h3.length]
            simp
          · rw [if_neg hk] at e; cases e
        · cases e
      · cases e
theorem thaws_rel (s : Sim W β H h) (hN : N ≤ h.length) (z : Fzn (Own β N h) H H2) : ∀ (k : Nat) (ds ds' : List Dat) (vs : List V), thaws N h k ds = some ds' → Rels W β h.length H ds vs → Rels W β N H2 ds' vs
  | k, [], ds', vs, e, r => by
    unfold thaws at e
    cases e
    unfold Rels at r ⊢
    exact r
  | k, d :: ds, ds', vs, e, r => by
    unfold thaws at e
    split at e
    · rename_i a as e1 e2
      cases e
      unfold Rels at r ⊢
      obtain ⟨v, us, rfl, r1, r2⟩ := r
      exact ⟨v, us, rfl, thaw_rel s hN z k d a v e1 r1, thaws_rel s hN z k ds as us e2 r2⟩
    · cases e
end
end
end Mir
end

section
set_option Elab.async false
set_option linter.all false
set_option maxRecDepth 100000
/-! Mir15: closing a def. -/
namespace Mir
open PySem PySem.Spec
open PyProof.Rows L2
section
variable {W : Wd} {β β1 : Nat → Addr} {N N1 : Nat} {H H1 H2 : Hp} {S : Addr → Prop}
mutual
theorem Rel.low : ∀ (d : Dat) (v u : V), Rel W β N H d v → Rel W β1 N1 H1 d u → Rel W β1 N H1 d u
  | .non, v, u, a, b => by unfold Rel at b ⊢; exact b
  | .bl _, v, u, a, b => by unfold Rel at b ⊢; exact b
  | .int _, v, u, a, b => by unfold Rel at b ⊢; exact b
  | .str _, v, u, a, b => by unfold Rel at b ⊢; exact b
  | .exn _, v, u, a, b => by unfold Rel at b ⊢; exact b
  | .ref _, v, u, a, b => by unfold Rel at a b ⊢; exact ⟨a.1, b.2⟩
  | .tup xs, v, u, a, b => by
    unfold Rel at a b ⊢
    obtain ⟨_, vs, _, _, r⟩ := a
    obtain ⟨p, us, e, k, q⟩ := b
    exact ⟨p, us, e, k, Rels.low xs vs us r q⟩
  | .lst xs, v, u, a, b => by
    unfold Rel at a b ⊢
    obtain ⟨_, vs, _, _, r⟩ := a
    obtain ⟨p, us, e, k, q⟩ := b
    exact ⟨p, us, e, k, Rels.low xs vs us r q⟩
  | .dct t ks xs, v, u, a, b => by
    unfold Rel at a b ⊢
    obtain ⟨_, _, _, _, kvs, vs, _, _, r1, r2, _, _⟩ := a
    obtain ⟨p, o, od, ns, kus, us, e, k, q1, q2, l, pk⟩ := b
    exact ⟨p, o, od, ns, kus, us, e, k, Rels.low ks kvs kus r1 q1, Rels.low xs vs us r2 q2, l, pk⟩
theorem Rels.low : ∀ (ds : List Dat) (vs us : List V), Rels W β N H ds vs → Rels W β1 N1 H1 ds us → Rels W β1 N H1 ds us
  | [], vs, us, a, b => by unfold Rels at b ⊢; exact b
  | d :: ds, vs, us, a, b => by
    unfold Rels at a b ⊢
    obtain ⟨v, r, _, h1, h2⟩ := a
    obtain ⟨u, q, e, k1, k2⟩ := b
    exact ⟨u, q, e, Rel.low d v u h1 k1, Rels.low ds r q h2 k2⟩
end
mutual
theorem Rel.fzn (z : Fzn S H H2) : ∀ (d : Dat) (v : V), Rel W β N H d v → Rel W β N H2 d v
  | .non, v, b => by unfold Rel at b ⊢; exact b
  | .bl _, v, b => by unfold Rel at b ⊢; exact b
  | .int _, v, b => by unfold Rel at b ⊢; exact b
  | .str _, v, b => by unfold Rel at b ⊢; exact b
  | .exn _, v, b => by unfold Rel at b ⊢; exact b
  | .ref _, v, b => by unfold Rel at b ⊢; exact b
  | .tup xs, v, b => by
    unfold Rel at b ⊢
    obtain ⟨p, us, e, k, q⟩ := b
    exact ⟨p, us, e, k.fzn z, Rels.fzn z xs us q⟩
  | .lst xs, v, b => by
    unfold Rel at b ⊢
    obtain ⟨p, us, e, k, q⟩ := b
    exact ⟨p, us, e, k.fzn z, Rels.fzn z xs us q⟩
  | .dct t ks xs, v, b => by
    unfold Rel at b ⊢
    obtain ⟨p, o, od, ns, kus, us, e, k, q1, q2, l, pk⟩ := b
    exact ⟨p, o, od, ns, kus, us, e, z.nofrz k (fun f => f), Rels.fzn z ks kus q1, Rels.fzn z xs us q2, l, pk⟩
theorem Rels.fzn (z : Fzn S H H2) : ∀ (ds : List Dat) (vs : List V), Rels W β N H ds vs → Rels W β N H2 ds vs
  | [], vs, b => by unfold Rels at b ⊢; exact b
  | d :: ds, vs, b => by
    unfold Rels at b ⊢
    obtain ⟨u, q, e, k1, k2⟩ := b
    exact ⟨u, q, e, Rel.fzn z d u k1, Rels.fzn z ds q k2⟩
end
end
theorem close_aft {W : Wd} {β β1 : Nat → Addr} {H H1 H2 : Hp} {h h1 : Hm} {S : Addr → Prop} (s : Sim W β H h) (A : Aft W β H h β1 H1 h1) (tk : h1.take h.length = h) (z : Fzn S H1 H2) (hS : ∀ a, S a → Own β1 h.length h1 a) : Aft W β H h β1 H2 h := by
  have up : ∀ (n : Nat) c, h[n]? = some c → h1[n]? = some c := fun n c e => by
    have hn : n < h.length := (List.getElem?_eq_some_iff.mp e).1
    rw [← tk, List.getElem?_take_of_lt (hn)] at e
    exact e
  have nS : ∀ (n : Nat) c, h[n]? = some c → c ≠ .dead → H2 (β1 n) = H1 (β1 n) := fun n c e d => (z (β1 n)).1 fun q => by
    obtain ⟨m, hm, e1, q⟩ := hS _ q
    have hn : n < h.length := (List.getElem?_eq_some_iff.mp e).1
    have : m = n := by
      rcases q with ⟨xs, q⟩ | ⟨t, v, kvs, q⟩
      · exact A.sim.inj m n _ c q (by simp) (up n c e) d e1
      · exact A.sim.inj m n _ c q (by simp) (up n c e) d e1
    omega
  refine ⟨Nat.le_refl _, A.agree, ⟨fun n c e => ?_, fun n m c d e1 d1 e2 d2 q => A.sim.inj n m c d (up n c e1) d1 (up m d e2) d2 q⟩, fun a o e nl => ?_, fun n e => e, fun n c hn e _ => ?_, fun a e => ?_, fun n t v kvs c' e e' => ?_⟩
  · have c0 := s.cell n c e
    have c1 := A.sim.cell n c (up n c e)
    cases c with
    | lst xs =>
      obtain ⟨vs, _, r0⟩ := c0
      obtain ⟨us, k, r1⟩ := c1
      exact ⟨us, (nS n _ e (by simp)).trans k, (Rels.low _ _ _ r0 r1).fzn z⟩
    | dct t v kvs =>
      obtain ⟨_, _, ks, vs, _, r0, q0, _⟩ := c0
      obtain ⟨o, ns, ks1, us, k, r1, q1, pk⟩ := c1
      exact ⟨o, ns, ks1, us, (nS n _ e (by simp)).trans k, (Rels.low _ _ _ r0 r1).fzn z, (Rels.low _ _ _ q0 q1).fzn z, pk⟩
    | ins c fs =>
      obtain ⟨C, dx, vs, _, _, r0⟩ := c0
      obtain ⟨C1, dx1, us, g, k, r1⟩ := c1
      exact ⟨C1, dx1, us, g, (nS n _ e (by simp)).trans k, (Rels.low _ _ _ r0 r1).fzn z⟩
    | dead => trivial
  · have e1 := A.rest a o e nl
    rw [(z a).1 fun q => ?_]
    · exact e1
    · obtain ⟨m, hm, e2, q'⟩ := hS _ q
      subst e2
      have : H (β1 m) = none := by
        rcases q' with ⟨xs, q⟩ | ⟨t, v, kvs, q⟩
        · exact A.fresh m _ hm q (by simp)
        · exact A.fresh m _ hm q (by simp)
      rw [this] at e; cases e
  · rw [List.getElem?_eq_none hn] at e; cases e
  · have e1 := A.keep a e
    by_cases q : S a
    · obtain ⟨o, u, _, _, e2⟩ := (z a).2 q
      rw [e2]; simp
    · rw [(z a).1 q]; exact e1
  · rw [e] at e'
    cases e'
    refine .inr ⟨t, v, kvs, rfl, Nat.le_refl _, fun _ => ⟨rfl, rfl, ?_⟩⟩
    rw [nS n _ e (by simp)]
    rcases A.vers n t v kvs _ e (up n _ e) with k | ⟨t', v', kvs', e1, _, e3⟩
    · cases k
    · cases e1
      exact (e3 rfl).2.2
def closeM (f : List Dat → Mo Dat) : List Dat → Mo Dat := fun ds h => match f ds h with
  | .val d h1 => if h1.take h.length = h then (match thaw h.length h1 30 d with
    | some d' => .val d' h
    | none => .bad) else .bad
  | .exc c h1 => if h1.take h.length = h then .exc c h else .bad
  | .bad => .bad
theorem close_core {W : Wd} {f : List Dat → Mo Dat} {β : Nat → Addr} {H : Hp} {h : Hm} {ds : List Dat} {Q : VK} {E : Addr → Hp → Prop} (s : Sim W β H h) (L : Lands W (Rel W) β H h (closeM f ds h) Q E) :
    Lands W (Rel W) β H h (f ds h) (fun v H1 => ∃ S : Addr → Prop, (∀ a, S a → ∃ u, H1 a = some u ∧ Fzb u) ∧ ∀ H2, Fzn S H1 H2 → Q v H2) E := by
  unfold closeM at L
  cases e : f ds h with
  | bad => rw [e] at L; exact L
  | exc c h1 =>
    rw [e] at L
    simp only at L
    by_cases tk : h1.take h.length = h
    · rw [if_pos tk] at L
      exact fun β' H' C A g => L β' H' C (close_aft s A tk (S := fun _ => False) (fun a => ⟨fun _ => rfl, fun q => q.elim⟩) fun a q => q.elim) g
    · rw [if_neg tk] at L; exact L.elim
  | val d h1 =>
    rw [e] at L
    simp only at L
    by_cases tk : h1.take h.length = h
    · rw [if_pos tk] at L
      cases et : thaw h.length h1 30 d with
      | none => rw [et] at L; exact L.elim
      | some d' =>
        rw [et] at L
        exact fun β' H' v A r => ⟨Own β' h.length h1, own_fz A.sim, fun H2 z => L β' H2 v (close_aft s A tk z fun _ q => q) (thaw_rel A.sim A.len z 30 d d' v et r)⟩
    · rw [if_neg tk] at L; exact L.elim
theorem fn_close {P : Program} {w : World} {K : PySem.W.Frag} {mg : Str → Option Value} {base : Heap} {k n : Nat} {f : Addr} {fd : FuncData} {ps : List Str} {fm : List Dat → Mo Dat} (hn : n = ps.length)
    (F : FnOk P w K mg base (L2.CX P w) k f fd ps (spM ⟨P, w, K, mg⟩ n fm)) : FnOk P w K mg base (L2.CX P w) k f fd ps (spM ⟨P, w, K, mg⟩ n (closeM fm)) :=
  (fn_frz F fun vs H Q E q => q.1.trans hn).imp fun vs H Q E ⟨h1, β, h, ds, r, s, L⟩ => ⟨h1, β, h, ds, r, s, close_core s L⟩
/-- by equal mirrors: on what is a value -/
theorem fn_eq {P : Program} {w : World} {K : PySem.W.Frag} {mg : Str → Option Value} {base : Heap} {k n : Nat} {f : Addr} {fd : FuncData} {ps : List Str} {fm gm : List Dat → Mo Dat} (F : FnOk P w K mg base (L2.CX P w) k f fd ps (spM ⟨P, w, K, mg⟩ n fm)) (h : ∀ ds hm, gm ds hm = .bad ∨ fm ds hm = gm ds hm) :
    FnOk P w K mg base (L2.CX P w) k f fd ps (spM ⟨P, w, K, mg⟩ n gm) := F.imp fun vs H Q E ⟨h1, β, hm, ds, r, s, L⟩ => by
  refine ⟨h1, β, hm, ds, r, s, ?_⟩
  rcases h ds hm with e | e
  · rw [e] at L; exact L.elim
  · rw [e]; exact L
end Mir
end

section
set_option Elab.async false
set_option linter.all false
set_option maxRecDepth 100000
/-! Mir16: subscripts, in, ==; try .. except .. as e; isinstance of the exception. -/
namespace Mir
open PySem PySem.Spec
open PyProof.Rows L2
section
variable {X : Cx} {Wx : WX} {a b : Expr} {ma mb : Mv} {pos : Pos}
@[simp] def mIx (ma mb : Mv) : Mv := fun ρ => mBin ixSq ma mb ρ
theorem me_ix (ha : ME X Wx a ma) (hb : ME X Wx b mb) (hs : PlainIx b := by intro _ _; rfl) : ME X Wx (.Subscript a b pos) (mIx ma mb) :=
  pe_weak (pe_ix ix_seq ha hb hs) fun σ H Q ⟨β, ρ, h, er, s, L⟩ => two (f := ixSq) er s L fun β2 H2 h2 d1 d2 x y s2 r1 r2 L2 => Lands.ixM L2 s2 r1 r2
/-! ### in -/
@[simp] def cInT (x y : Dat) : Mo Bool := do let z ← strOf y; let b ← signIn x z; pure b
@[simp] def cNinT (x y : Dat) : Mo Bool := do let z ← strOf y; let b ← signIn x z; pure (!b)
def cIn (x y : Dat) : Mo Bool := do let b ← memD x y; pure b
def cNin (x y : Dat) : Mo Bool := do let b ← memD x y; pure (!b)
theorem opM_inT {W : Wd} : OpMB W cInT (fun x y H Q => ∃ (c : Nat) (z : Str), x = .str ⟨#[c]⟩ ∧ y = .str z ∧ Q (.bl (decide (c ∈ z.cps.toList))) H) := fun β H h d1 d2 x y Q E s r1 r2 L => by
  obtain ⟨z, e2, L1⟩ := Lands.strB L r2
  have L1 : Lands W EqB β H h ((signIn d1 z >>= pure) h) Q E := by rw [bind_pure]; exact L1
  obtain ⟨c, e1, L2⟩ := Lands.signB (f := pure) L1 r1
  exact ⟨c, z, e1, e2, _, rfl, L2.ret s rfl⟩
theorem opM_ninT {W : Wd} : OpMB W cNinT (fun x y H Q => ∃ (c : Nat) (z : Str), x = .str ⟨#[c]⟩ ∧ y = .str z ∧ Q (.bl (!decide (c ∈ z.cps.toList))) H) := fun β H h d1 d2 x y Q E s r1 r2 L => by
  obtain ⟨z, e2, L1⟩ := Lands.strB L r2
  obtain ⟨c, e1, L2⟩ := Lands.signB (f := fun b => pure (!b)) L1 r1
  exact ⟨c, z, e1, e2, _, rfl, L2.ret s rfl⟩
theorem opM_in {W : Wd} : OpMB W cIn (rInS W.K false) := fun β H h d1 d2 x y Q E s r1 r2 L => by
  have L : Lands W EqB β H h ((memD d1 d2 >>= pure) h) Q E := by rw [bind_pure]; exact L
  obtain ⟨p, xs, d, ds, e, k1, k2, k3, s1, s2, L2⟩ := Lands.memB (f := pure) L s r1 r2
  exact ⟨p, xs, d, ds, e, k1, k2, k3, s1, s2, _, rfl, by
    have : (false != ds.any fun e => PyData.eqv e d) = ds.any fun e => PyData.eqv e d := by cases ds.any fun e => PyData.eqv e d <;> rfl
    rw [this]
    exact L2.ret s rfl⟩
theorem opM_nin {W : Wd} : OpMB W cNin (rInS W.K true) := fun β H h d1 d2 x y Q E s r1 r2 L => by
  obtain ⟨p, xs, d, ds, e, k1, k2, k3, s1, s2, L2⟩ := Lands.memB (f := fun b => pure (!b)) L s r1 r2
  exact ⟨p, xs, d, ds, e, k1, k2, k3, s1, s2, _, rfl, by
    have : (true != ds.any fun e => PyData.eqv e d) = !ds.any fun e => PyData.eqv e d := by cases ds.any fun e => PyData.eqv e d <;> rfl
    rw [this]
    exact L2.ret s rfl⟩
theorem me_inT (ha : ME X Wx a ma) (hb : ME X Wx b mb) (hm : behindInMarks .In b = false := by rfl) : ME X Wx (.Compare a [.In] [b] pos) (mCmp cInT ma mb) := me_cmp op_in_sign opM_inT ha hb hm
theorem mt_inT (ha : ME X Wx a ma) (hb : ME X Wx b mb) (hm : behindInMarks .In b = false := by rfl) : MT X Wx (.Compare a [.In] [b] pos) (mCmpT cInT ma mb) := mt_cmp op_in_sign opM_inT ha hb hm
theorem me_ninT (ha : ME X Wx a ma) (hb : ME X Wx b mb) (hm : behindInMarks .NotIn b = false := by rfl) : ME X Wx (.Compare a [.NotIn] [b] pos) (mCmp cNinT ma mb) := me_cmp op_notIn_sign opM_ninT ha hb hm
theorem mt_ninT (ha : ME X Wx a ma) (hb : ME X Wx b mb) (hm : behindInMarks .NotIn b = false := by rfl) : MT X Wx (.Compare a [.NotIn] [b] pos) (mCmpT cNinT ma mb) := mt_cmp op_notIn_sign opM_ninT ha hb hm
theorem me_in (hu : X.A.units + 65 < cLine) (ha : ME X Wx a ma) (hb : ME X Wx b mb) (hm : behindInMarks .In b = false := by rfl) : ME X Wx (.Compare a [.In] [b] pos) (mCmp cIn ma mb) := me_cmp (op_inS hu) opM_in ha hb hm
theorem mt_in (hu : X.A.units + 65 < cLine) (ha : ME X Wx a ma) (hb : ME X Wx b mb) (hm : behindInMarks .In b = false := by rfl) : MT X Wx (.Compare a [.In] [b] pos) (mCmpT cIn ma mb) := mt_cmp (op_inS hu) opM_in ha hb hm
theorem me_nin (hu : X.A.units + 65 < cLine) (ha : ME X Wx a ma) (hb : ME X Wx b mb) (hm : behindInMarks .NotIn b = false := by rfl) : ME X Wx (.Compare a [.NotIn] [b] pos) (mCmp cNin ma mb) := me_cmp (op_ninS hu) opM_nin ha hb hm
theorem mt_nin (hu : X.A.units + 65 < cLine) (ha : ME X Wx a ma) (hb : ME X Wx b mb) (hm : behindInMarks .NotIn b = false := by rfl) : MT X Wx (.Compare a [.NotIn] [b] pos) (mCmpT cNin ma mb) := mt_cmp (op_ninS hu) opM_nin ha hb hm
theorem me_eq (hu : X.A.units + 64 < cLine) (ha : ME X Wx a ma) (hb : ME X Wx b mb) : ME X Wx (.Compare a [.Eq] [b] pos) (mCmp cEqD ma mb) := me_cmp (op_eqD hu) opM_eqD ha hb (nomark _)
theorem mt_eq (hu : X.A.units + 64 < cLine) (ha : ME X Wx a ma) (hb : ME X Wx b mb) : MT X Wx (.Compare a [.Eq] [b] pos) (mCmpT cEqD ma mb) := mt_cmp (op_eqD hu) opM_eqD ha hb (nomark _)
theorem me_ne (hu : X.A.units + 64 < cLine) (ha : ME X Wx a ma) (hb : ME X Wx b mb) : ME X Wx (.Compare a [.NotEq] [b] pos) (mCmp cNeD ma mb) := me_cmp (op_neD hu) opM_neD ha hb (nomark _)
theorem mt_ne (hu : X.A.units + 64 < cLine) (ha : ME X Wx a ma) (hb : ME X Wx b mb) : MT X Wx (.Compare a [.NotEq] [b] pos) (mCmpT cNeD ma mb) := mt_cmp (op_neD hu) opM_neD ha hb (nomark _)
end

/-! ### try -/
def blank (l : Nat) : Env' := List.replicate l none
@[simp] def outFl (i : Nat) : Fl → Fl
  | .nx ρ => .nx (ρ.set i none)
  | .bk ρ => .bk (ρ.set i none)
  | .ct ρ => .ct (ρ.set i none)
  | .rt d => .rt d
def mTry (l i : Nat) (hs : List (Str × (Addr → Ms))) (m : Ms) : Ms := fun ρ h => match m ρ h with
  | .exc c h' => (match hs.lookup c with
    | some mh => (do let f ← noX (mh 0 ((blank l).set i (some (.exn 0)))); pure (outFl i f)) h'
    | none => .bad)
  | r => r
theorem lookup_mem {α : Type} {c : Str} {x : α} : ∀ {hs : List (Str × α)}, hs.lookup c = some x → (c, x) ∈ hs
  | [], h => by cases h
  | (a, y) :: hs, h => by
    rw [List.lookup_cons] at h
    by_cases e : c == a
    · rw [e] at h
      cases h
      rw [eq_of_beq e]
      exact List.mem_cons_self
    · rw [Bool.not_eq_true] at e
      rw [e] at h
      exact List.mem_cons_of_mem _ (lookup_mem h)
theorem blank_er {W : Wd} {l : Nat} {β : Nat → Addr} {N : Nat} {H : Hp} {σ : L2.St} (hl : σ.length = l) : ER W l β N H (blank l) σ := by
  refine ⟨⟨by unfold blank; simp, hl⟩, fun i d e => ?_⟩
  unfold blank at e
  obtain ⟨_, e⟩ := List.getElem?_eq_some_iff.mp e
  simp at e
section
variable {X : Cx} {Wx : WX} {x n : Str} {C : Value} {i : Nat} {body suite : List Stmt} {b₀ : Stmt} {np pos pos' : Pos}
/-- a clause's way with an exception of the class c -/
def TryC (X : Cx) (C : Value) (i l : Nat) (suite : List Stmt) (p : Str × (Addr → Ms)) : Prop :=
  ∃ D0, X.mg p.1 = some (.ref D0) ∧ (∀ (a : Addr) (oe : Obj) (pn : List (Addr × Obj)), Zc (.ref D0) none oe → (∃ vs, oe.data = .fields vs) → MSs (X.suite a ((a, oe) :: pn)) WNo suite (p.2 a)) ∧ PySem.W.exmOne X.K (.ref D0) C = some true ∧
    ∀ a h, p.2 a ((blank l).set i (some (.exn a))) h = p.2 0 ((blank l).set i (some (.exn 0))) h
def TryCs (X : Cx) (C : Value) (i l : Nat) (suite : List Stmt) (hs : List (Str × (Addr → Ms))) : Prop := ∀ p ∈ hs, TryC X C i l suite p
theorem tc_nil {l : Nat} : TryCs X C i l suite [] := fun _ h => absurd h (by simp)
theorem tc_cons {l : Nat} {p : Str × (Addr → Ms)} {hs : List (Str × (Addr → Ms))} (h : TryC X C i l suite p) (t : TryCs X C i l suite hs) : TryCs X C i l suite (p :: hs) := fun q hq => by
  rcases List.mem_cons.mp hq with e | e
  · rw [e]; exact h
  · exact t q e
theorem ms_try {m : Ms} {hms : List (Str × (Addr → Ms))} {l : Nat} (hl : l = X.N.length) (hs : X.stack = X.env :: X.outer) (hf : X.env.frame = some X.env.locals) (hN : X.N.Nodup) (hi : X.N[i]? = some n) (hln : X.env.kindOf n = some .local) (hc : Names X x C) (tk : Takes X Wx)
    (hb : ∀ (W : WX) (pn : List (Addr × Obj)) (xe : Value → Shared → Prop), Takes (X.tr pn xe) W → PassesOwn (model X.prog X.w) X.A X.env xe → MSs (X.tr pn xe) W body m)
    (hsu : TryCs X C i l (b₀ :: suite) hms) :
    MS X Wx (.Try body [.ExceptHandler (some (.Name x np)) (some n) (b₀ :: suite) pos'] [] [] pos) (mTry l i hms m) := by
  let ts : Addr → Value → Option Addr → TS := fun a cls d D σ H => ∃ p D0, p ∈ hms ∧ X.mg p.1 = some (.ref D0) ∧ cls = .ref D0 ∧ d = none ∧ tMS X WNo (p.2 a) D σ H
  have hsu' : ∀ (a : Addr) (oe : Obj) (cls : Value) (d : Option Addr) (pn : List (Addr × Obj)), Zc cls d oe → (∃ vs, oe.data = .fields vs) → PSs (X.suite a ((a, oe) :: pn)) (b₀ :: suite) (ts a cls d) := fun a oe cls d pn hz hfl =>
    ⟨fun pins s σ H D I ⟨p, D0, hm, g, e1, e2, q⟩ => by
      subst e1 e2
      obtain ⟨D1, g1, k1, _⟩ := hsu p hm
      rw [g] at g1
      cases g1
      exact (k1 a oe pn hz hfl).run pins s σ H D I q⟩
  refine ps_weak (ps_try_as (tb := fun W => tMS X W m) (ts := ts) (Wout := Wx) hs hf hN hi hln hc tk (fun W pn xe t p => hb W pn xe t p) hsu') fun D σ H ⟨β, ρ, h, er, s, L⟩ => ⟨β, ρ, h, er, s, ?_⟩
  have L : LandsS X Wx D β H h (mTry l i hms m ρ h) := L
  unfold mTry at L
  cases em : m ρ h with
  | bad => rw [em] at L; exact L
  | val f h' => rw [em] at L; exact L
  | exc c h' =>
    rw [em] at L
    simp only at L
    cases el : hms.lookup c with
    | none => rw [el] at L; exact L.elim
    | some mh =>
      rw [el] at L
      have L : LandsS X Wx D β H h ((noX (mh 0 ((blank l).set i (some (.exn 0)))) >>= fun f => pure (outFl i f)) h') := L
      have hm := lookup_mem el
      obtain ⟨D1, g1, _, hcl, hpar⟩ := hsu _ hm
      refine fun β' H' D2 A g σ' hσ => ?_
      have g' : X.mg c = some (.ref D2) := g
      rw [show X.mg c = some (.ref D1) from g1] at g'
      cases g'
      refine ⟨true, hcl, fun _ a ha => ?_, fun z => nomatch z⟩
      refine ⟨(c, mh), D1, hm, g, rfl, rfl, β', (blank l).set i (some (.exn a)), h', ?_, A.sim, ?_⟩
      · refine ER.set ?_ (by unfold Rel; rfl)
        rw [hl]
        exact blank_er hσ
      · rw [hpar a h']
        have L1 := L.after A
        rcases noX_cases (mh 0 ((blank l).set i (some (.exn 0)))) h' with nb | ⟨f4, h4, e4, e4'⟩
        · rw [bnd_bad nb] at L1; exact L1.elim
        rw [bnd_val e4'] at L1
        show Lands _ _ _ _ _ (mh 0 ((blank l).set i (some (.exn 0))) h') _ _
        rw [e4]
        intro β4 H4 fl A4 r4
        have s4 := A4.sim
        have L5 := L1.after A4
        cases f4 with
        | nx ρ4 => cases fl with
          | nx σ4 => exact Lands.nx (D := D) L5 s4 r4.set_none
          | _ => exact r4.elim
        | ct ρ4 => cases fl with
          | ct σ4 => show dQ D (.ct (σ4.set i none)) H4; exact Lands.ret (v := FlV.ct (σ4.set i none)) L5 s4 r4.set_none
          | _ => exact r4.elim
        | bk ρ4 => cases fl with
          | bk σ4 => show dQ D (.bk (σ4.set i none)) H4; exact Lands.ret (v := FlV.bk (σ4.set i none)) L5 s4 r4.set_none
          | _ => exact r4.elim
        | rt d => cases fl with
          | rt v => exact Lands.rt (D := D) L5 s4 r4
          | _ => exact r4.elim
/-- isinstance(e, C2), e the exception held -/
def mIsE (i : Nat) (a : Addr) (b : Bool) : Mv := fun ρ => match ρ[i]? with
  | some (some (.exn a')) => if a' = a then pure (.bl b) else bad
  | _ => bad
theorem mIsE_at {i : Nat} {a : Addr} {b : Bool} {ρ : Env'} (e : ρ[i]? = some (some (.exn a))) : mIsE i a b ρ = pure (.bl b) := by
  unfold mIsE
  rw [e]
  exact if_pos rfl
theorem isE_core {X : Cx} {i : Nat} {a D : Addr} {b : Bool} {c : V} {cv : Value} {σ : L2.St} {H : Hp} {Q : VK} (hc : ∀ u, RelV c u → u = cv) (hk : PySem.W.kitOne X.K (.ref D) cv = some b) (q : tM X WNo (mIsE i a b) σ H Q) :
    tVar i σ H fun x H1 => rIsE X.K D a [x, c] H1 Q := by
  obtain ⟨β, ρ, h, er, s, L⟩ := q
  have L : Lands (wd X) (Rel (wd X)) β H h ((match ρ[i]? with
    | some (some (.exn a')) => if a' = a then pure (.bl b) else bad
    | _ => bad : Mo Dat) h) Q (exW WNo σ) := L
  cases e : ρ[i]? with
  | none => rw [e] at L; exact L.elim
  | some o =>
    cases o with
    | none => rw [e] at L; exact L.elim
    | some d =>
      rw [e] at L
      cases d with
      | exn a' =>
        have L9 : Lands (wd X) (Rel (wd X)) β H h ((if a' = a then pure (.bl b) else bad : Mo Dat) h) Q (exW WNo σ) := L
        by_cases z : a' = a
        · rw [if_pos z] at L9
          obtain ⟨v, e1, r⟩ := er.2 i _ e
          unfold Rel at r
          subst r z
          exact ⟨_, e1, c, cv, b, rfl, hc, hk, L9.ret s mk_bl⟩
        · rw [if_neg z] at L9; exact L9.elim
      | _ => exact L.elim
theorem me_isE {e y : Str} {i : Nat} {a D C2 : Addr} {oe : Obj} {pn : List (Addr × Obj)} {b : Bool} {p p1 p2 pos : Pos} (EC : ExcC X.K D) (hz : Zc (.ref D) none oe) (hf : ∃ vs, oe.data = .fields vs) (he : PE (X.suite a ((a, oe) :: pn)) (.Name e p1) (tVar i)) (hm : X.mg "isinstance" = none) (hy : X.mg y = some (.ref C2)) (hk : PySem.W.kitOne X.K (.ref D) (.ref C2) = some b)
    (hg : Gl (X.suite a ((a, oe) :: pn)) "isinstance" := by rfl) (hgy : Gl (X.suite a ((a, oe) :: pn)) y := by rfl) (hd : (y == ("__debug__" : Str)) = false := by decide)
    (hst : starEach [.Name e p1, .Name y p2] X.env = (false, eval (.Name e p1) X.env) :: starEach [.Name y p2] X.env := by rfl) (hpl : (backTo pos (starEach [.Name y p2] X.env)).any (·.1) = false := by rfl) :
    ME (X.suite a ((a, oe) :: pn)) WNo (.Call (.Name "isinstance" p) [.Name e p1, .Name y p2] [] pos) (mIsE i a b) :=
  pe_weak (pe_callB (X := X.suite a ((a, oe) :: pn)) (call_isE (X := X) (pn := pn) EC hz hf) hg hm PyProof.Rows.boot_isinstance (pa_cons he (pa_cons (pe_glob (v := V.ref C2) hgy hy rfl hd) pa_nil) hst) (by decide) (by decide) hst hpl) fun σ H Q q =>
    isE_core (X := X) (c := V.ref C2) (cv := .ref C2) (fun u r => r) hk q
theorem me_isEB {e y : Str} {T : String} {i : Nat} {a D : Addr} {oe : Obj} {pn : List (Addr × Obj)} {b : Bool} {p p1 p2 pos : Pos} (EC : ExcC X.K D) (hz : Zc (.ref D) none oe) (hf : ∃ vs, oe.data = .fields vs) (he : PE (X.suite a ((a, oe) :: pn)) (.Name e p1) (tVar i)) (hm : X.mg "isinstance" = none) (hy : X.mg y = none) (hv : bootBuiltins y = some (.type T)) (hk : PySem.W.kitOne X.K (.ref D) (.type T) = some b)
    (hg : Gl (X.suite a ((a, oe) :: pn)) "isinstance" := by rfl) (hgy : Gl (X.suite a ((a, oe) :: pn)) y := by rfl) (hn : y ≠ "__name__" := by decide) (hd : (y == ("__debug__" : Str)) = false := by decide)
    (hst : starEach [.Name e p1, .Name y p2] X.env = (false, eval (.Name e p1) X.env) :: starEach [.Name y p2] X.env := by rfl) (hpl : (backTo pos (starEach [.Name y p2] X.env)).any (·.1) = false := by rfl) :
    ME (X.suite a ((a, oe) :: pn)) WNo (.Call (.Name "isinstance" p) [.Name e p1, .Name y p2] [] pos) (mIsE i a b) :=
  pe_weak (pe_callB (X := X.suite a ((a, oe) :: pn)) (call_isE (X := X) (pn := pn) EC hz hf) hg hm PyProof.Rows.boot_isinstance (pa_cons he (pa_cons (pe_ty (X := X.suite a ((a, oe) :: pn)) hy hv hgy hn hd) pa_nil) hst) (by decide) (by decide) hst hpl) fun σ H Q q =>
    isE_core (X := X) (c := V.ty T) (cv := .type T) (fun u r => r) hk q
end
theorem hu64 {k : Nat} {A : Around} (h : Room k A) : A.units + 64 < cLine := by have := h.un; omega
theorem hu65 {k : Nat} {A : Around} (h : Room k A) : A.units + 65 < cLine := by have := h.un; omega
end Mir
end

section
set_option Elab.async false
set_option linter.all false
set_option maxRecDepth 100000
/-! Mir17: the end of a law. -/
namespace Mir
open PySem PySem.Spec
open PyProof.Rows L2
/-- a law's promise -/
def spLaw (K : PySem.W.Frag) : Sp := fun vs H Q E => ∃ (a : Addr) (ns : List Int), vs = [.ref a] ∧ Only H ∧ SqL K H a (ns.map V.int) ∧ ns.length ≤ 63 ∧ (∀ H', Q (.bl true) H')
theorem rels_ints {W : Wd} {β : Nat → Addr} {N : Nat} {H : Hp} : ∀ (ns : List Int), Rels W β N H (ns.map Dat.int) (ns.map V.int)
  | [] => by simp [Rels]
  | n :: ns => by
    rw [List.map_cons, List.map_cons]
    unfold Rels
    exact ⟨_, _, rfl, mk_int, rels_ints ns⟩
theorem law_fn {P : Program} {w : World} {K : PySem.W.Frag} {mg : Str → Option Value} {base : Heap} {k : Nat} {f : Addr} {fd : FuncData} {x : Str} {fm : List Dat → Mo Dat} (F : FnOk P w K mg base (L2.CX P w) k f fd [x] (spM ⟨P, w, K, mg⟩ 1 fm))
    (h : ∀ ns : List Int, ns.length ≤ 63 → ∃ h', fm [.lst (ns.map Dat.int)] [] = .val (.bl true) h') : FnOk P w K mg base (L2.CX P w) k f fd [x] (spLaw K) := F.imp fun vs H Q E ⟨a, ns, e, hO, hS, hl, q⟩ => by
  subst e
  obtain ⟨h', e'⟩ := h ns hl
  refine ⟨rfl, fun _ => 0, [], [.lst (ns.map Dat.int)], ?_, ⟨fun n c e => by simp at e, fun n m c d e => by simp at e⟩, ?_⟩
  · unfold Rels
    refine ⟨.ref a, [], rfl, ?_, by unfold Rels; rfl⟩
    unfold Rel
    refine ⟨a, _, rfl, ?_, rels_ints ns⟩
    rcases hS with hS | hS
    · rcases hS with hS | ⟨o, hS⟩
      · rcases hO a with z | ⟨o, xs, z⟩
        · rw [z] at hS; cases hS
        · rw [z] at hS; cases hS
      · exact .inl ⟨o, hS⟩
    · exact .inr hS
  · rw [e']
    intro β' H' v A r
    unfold Rel at r
    subst r
    exact q H'
theorem names_of {X : Cx} {x : Str} {C : Addr} (hg : Gl X x) (hd : (x == ("__debug__" : Str)) = false) (g : X.mg x = some (.ref C)) : Names X x (.ref C) := ⟨hg, hd, .inl g⟩
end Mir
end

section
set_option Elab.async false
set_option linter.all false
set_option maxRecDepth 100000
/-! Mir18: new dicts. -/
namespace Mir
open PySem PySem.Spec
open PyProof.Rows L2
section
variable {X : Cx} {Wx : WX} {pos : Pos}
theorem dD_ok {P : Program} {w : World} {t : Bool} {H : Hp} {h : Heap} {a : Addr} {o : Obj} {ys : List (NestedKey × V × V)} (e : h.get? a = some o) (hs : (a == sysModules) = false) (hl : ys.length ≤ sizeLine) (hx : o.ExactDict)
    (h0 : t = false → ∃ (kvs : List (Key × V)) (us : List (Key × Value)), ys = kvs.map kY ∧ KV kvs us ∧ h.DictOf (mixKind P w) a us)
    (h1 : t = true → ∃ (es : Array DictEntry) (ep : Nat) (xs : List (NestedKey × Addr × Value)), o.data = .dict es ep ∧
      Paired (fun (y : NestedKey × V × V) (q : NestedKey × Addr × Value) => y.1 = q.1 ∧ y.2.1 = .ref q.2.1 ∧ RelV y.2.2 q.2.2) ys xs ∧ es.toList = xs.map (entryOfKey (nestedKind P w)) ∧ (xs.map (·.1)).Nodup) :
    ObjOk P w H h a (dD P w t a o ys) := by
  refine ⟨⟨e, hs, hl, hx, h0, h1⟩, ⟨o, e⟩, fun g1 g2 ⟨k1, k2, k3, k4, k5, k6⟩ k => ⟨k o k1, k2, k3, k4, fun z => ?_, k6⟩⟩
  obtain ⟨kvs, us, e1, p, d⟩ := k5 z
  exact ⟨kvs, us, e1, p, d.at k⟩
theorem dD_empty {P : Program} {w : World} {t : Bool} {H : Hp} (h : Heap) (hb : sysModules < h.objs.size) : ObjOk P w H (h.push { cls := .type "dict", data := .dict #[] }) h.objs.size (dD P w t h.objs.size { cls := .type "dict", data := .dict #[] } []) :=
  dD_ok (Heap.get?_push_size _ rfl) (beq_eq_false_iff_ne.mpr (Ne.symm (Nat.ne_of_lt hb))) (Nat.zero_le _) ⟨rfl, rfl, rfl⟩ (fun _ => ⟨[], [], rfl, .nil, Heap.DictOf.new h⟩) fun _ => ⟨#[], _, [], rfl, .nil, rfl, List.nodup_nil⟩
theorem pe_dnewD (t : Bool) : PE X (.Dict [] [] pos) (fun _ H Q => ∀ p o, H p = none → Q (.ref p) (upd H p (dD X.prog X.w t p o []))) := ⟨fun pins s σ H Q I h =>
  wpAny_Dict_empty ⟨.ref s.heap.objs.size, _, I.laid (a := s.heap.objs.size) (o := dD X.prog X.w t s.heap.objs.size { cls := .type "dict", data := .dict #[] } []) (t' := s.toks) (fun _ _ q => Heap.get?_push_of_some _ q) (Nat.le_refl _) (dD_empty s.heap I.big), rfl, h _ _ (I.hok.fresh (Nat.le_refl _))⟩⟩
def mEmpD : Mv := fun _ => pure (.dct false [] [])
theorem me_empD : ME X Wx (.Dict [] [] pos) mEmpD :=
  pe_weak (pe_frz (pe_dnewD false)) fun σ H Q ⟨β, ρ, h, er, s, L⟩ p o hp => ⟨fun a => a = p, fun a e => ⟨dD X.prog X.w false p o [], by rw [e, upd_same], trivial⟩, fun H2 z => by
    obtain ⟨o2, rfl⟩ := Fzn.one (fun _ => Iff.rfl) hp z
    have A := Aft.laid (o := .frz o2 (dD X.prog X.w false p o [])) s hp
    refine L β _ _ A ?_
    unfold Rel
    exact ⟨p, o2, o, [], [], [], rfl, upd_same, by unfold Rels; rfl, by unfold Rels; rfl, rfl, .nil⟩⟩
end
end Mir
end

section
set_option Elab.async false
set_option linter.all false
set_option maxRecDepth 100000
/-! Mir19: running mirrors. -/
namespace Mir
open PySem PySem.Spec
open PyProof.Rows L2

/-- what follows an outcome -/
def Res.bind {α γ : Type} (r : Res α) (f : α → Mo γ) : Res γ := match r with
  | .bad => .bad
  | .val a h => f a h
  | .exc c h => .exc c h
section
variable {α γ : Type}
@[simp] theorem mo_bind (m : Mo α) (f : α → Mo γ) (h : Hm) : (m >>= f) h = (m h).bind f := rfl
@[simp] theorem mo_pure (a : α) (h : Hm) : (pure a : Mo α) h = .val a h := rfl
@[simp] theorem mo_bad (h : Hm) : (bad : Mo α) h = .bad := rfl
@[simp] theorem mo_map (f : α → γ) (m : Mo α) (h : Hm) : (f <$> m) h = (m h).bind fun a => pure (f a) := by rw [map_eq_pure_bind]; rfl
@[simp] theorem rb_val (a : α) (h : Hm) (f : α → Mo γ) : (Res.val a h).bind f = f a h := rfl
@[simp] theorem rb_bad (f : α → Mo γ) : (Res.bad : Res α).bind f = .bad := rfl
@[simp] theorem rb_exc (c : Str) (h : Hm) (f : α → Mo γ) : (Res.exc c h : Res α).bind f = .exc c h := rfl
@[simp] theorem mo_ite (c : Prop) [Decidable c] (a b : Mo α) (h : Hm) : (if c then a else b) h = if c then a h else b h := by
  by_cases q : c
  · rw [if_pos q, if_pos q]
  · rw [if_neg q, if_neg q]
theorem rb_ite (c : Prop) [Decidable c] (a b : Res α) (f : α → Mo γ) : (if c then a else b).bind f = if c then a.bind f else b.bind f := by
  by_cases q : c
  · rw [if_pos q, if_pos q]
  · rw [if_neg q, if_neg q]
@[simp] theorem noX_val {m : Mo α} {h h' : Hm} {a : α} (e : m h = .val a h') : noX m h = .val a h' := by unfold noX; rw [e]
end
@[simp] theorem size_le {n : Nat} (h : n ≤ 16777216) : n ≤ sizeLine := h
/-- not a cell, not an exception -/
def Pl : Dat → Prop
  | .ref _ => False
  | .exn _ => False
  | _ => True
def tyP : Dat → String
  | .non => "NoneType" | .bl _ => "bool" | .int _ => "int" | .str _ => "str" | .tup _ => "tuple" | .lst _ => "list" | .dct _ _ _ => "dict"
  | _ => ""
theorem tyName_pl {d : Dat} (p : Pl d) (h : Hm) : tyName d h = .val (tyP d) h := by
  cases d <;> first | rfl | exact p.elim
/-! ### comprehensions that only look -/
theorem guard_none {src : Src} (hl : src.lk = none) (h : Hm) : mGuard src h = .val () h := by
  unfold mGuard Src.ok
  rw [hl]
  rfl
theorem lc_map {src : Src} (hl : src.lk = none) {bd : Dat → Env' → Option Env'} {c : Mb} {e : Mv} {ρ0 : Env'} {h : Hm} (g : Dat → Option Dat) : ∀ (ds acc : List Dat), (∀ d ∈ ds, ∃ ρ', bd d ρ0 = some ρ' ∧
    ((g d = none ∧ c ρ' h = .val false h) ∨ ∃ y, g d = some y ∧ c ρ' h = .val true h ∧ e ρ' h = .val y h)) → lcL src bd c e ρ0 ds acc h = .val (acc ++ ds.filterMap g) h
  | [], acc, _ => by
    show (mGuard src >>= fun _ => pure acc) h = _
    rw [mo_bind, guard_none hl, rb_val]
    simp
  | d :: ds, acc, k => by
    obtain ⟨ρ', e1, k1⟩ := k d (by simp)
    have ih := fun acc' => lc_map hl g ds acc' fun d' hd => k d' (List.mem_cons_of_mem _ hd)
    show (mGuard src >>= fun _ => optM (bd d ρ0) >>= fun ρ' => noX (c ρ') >>= fun b => if b = true then (noX (e ρ') >>= fun y => lcL src bd c e ρ0 ds (acc ++ [y])) else lcL src bd c e ρ0 ds acc) h = _
    rw [mo_bind, guard_none hl, rb_val, e1]
    show (noX (c ρ') >>= fun b => if b = true then (noX (e ρ') >>= fun y => lcL src bd c e ρ0 ds (acc ++ [y])) else lcL src bd c e ρ0 ds acc) h = _
    rcases k1 with ⟨g1, c1⟩ | ⟨y, g1, c1, y1⟩
    · rw [mo_bind, noX_val c1, rb_val, if_neg Bool.false_ne_true, ih, List.filterMap_cons, g1]
    · rw [mo_bind, noX_val c1, rb_val, if_pos rfl, mo_bind, noX_val y1, rb_val, ih, List.filterMap_cons, g1, List.append_assoc]
      rfl
/-- with no test -/
theorem lc_all {src : Src} (hl : src.lk = none) {bd : Dat → Env' → Option Env'} {e : Mv} {ρ0 : Env'} {h : Hm} (g : Dat → Dat) (ds : List Dat) (k : ∀ d ∈ ds, ∃ ρ', bd d ρ0 = some ρ' ∧ e ρ' h = .val (g d) h) : lcL src bd mYes e ρ0 ds [] h = .val (ds.map g) h := by
  rw [lc_map hl (fun d => some (g d)) ds [] fun d hd => ?_]
  · simp [List.filterMap_eq_map]
  · obtain ⟨ρ', e1, e2⟩ := k d hd
    exact ⟨ρ', e1, .inr ⟨g d, rfl, rfl, e2⟩⟩
theorem optBl (xs : List Dat) (p : Dat → Bool) : optAll isBl (xs.map fun x => .bl (p x)) = some (xs.map p) := by
  induction xs with
  | nil => rfl
  | cons x xs ih =>
    rw [List.map_cons, List.map_cons, optAll, ih]
    rfl
theorem all_bls (xs : List Dat) (p : Dat → Bool) (h : Hm) : allD (.lst (xs.map fun x => .bl (p x))) h = .val (.bl (xs.all p)) h := by
  show (optM (optAll isBl (xs.map fun x => .bl (p x))) >>= fun bs => pure (Dat.bl (bs.all id))) h = _
  rw [optBl]
  show Res.val (Dat.bl ((xs.map p).all id)) h = _
  rw [List.all_map]
  rfl
theorem any_bls (xs : List Dat) (p : Dat → Bool) (h : Hm) : anyD (.lst (xs.map fun x => .bl (p x))) h = .val (.bl (xs.any p)) h := by
  show (optM (optAll isBl (xs.map fun x => .bl (p x))) >>= fun bs => pure (Dat.bl (bs.any id))) h = _
  rw [optBl]
  show Res.val (Dat.bl ((xs.map p).any id)) h = _
  rw [List.any_map]
  rfl
end Mir
end

section
set_option Elab.async false
set_option linter.all false
set_option maxRecDepth 100000
/-! Mir20: dicts whose keys are whole numbers and texts. -/
namespace Mir
open PySem PySem.Spec
open PyProof.Rows L2
theorem kN_inj : ∀ {a b : Key}, kN a = kN b → a = b
  | .inl i, .inl j, e => by injection e with e; rw [e]
  | .inr i, .inr j, e => by injection e with e; rw [e]
  | .inl _, .inr _, e => nomatch e
  | .inr _, .inl _, e => nomatch e
theorem mapY_inj : ∀ {xs ys : List (Key × V)}, xs.map kY = ys.map kY → xs = ys
  | [], [], _ => rfl
  | [], _ :: _, e => nomatch e
  | _ :: _, [], e => nomatch e
  | (a, v) :: xs, (b, u) :: ys, e => by
    rw [List.map_cons, List.map_cons] at e
    injection e with e1 e2
    have h1 : kN a = kN b := congrArg (fun p => p.1) e1
    have h2 : v = u := congrArg (fun p => p.2.2) e1
    rw [kN_inj h1, h2, mapY_inj e2]
abbrev dA (P : Program) (w : World) (a : Addr) (o : Obj) (kvs : List (Key × V)) : HO := dD P w false a o (kvs.map kY)
section
variable {X : Cx} {pins : List (Addr × Obj)} {σ : L2.St} {H : Hp} {s : Shared} {a : Addr} {o : Obj} {kvs : List (Key × V)} {k : Key} {u r : Value} {A : Around} {E : Value → Shared → Prop}
theorem dA_of {P : Program} {w : World} {h : Heap} (k : ObjOk P w H h a (dA P w a o kvs)) : kvs.length ≤ sizeLine ∧ (a == sysModules) = false ∧ h.get? a = some o ∧ o.ExactDict ∧ ∃ us, KV kvs us ∧ h.DictOf (mixKind P w) a us := by
  obtain ⟨⟨k1, k2, k3, k4, k5, _⟩, _⟩ := k
  obtain ⟨kvs', us, e, r, d⟩ := k5 rfl
  rw [← mapY_inj e] at r
  exact ⟨by simpa using k3, k2, k1, k4, us, r, d⟩
theorem dA_rd {P : Program} {w : World} {h : Heap} (hk : HOk P w H h) (e : Rd H a (dA P w a o kvs)) : kvs.length ≤ sizeLine ∧ (a == sysModules) = false ∧ h.get? a = some o ∧ o.ExactDict ∧ ∃ us, KV kvs us ∧ h.DictOf (mixKind P w) a us := dA_of (e.ok hk)
theorem dA_new {P : Program} {w : World} {H' : Hp} {h' : Heap} {us : List (Key × Value)} (z : kvs.length ≤ sizeLine) (hd : (a == sysModules) = false) (rel : KV kvs us) (dd : h'.DictOf (mixKind P w) a us) : ∃ o', ObjOk P w H' h' a (dA P w a o' kvs) := by
  obtain ⟨o', es, ep, h1, h2, _⟩ := id dd
  exact ⟨o', dD_ok h1 hd (by simpa using z) h2 (fun _ => ⟨kvs, us, rfl, rel, dd⟩) fun z => nomatch z⟩
/-- d[k] -/
theorem dA_getItem {v : V} {Q : Value → Shared → Prop} (I : Inv X pins σ H s) (e : Rd H a (dA X.prog X.w a o kvs)) (ry : RelV (kV k) u) (l : valV kvs k = some v) (h : ∀ w' s', Inv X pins σ H s' → RelV v w' → Q w' s') : wpAny (model X.prog X.w) A (getItem (.ref a) u) Q E s := by
  obtain ⟨z, hd, _, _, us, rel, dd⟩ := dA_rd I.hok e
  obtain ⟨w', hw, rw'⟩ := RelO.some_of (v := v) (o := valueAt us k) (by rw [← l]; exact rel.val k)
  exact wpAny_getItem_of (kV_is ry) dd.mapOf hw (h w' _ (I.tok _) rw')
theorem dA_in {Q : Value → Shared → Prop} (I : Inv X pins σ H s) (e : Rd H a (dA X.prog X.w a o kvs)) (ry : RelV (kV k) u) (h : ∀ s', Inv X pins σ H s' → Q (.bool (valV kvs k).isSome) s') : wpAny (model X.prog X.w) A (compareOp .In u (.ref a)) Q E s := by
  obtain ⟨z, hd, _, _, us, rel, dd⟩ := dA_rd I.hok e
  refine wpAny_in_of (kV_is ry) hd dd.mapOf ?_
  rw [← (rel.val k).isSome_eq]
  exact h _ (I.tok _)
theorem dA_notIn {Q : Value → Shared → Prop} (I : Inv X pins σ H s) (e : Rd H a (dA X.prog X.w a o kvs)) (ry : RelV (kV k) u) (h : ∀ s', Inv X pins σ H s' → Q (.bool (!(valV kvs k).isSome)) s') : wpAny (model X.prog X.w) A (compareOp .NotIn u (.ref a)) Q E s := by
  obtain ⟨z, hd, _, _, us, rel, dd⟩ := dA_rd I.hok e
  refine wpAny_notIn_of (kV_is ry) hd dd.mapOf ?_
  rw [← (rel.val k).isSome_eq]
  exact h _ (I.tok _)
theorem dA_setItem {v : V} {Q : Unit → Shared → Prop} (I : Inv X pins σ H s) (e : H a = some (dA X.prog X.w a o kvs)) (ry : RelV (kV k) u) (rv : RelV v r) (hl : kvs.length < sizeLine) (h : ∀ o' s', Inv X pins σ (upd H a (dA X.prog X.w a o' (putK kvs k v))) s' → Q () s') :
    wpAny (model X.prog X.w) A (setItem (.ref a) u r) Q E s := by
  obtain ⟨z, hd, _, _, us, rel, dd⟩ := dA_rd I.hok (.of e)
  have hz : us.length ≤ sizeLine := by rw [← rel.length]; exact z
  have hl : (putK kvs k v).length ≤ sizeLine := by have := length_putK kvs k v; omega
  refine wpAny_setItem_pairs (hsz := hz) (kV_is ry) dd fun h' dd' hs => ?_
  have he : ∃ q, h'.get? a = some q := let ⟨q, _, _, hq, _⟩ := dd'; ⟨q, hq⟩
  obtain ⟨o', new⟩ := dA_new (H' := upd H a (dA X.prog X.w a o (putK kvs k v))) hl hd (rel.put k rv) dd'
  refine h o' _ (d_write I (by rw [e]; exact True.intro) hs he ?_)
  obtain ⟨⟨k1, k2, k3, k4, k5, k6⟩, _⟩ := new
  exact dD_ok k1 k2 k3 k4 k5 k6
theorem dA_setd {d : V} {Q : Value → Shared → Prop} (I : Inv X pins σ H s) (e : H a = some (dA X.prog X.w a o kvs)) (ry : RelV (kV k) u) (rd : RelV d r) (hl : kvs.length < sizeLine)
    (h1 : ∀ v, valV kvs k = some v → ∀ (w' : Value) (s' : Shared), Inv X pins σ H s' → RelV v w' → Q w' s') (h2 : valV kvs k = none → ∀ o' (w' : Value) (s' : Shared), Inv X pins σ (upd H a (dA X.prog X.w a o' (putK kvs k d))) s' → RelV d w' → Q w' s') :
    wpAny (model X.prog X.w) A (call (.builtin "dict.setdefault") [.ref a, u, r]) Q E s := by
  obtain ⟨z, hd, _, _, us, rel, dd⟩ := dA_rd I.hok (.of e)
  have hz : us.length ≤ sizeLine := by rw [← rel.length]; exact z
  have hl : (putK kvs k d).length ≤ sizeLine := by have := length_putK kvs k d; omega
  refine call_meetsIn PySem.F.slot_dict_setdefault dd.typeIs PySem.F.entry_dict_setdefault (PySem.F.args_dict_setdefault_3 _ _ _) (kt_meets_setdefault (mixKind X.prog X.w) a (kV_is ry) hd r) ⟨us, dd, hz, fun v hv => ?_, fun hn h' dd' hs => ?_⟩
  · have q := rel.val k
    rw [hv] at q
    cases q0 : valV kvs k with
    | none => rw [q0] at q; exact (show False from q).elim
    | some v0 => rw [q0] at q; exact h1 v0 q0 _ _ (I.tok _) q
  · have q := rel.val k
    rw [hn] at q
    cases q0 : valV kvs k with
    | some v0 => rw [q0] at q; exact (show False from q).elim
    | none =>
      have he : ∃ q, h'.get? a = some q := let ⟨q, _, _, hq, _⟩ := dd'; ⟨q, hq⟩
      obtain ⟨o', new⟩ := dA_new (H' := upd H a (dA X.prog X.w a o (putK kvs k d))) hl hd (rel.put k rd) dd'
      refine h2 q0 o' _ _ (d_write I (by rw [e]; exact True.intro) hs he ?_) rd
      obtain ⟨⟨k1, k2, k3, k4, k5, k6⟩, _⟩ := new
      exact dD_ok k1 k2 k3 k4 k5 k6
theorem dA_get1 {Q : Value → Shared → Prop} (I : Inv X pins σ H s) (e : Rd H a (dA X.prog X.w a o kvs)) (ry : RelV (kV k) u) (h : ∀ w' s', Inv X pins σ H s' → RelV ((valV kvs k).getD .non) w' → Q w' s') : wpAny (model X.prog X.w) A (call (.builtin "dict.get") [.ref a, u]) Q E s := by
  obtain ⟨z, hd, _, _, us, rel, dd⟩ := dA_rd I.hok e
  exact call_meetsIn PySem.F.slot_dict_get dd.typeIs PySem.F.entry_dict_get (PySem.F.args_dict_get_2 _ _) (meets_dict_get (mixKind X.prog X.w) a (kV_is ry) hd) ⟨_, dd.mapOf, h _ _ (I.tok _) ((rel.val k).getD rfl)⟩
theorem dA_get2 {d : V} {Q : Value → Shared → Prop} (I : Inv X pins σ H s) (e : Rd H a (dA X.prog X.w a o kvs)) (ry : RelV (kV k) u) (rd : RelV d r) (h : ∀ w' s', Inv X pins σ H s' → RelV ((valV kvs k).getD d) w' → Q w' s') : wpAny (model X.prog X.w) A (call (.builtin "dict.get") [.ref a, u, r]) Q E s := by
  obtain ⟨z, hd, _, _, us, rel, dd⟩ := dA_rd I.hok e
  exact call_meetsIn PySem.F.slot_dict_get dd.typeIs PySem.F.entry_dict_get (PySem.F.args_dict_get_3 _ _ _) (meets_dict_get_default (mixKind X.prog X.w) a (kV_is ry) hd r) ⟨_, dd.mapOf, h _ _ (I.tok _) ((rel.val k).getD rd)⟩
theorem dA_copy {Q : Value → Shared → Prop} (I : Inv X pins σ H s) (e : Rd H a (dA X.prog X.w a o kvs)) (h : ∀ p o' s', H p = none → Inv X pins σ (upd H p (dA X.prog X.w p o' kvs)) s' → Q (.ref p) s') : wpAny (model X.prog X.w) A (call (.type "dict") [.ref a]) Q E s := by
  obtain ⟨z, hd, _, _, us, rel, dd⟩ := dA_rd I.hok e
  refine kt_call_dict hd dd (by rw [← rel.length]; exact z) fun h' dd' hs => ?_
  obtain ⟨o', new⟩ := dA_new (H' := upd H s.heap.objs.size (dA X.prog X.w s.heap.objs.size o kvs)) z (beq_eq_false_iff_ne.mpr (Ne.symm (Nat.ne_of_lt I.big))) rel dd'
  obtain ⟨⟨k1, k2, k3, k4, k5, k6⟩, _⟩ := new
  refine h _ o' _ (I.hok.fresh (Nat.le_refl _)) (I.laid (a := s.heap.objs.size) (t' := s.toks) (fun b q hq => ?_) (Nat.le_refl _) (dD_ok k1 k2 k3 k4 k5 k6))
  exact (hs.2 b (Nat.ne_of_lt (Heap.lt_size hq))).trans (Heap.get?_push_of_some _ hq)
end
end Mir
end

section
set_option Elab.async false
set_option linter.all false
set_option maxRecDepth 100000
/-! Mir21: dicts by their mirrors: entries, subscripts, in. -/
namespace Mir
open PySem PySem.Spec
open PyProof.Rows L2
def keyKd : Dat → Option Key
  | .int i => some (.inl i)
  | .str x => some (.inr x)
  | _ => none
/-- the entries of a dict of whole numbers and texts -/
def DK (W : Wd) (β : Nat → Addr) (N : Nat) (H : Hp) : List (Dat × Dat) → List (Key × V) → Prop := Paired fun (p : Dat × Dat) (q : Key × V) => keyKd p.1 = some q.1 ∧ Rel W β N H p.2 q.2
theorem DK.length {W : Wd} {β : Nat → Addr} {N : Nat} {H : Hp} {kvs : List (Dat × Dat)} {k0 : List (Key × V)} (d : DK W β N H kvs k0) : kvs.length = k0.length := Paired.length d
section
variable {W : Wd} {β β' : Nat → Addr} {N N' : Nat} {H H' : Hp}
theorem keyKd_of {d : Dat} {v : V} {n : NestedKey} (r : Rel W β N H d v) (e : keyD d = some n) (t : isTup d = false) : ∃ k, keyKd d = some k ∧ n = kN k ∧ v = kV k := by
  cases d with
  | int i =>
    have : n = .num i := (Option.some.inj e).symm
    subst this
    exact ⟨.inl i, rfl, rfl, rel_int r⟩
  | str x =>
    have : n = .text x := (Option.some.inj e).symm
    subst this
    exact ⟨.inr x, rfl, rfl, rel_str r⟩
  | tup _ => cases t
  | _ => cases e
theorem kd_inj {a b : Dat} {k : Key} (h1 : keyKd a = some k) (h2 : keyKd b = some k) : a = b := by
  cases a <;> cases b <;> simp [keyKd] at h1 h2 <;> subst h1 <;> simp_all
theorem dk_split : ∀ {kvs : List (Dat × Dat)} {ns : List NestedKey} {ks vs : List V}, Rels W β N H (kvs.map (·.1)) ks → Rels W β N H (kvs.map (·.2)) vs → Paired (fun k n => keyD k = some n ∧ isTup k = false) (kvs.map (·.1)) ns →
    ∃ k0, List.zip ns (List.zip ks vs) = k0.map kY ∧ DK W β N H kvs k0
  | [], ns, ks, vs, r1, r2, pn => by
    cases pn
    exact ⟨[], rfl, .nil⟩
  | (k, d) :: kvs, ns, ks, vs, r1, r2, pn => by
    rw [List.map_cons] at r1 r2 pn
    unfold Rels at r1 r2
    obtain ⟨v1, s1, rfl, q1, r1⟩ := r1
    obtain ⟨v2, s2, rfl, q2, r2⟩ := r2
    cases pn with
    | cons h pn =>
      obtain ⟨k0, e0, d0⟩ := dk_split r1 r2 pn
      obtain ⟨kk, e1, e2, e3⟩ := keyKd_of q1 h.1 h.2
      refine ⟨(kk, v2) :: k0, ?_, .cons ⟨e1, q2⟩ d0⟩
      rw [List.zip_cons_cons, List.zip_cons_cons, e0, List.map_cons, e2, e3]
      rfl
theorem kd_keyD {d : Dat} {k : Key} (e : keyKd d = some k) : keyD d = some (kN k) ∧ isTup d = false ∧ ∀ β N H, Rel W β N H d (kV k) := by
  cases d with
  | int i => cases e; exact ⟨rfl, rfl, fun _ _ _ => mk_int⟩
  | str x => cases e; exact ⟨rfl, rfl, fun _ _ _ => mk_str⟩
  | _ => cases e
theorem dk_join : ∀ {kvs : List (Dat × Dat)} {k0 : List (Key × V)}, DK W β N H kvs k0 → ∃ ns ks vs, k0.map kY = List.zip ns (List.zip ks vs) ∧ Rels W β N H (kvs.map (·.1)) ks ∧ Rels W β N H (kvs.map (·.2)) vs ∧ Paired (fun k n => keyD k = some n ∧ isTup k = false) (kvs.map (·.1)) ns
  | [], k0, d => by
    cases d
    exact ⟨[], [], [], rfl, by simp [Rels], by simp [Rels], .nil⟩
  | (k, d) :: kvs, k0, dk => by
    cases dk with
    | cons h dk =>
      rename_i q k0
      obtain ⟨kk, v⟩ := q
      obtain ⟨ns, ks, vs, e, r1, r2, pn⟩ := dk_join dk
      obtain ⟨a1, a2, a3⟩ := kd_keyD (W := W) h.1
      refine ⟨kN kk :: ns, kV kk :: ks, v :: vs, ?_, ?_, ?_, .cons ⟨a1, a2⟩ pn⟩
      · rw [List.map_cons, e]
        rfl
      · rw [List.map_cons]
        unfold Rels
        exact ⟨_, _, rfl, a3 _ _ _, r1⟩
      · rw [List.map_cons]
        unfold Rels
        exact ⟨_, _, rfl, h.2, r2⟩
theorem DK.mono (p : PExt H H') (hN : N ≤ N') (hb : ∀ n, n < N → β' n = β n) : ∀ {kvs : List (Dat × Dat)} {k0 : List (Key × V)}, DK W β N H kvs k0 → DK W β' N' H' kvs k0
  | [], k0, d => by cases d; exact .nil
  | _ :: _, k0, d => by
    cases d with
    | cons h d => exact .cons ⟨h.1, Rel.mono p hN hb _ _ h.2⟩ (DK.mono p hN hb d)
/-- what lies at a cell of such a dict -/
theorem crel_dA {a : Addr} {v : Nat} {kvs : List (Dat × Dat)} (c : CRel W β N H a (.dct false v kvs)) : ∃ o k0, H a = some (dA W.P W.w a o k0) ∧ DK W β N H kvs k0 := by
  obtain ⟨o, ns, ks, vs, e, r1, r2, pn⟩ := c
  obtain ⟨k0, e0, d0⟩ := dk_split r1 r2 pn
  rw [e0] at e
  exact ⟨o, k0, e, d0⟩
theorem dA_crel {a : Addr} {v : Nat} {o : Obj} {kvs : List (Dat × Dat)} {k0 : List (Key × V)} (e : H a = some (dA W.P W.w a o k0)) (d : DK W β N H kvs k0) : CRel W β N H a (.dct false v kvs) := by
  obtain ⟨ns, ks, vs, e0, r1, r2, pn⟩ := dk_join d
  unfold dA at e
  rw [e0] at e
  exact ⟨o, ns, ks, vs, e, r1, r2, pn⟩
def lookD (kvs : List (Dat × Dat)) (k : Dat) : Option Dat := (kvs.find? fun p => decide (p.1 = k)).map (·.2)
def putD (kvs : List (Dat × Dat)) (k d : Dat) : List (Dat × Dat) := if (kvs.any fun p => decide (p.1 = k)) = true then kvs.map (fun p => if p.1 = k then (p.1, d) else p) else kvs ++ [(k, d)]
theorem dk_look {k : Dat} {kk : Key} (hk : keyKd k = some kk) : ∀ {kvs : List (Dat × Dat)} {k0 : List (Key × V)}, DK W β N H kvs k0 →
    (lookD kvs k = none ∧ valV k0 kk = none) ∨ ∃ d v, lookD kvs k = some d ∧ valV k0 kk = some v ∧ Rel W β N H d v
  | [], k0, d => by cases d; exact .inl ⟨rfl, rfl⟩
  | (a, x) :: kvs, k0, d => by
    cases d with
    | cons h d =>
      rename_i q k0
      by_cases e : a = k
      · have e2 : q.1 = kk := by
          have := h.1
          simp only at this
          rw [e, hk] at this
          exact (Option.some.inj this).symm
        refine .inr ⟨x, q.2, ?_, valV_pos e2, h.2⟩
        simp [lookD, e]
      · have e2 : ¬ q.1 = kk := fun z => e (kd_inj (h.1.trans (congrArg some z)) hk)
        have ih := dk_look hk d
        have l1 : lookD ((a, x) :: kvs) k = lookD kvs k := by simp [lookD, List.find?_cons, e]
        rw [l1, valV_neg e2]
        exact ih
theorem dk_any {k : Dat} {kk : Key} (hk : keyKd k = some kk) : ∀ {kvs : List (Dat × Dat)} {k0 : List (Key × V)}, DK W β N H kvs k0 → (kvs.any fun p => decide (p.1 = k)) = (k0.any fun q => decide (q.1 = kk))
  | [], k0, d => by cases d; rfl
  | (a, x) :: kvs, k0, d => by
    cases d with
    | cons h d =>
      rename_i q k0
      rw [List.any_cons, List.any_cons, dk_any hk d]
      congr 1
      by_cases e : a = k
      · have e2 : q.1 = kk := by
          have := h.1
          simp only at this
          rw [e, hk] at this
          exact (Option.some.inj this).symm
        simp [e, e2]
      · have e2 : ¬ q.1 = kk := fun z => e (kd_inj (h.1.trans (congrArg some z)) hk)
        simp [e, e2]
theorem dk_map {k d : Dat} {kk : Key} {v : V} (hk : keyKd k = some kk) (r : Rel W β N H d v) : ∀ {kvs : List (Dat × Dat)} {k0 : List (Key × V)}, DK W β N H kvs k0 → DK W β N H (kvs.map fun p => if p.1 = k then (p.1, d) else p) (k0.map fun kv => if kv.1 = kk then (kv.1, v) else kv)
  | [], k0, d => by cases d; exact .nil
  | (a, x) :: kvs, k0, dd => by
    cases dd with
    | cons h dd =>
      rename_i q k0
      rw [List.map_cons, List.map_cons]
      refine .cons ?_ (dk_map hk r dd)
      by_cases e : a = k
      · have e2 : q.1 = kk := by
          have := h.1
          simp only at this
          rw [e, hk] at this
          exact (Option.some.inj this).symm
        rw [if_pos e, if_pos e2]
        exact ⟨h.1, r⟩
      · have e2 : ¬ q.1 = kk := fun z => e (kd_inj (h.1.trans (congrArg some z)) hk)
        rw [if_neg e, if_neg e2]
        exact h
theorem dk_snoc {k d : Dat} {kk : Key} {v : V} (hk : keyKd k = some kk) (r : Rel W β N H d v) : ∀ {kvs : List (Dat × Dat)} {k0 : List (Key × V)}, DK W β N H kvs k0 → DK W β N H (kvs ++ [(k, d)]) (k0 ++ [(kk, v)])
  | [], k0, dd => by cases dd; exact .cons ⟨hk, r⟩ .nil
  | _ :: _, k0, dd => by
    cases dd with
    | cons h dd => exact .cons h (dk_snoc hk r dd)
theorem dk_put {k d : Dat} {kk : Key} {v : V} (hk : keyKd k = some kk) (r : Rel W β N H d v) {kvs : List (Dat × Dat)} {k0 : List (Key × V)} (dd : DK W β N H kvs k0) : DK W β N H (putD kvs k d) (putK k0 kk v) := by
  unfold putD putK
  rw [dk_any hk dd]
  by_cases c : (k0.any fun q => decide (q.1 = kk)) = true
  · rw [if_pos c, if_pos c]
    exact dk_map hk r dd
  · rw [if_neg c, if_neg c]
    exact dk_snoc hk r dd
end
end Mir
end

section
set_option Elab.async false
set_option linter.all false
set_option maxRecDepth 100000
/-! Mir22: what is done with dicts of whole numbers and texts. -/
namespace Mir
open PySem PySem.Spec
open PyProof.Rows L2
def dctC : Cell → Mo (List (Dat × Dat))
  | .dct false _ kvs => pure kvs
  | _ => bad
def dctF (t : Bool) (ks xs : List Dat) : Mo (List (Dat × Dat)) := if t = false then pure (List.zip ks xs) else bad
def dictOf : Dat → Mo (List (Dat × Dat))
  | .ref n => do let c ← cellOf n; dctC c
  | .dct t ks xs => dctF t ks xs
  | _ => bad
theorem zip_fst : ∀ {xs ys : List Dat}, xs.length = ys.length → (List.zip xs ys).map (·.1) = xs
  | [], [], _ => rfl
  | x :: xs, y :: ys, h => by rw [List.zip_cons_cons, List.map_cons, zip_fst (by simpa using h)]
  | [], _ :: _, h => by simp at h
  | _ :: _, [], h => by simp at h
theorem zip_snd : ∀ {xs ys : List Dat}, xs.length = ys.length → (List.zip xs ys).map (·.2) = ys
  | [], [], _ => rfl
  | x :: xs, y :: ys, h => by rw [List.zip_cons_cons, List.map_cons, zip_snd (by simpa using h)]
  | [], _ :: _, h => by simp at h
  | _ :: _, [], h => by simp at h
section
variable {α τ : Type} {W : Wd} {R : (Nat → Addr) → Nat → Hp → α → τ → Prop} {β : Nat → Addr} {H : Hp} {h : Hm} {d : Dat} {v : V} {Q : τ → Hp → Prop} {E : Addr → Hp → Prop}
theorem Lands.dictB {f : List (Dat × Dat) → Mo α} (L : Lands W R β H h ((do let kvs ← dictOf d; f kvs) h) Q E) (s : Sim W β H h) (r : Rel W β h.length H d v) :
    ∃ a o k0 kvs, v = .ref a ∧ Rd H a (dA W.P W.w a o k0) ∧ DK W β h.length H kvs k0 ∧ Lands W R β H h (f kvs h) Q E := by
  cases d with
  | ref n =>
    have L' : Lands W R β H h ((do let c ← cellOf n; let xs ← dctC c; f xs) h) Q E := by simpa only [dictOf, bind_assoc, pure_bind] using L
    obtain ⟨c, e, hd, k, L1⟩ := Lands.cellB L' s
    unfold Rel at r
    cases c with
    | dct t ve kvs =>
      cases t with
      | false =>
        obtain ⟨o, k0, e1, d1⟩ := crel_dA k
        exact ⟨β n, o, k0, kvs, r.2, .of e1, d1, L1⟩
      | true => exact L1.elim
    | _ => exact L1.elim
  | dct t ks xs =>
    cases t with
    | false =>
      unfold Rel at r
      obtain ⟨a, o, od, ns, kv, vs, rfl, e, r1, r2, hl, pn⟩ := r
      obtain ⟨k0, e0, d0⟩ := dk_split (kvs := List.zip ks xs) (by rw [zip_fst hl]; exact r1) (by rw [zip_snd hl]; exact r2) (by rw [zip_fst hl]; exact pn)
      rw [e0] at e
      exact ⟨a, od, k0, _, rfl, .inr ⟨o, e⟩, d0, L⟩
    | true => exact L.elim
  | _ => exact L.elim
/-- the key -/
def keyM (k : Dat) : Mo Dat := if (keyKd k).isSome = true then pure k else bad
theorem Lands.keyB {f : Dat → Mo α} (L : Lands W R β H h ((do let k ← keyM d; f k) h) Q E) (r : Rel W β h.length H d v) : ∃ kk, keyKd d = some kk ∧ v = kV kk ∧ Lands W R β H h (f d h) Q E := by
  cases d with
  | int i => exact ⟨.inl i, rfl, rel_int r, L⟩
  | str x => exact ⟨.inr x, rfl, rel_str r, L⟩
  | _ => exact L.elim
/-- a dict that may be changed -/
def drefC (n : Nat) : Cell → Mo (Nat × Nat × List (Dat × Dat))
  | .dct false v kvs => pure (n, v, kvs)
  | _ => bad
def dref : Dat → Mo (Nat × Nat × List (Dat × Dat))
  | .ref n => do let c ← cellOf n; drefC n c
  | _ => bad
theorem Lands.drefB {f : Nat × Nat × List (Dat × Dat) → Mo α} (L : Lands W R β H h ((do let c ← dref d; f c) h) Q E) (s : Sim W β H h) (r : Rel W β h.length H d v) :
    ∃ n ve kvs o k0, d = .ref n ∧ v = .ref (β n) ∧ h[n]? = some (.dct false ve kvs) ∧ H (β n) = some (dA W.P W.w (β n) o k0) ∧ DK W β h.length H kvs k0 ∧ Lands W R β H h (f (n, ve, kvs) h) Q E := by
  cases d with
  | ref n =>
    have L' : Lands W R β H h ((do let c ← cellOf n; let xs ← drefC n c; f xs) h) Q E := by simpa only [dref, bind_assoc, pure_bind] using L
    obtain ⟨c, e, hd, k, L1⟩ := Lands.cellB L' s
    unfold Rel at r
    cases c with
    | dct t ve kvs =>
      cases t with
      | false =>
        obtain ⟨o, k0, e1, d1⟩ := crel_dA k
        exact ⟨n, ve, kvs, o, k0, rfl, r.2, e, e1, d1, L1⟩
      | true => exact L1.elim
    | _ => exact L1.elim
  | _ => exact L.elim
/-- a dict cell is written -/
theorem dict_aft {n ve : Nat} {kvs kvs' : List (Dat × Dat)} {o' : Obj} {k1 : List (Key × V)} (s : Sim W β H h) (e : h[n]? = some (.dct false ve kvs)) (dd : DK W β h.length H kvs' k1) :
    Aft W β H h β (upd H (β n) (dA W.P W.w (β n) o' k1)) (h.set n (.dct false (ve + 1) kvs')) :=
  Aft.write s e (by simp) (fun t v k z => .inr ⟨false, ve + 1, kvs', rfl, by cases z; exact Nat.lt_succ_self _⟩) fun u eu n1 n2 => by
    have pe : PExt H (upd H (β n) (dA W.P W.w (β n) o' k1)) := ⟨fun a xs q => by rw [upd_ne (fun z => by rw [z, eu] at q; cases q; exact n1 _ rfl)]; exact q, fun a q' u' q => by rw [upd_ne (fun z => by rw [z, eu] at q; cases q; exact n2 _ _ rfl)]; exact q⟩
    exact dA_crel upd_same (dd.mono pe (Nat.le_refl _) fun _ _ => rfl)
/-- a new dict cell -/
theorem dict_alloc {kvs : List (Dat × Dat)} {o : Obj} {k0 : List (Key × V)} {p : Addr} (s : Sim W β H h) (hp : H p = none) (dd : DK W β h.length H kvs k0) :
    Aft W β H h (bx β h.length p) (upd H p (dA W.P W.w p o k0)) (h ++ [.dct false 0 kvs]) :=
  Aft.alloc s hp (dA_crel upd_same (dd.mono (s.pext_laid hp) (Nat.le_succ _) fun _ hn => bx_lt hn))
end
/-! ### d[k], k in d -/
def dixD (d k : Dat) : Mo Dat := do let kvs ← dictOf d; let k' ← keyM k; optM (lookD kvs k')
section
variable {X : Cx} {Wx : WX} {a b : Expr} {ma mb : Mv} {pos : Pos}
def rDix (P : Program) (w : World) : R2 := fun x y H Q => ∃ a o k0 kk v, x = .ref a ∧ Rd H a (dA P w a o k0) ∧ y = kV kk ∧ valV k0 kk = some v ∧ Q v H
theorem ix_dA : IxR X (rDix X.prog X.w) := by
  intro value slice pins s σ H x y v u Q I rx ry h hs
  obtain ⟨a, o, k0, kk, w', rfl, e, rfl, l, q⟩ := h
  obtain rfl : v = Value.ref a := rx
  obtain ⟨_, _, _, _, us, rel, dd⟩ := dA_rd I.hok e
  exact tail_any dd.typeIs PySem.F.slot_dict_getitem.lookup (dA_getItem I e ry l fun w2 s2 I2 r2 => ⟨w', H, I2, r2, q⟩) hs
def mDix (ma mb : Mv) : Mv := fun ρ => mBin dixD ma mb ρ
theorem me_dix (ha : ME X Wx a ma) (hb : ME X Wx b mb) (hs : PlainIx b := by intro _ _; rfl) : ME X Wx (.Subscript a b pos) (mDix ma mb) :=
  pe_weak (pe_ix ix_dA ha hb hs) fun σ H Q ⟨β, ρ, h, er, s, L⟩ => two (f := dixD) er s L fun β2 H2 h2 d1 d2 x y s2 r1 r2 L2 => by
    obtain ⟨a, o, k0, kvs, e1, e2, dd, L3⟩ := Lands.dictB L2 s2 r1
    obtain ⟨kk, e3, e4, L4⟩ := Lands.keyB L3 r2
    rcases dk_look e3 dd with ⟨l1, l2⟩ | ⟨d, v, l1, l2, rv⟩
    · rw [l1] at L4; exact L4.elim
    · rw [l1] at L4
      exact ⟨a, o, k0, kk, v, e1, e2, e4, l2, L4.ret s2 rv⟩
def rDin (P : Program) (w : World) (neg : Bool) : R2 := fun y x H Q => ∃ a o k0 kk, x = .ref a ∧ Rd H a (dA P w a o k0) ∧ y = kV kk ∧ Q (.bl (neg != (valV k0 kk).isSome)) H
theorem op_dinA : OpR X (compareOp .In) (rDin X.prog X.w false) := by
  intro pins s σ H y x v u Q I ry rx h
  obtain ⟨a, o, k0, kk, rfl, e, rfl, q⟩ := h
  obtain rfl : u = Value.ref a := rx
  refine dA_in I e ry fun s' I' => ⟨.bl (valV k0 kk).isSome, H, I', rfl, ?_⟩
  have : (false != (valV k0 kk).isSome) = (valV k0 kk).isSome := by cases (valV k0 kk).isSome <;> rfl
  rw [this] at q
  exact q
theorem op_dninA : OpR X (compareOp .NotIn) (rDin X.prog X.w true) := by
  intro pins s σ H y x v u Q I ry rx h
  obtain ⟨a, o, k0, kk, rfl, e, rfl, q⟩ := h
  obtain rfl : u = Value.ref a := rx
  refine dA_notIn I e ry fun s' I' => ⟨.bl (!(valV k0 kk).isSome), H, I', rfl, ?_⟩
  have : (true != (valV k0 kk).isSome) = !(valV k0 kk).isSome := by cases (valV k0 kk).isSome <;> rfl
  rw [this] at q
  exact q
def cInD (x c : Dat) : Mo Bool := do let kvs ← dictOf c; let k ← keyM x; pure (lookD kvs k).isSome
def cNinD (x c : Dat) : Mo Bool := do let kvs ← dictOf c; let k ← keyM x; pure (!(lookD kvs k).isSome)
theorem look_isSome {W : Wd} {β : Nat → Addr} {N : Nat} {H : Hp} {k : Dat} {kk : Key} (hk : keyKd k = some kk) {kvs : List (Dat × Dat)} {k0 : List (Key × V)} (dd : DK W β N H kvs k0) : (valV k0 kk).isSome = (lookD kvs k).isSome := by
  rcases dk_look hk dd with ⟨l1, l2⟩ | ⟨d, v, l1, l2, _⟩ <;> rw [l1, l2] <;> rfl
theorem opM_inD : OpMB (wd X) cInD (rDin X.prog X.w false) := fun β H h d1 d2 x y Q E s r1 r2 L => by
  obtain ⟨a, o, k0, kvs, e1, e2, dd, L3⟩ := Lands.dictB L s r2
  obtain ⟨kk, e3, e4, L4⟩ := Lands.keyB L3 r1
  refine ⟨a, o, k0, kk, e1, e2, e4, _, rfl, ?_⟩
  have : (false != (valV k0 kk).isSome) = (lookD kvs d1).isSome := by rw [look_isSome e3 dd]; cases (lookD kvs d1).isSome <;> rfl
  rw [this]
  exact L4.ret s rfl
theorem opM_ninD : OpMB (wd X) cNinD (rDin X.prog X.w true) := fun β H h d1 d2 x y Q E s r1 r2 L => by
  obtain ⟨a, o, k0, kvs, e1, e2, dd, L3⟩ := Lands.dictB L s r2
  obtain ⟨kk, e3, e4, L4⟩ := Lands.keyB L3 r1
  refine ⟨a, o, k0, kk, e1, e2, e4, _, rfl, ?_⟩
  have : (true != (valV k0 kk).isSome) = !(lookD kvs d1).isSome := by rw [look_isSome e3 dd]; cases (lookD kvs d1).isSome <;> rfl
  rw [this]
  exact L4.ret s rfl
theorem me_inD (ha : ME X Wx a ma) (hb : ME X Wx b mb) (hm : behindInMarks .In b = false := by rfl) : ME X Wx (.Compare a [.In] [b] pos) (mCmp cInD ma mb) := me_cmp op_dinA opM_inD ha hb hm
theorem mt_inD (ha : ME X Wx a ma) (hb : ME X Wx b mb) (hm : behindInMarks .In b = false := by rfl) : MT X Wx (.Compare a [.In] [b] pos) (mCmpT cInD ma mb) := mt_cmp op_dinA opM_inD ha hb hm
theorem me_ninD (ha : ME X Wx a ma) (hb : ME X Wx b mb) (hm : behindInMarks .NotIn b = false := by rfl) : ME X Wx (.Compare a [.NotIn] [b] pos) (mCmp cNinD ma mb) := me_cmp op_dninA opM_ninD ha hb hm
theorem mt_ninD (ha : ME X Wx a ma) (hb : ME X Wx b mb) (hm : behindInMarks .NotIn b = false := by rfl) : MT X Wx (.Compare a [.NotIn] [b] pos) (mCmpT cNinD ma mb) := mt_cmp op_dninA opM_ninD ha hb hm
end
end Mir
end

section
set_option Elab.async false
set_option linter.all false
set_option maxRecDepth 100000
/-! Mir23: methods of dicts, stores, copies. -/
namespace Mir
open PySem PySem.Spec
open PyProof.Rows L2
section
variable {X : Cx} {Wx : WX}
/-- o.m(e, ..), o a dict -/
theorem pe_dm {o e : Expr} {es : List Expr} {name : Str} {id : String} {r : V → List V → Hp → VK → Prop} {td : TE} {t : TA} {apos cpos : Pos} (slot : Slot "dict" name id) (hty : typeOf (.builtin id) = pure (.type "method_descriptor")) (hm : MtR X id r) (ho : PE X o td) (ha : PA X (e :: es) t)
    (hbase : attributeBase o name X.env (eval o X.env) = eval o X.env := by rfl)
    (hfew : ((backTo cpos (starEach (e :: es) X.env)).all (fun x => !x.1) && (backToKw cpos (keywordEach [] X.env)).all (fun x => x.1.isSome)
      && decide ((e :: es).length + ([] : List Keyword).length + (if ([] : List Keyword).isEmpty then 0 else 1) < 30)) = true := by rfl)
    (hline : (apos.endLine == cpos.line) = true := by rfl) (hs : starEach (e :: es) X.env = (false, eval e X.env) :: starEach es X.env := by rfl) (hplain : (backTo cpos (starEach es X.env)).any (·.1) = false := by rfl) :
    PE X (.Call (.Attribute o name apos) (e :: es) [] cpos) (fun σ H Q => td σ H fun x H1 => (∃ a ob k0, x = .ref a ∧ Rd H1 a (dA X.prog X.w a ob k0)) ∧ t σ H1 fun vs H2 => r x vs H2 Q) := by
  refine ⟨fun pins s σ H Q I h => ?_⟩
  refine wpAny_Call_method_late hbase hfew hline rfl (thn (ho.run pins s σ H _ I h) fun v s1 ⟨x, H1, I1, r1, ty, q1⟩ => ?_)
  obtain ⟨a, ob, k0, ex, rd⟩ := ty
  have hv : v = Value.ref a := by subst ex; exact r1
  obtain ⟨_, _, _, _, us, _, dd⟩ := dA_rd I1.hok rd
  have h1 : s1.TypeIs v "dict" := by rw [hv]; exact dd.typeIs
  have h2 : ∀ b, v = .ref b → ∃ ob, s1.heap.get? b = some ob ∧ ob.dict = none := fun b q => by
    rw [hv] at q
    cases q
    obtain ⟨ob, _, _, k1, k2, _⟩ := dd
    exact ⟨ob, k1, k2.2.1⟩
  refine ⟨"dict", id, PySem.F.plainAttrs_dict, slot, hty, h1, h2, ?_⟩
  have hA := ha.run cpos pins s1 σ H1 _ I1 q1
  rw [hs] at hA ⊢
  refine Calls.callWith_builtin (by show (false || (backTo cpos (starEach es X.env)).any (·.1)) = false; rw [hplain] <;> rfl) (Calls.evalArgs_plain ?_)
  exact thn hA fun us s2 ⟨vs, H2, I2, r2, q2⟩ => hm pins s2 σ H2 x vs v us Q I2 r1 r2 q2
/-- the object, then the arguments, then f -/
def mDm (f : Dat → List Dat → Mo Dat) (ma : Mv) (ms : Ml) : Mv := fun ρ => do let x ← ma ρ; let _ ← dictOf x; let ys ← ms ρ; f x ys
theorem me_dm {o e : Expr} {es : List Expr} {name : Str} {id : String} {r : V → List V → Hp → VK → Prop} {f : Dat → List Dat → Mo Dat} {ma : Mv} {ms : Ml} {apos cpos : Pos} (slot : Slot "dict" name id) (hty : typeOf (.builtin id) = pure (.type "method_descriptor")) (hm : MtR X id r)
    (hf : ∀ β H h d1 ds x vs (Q : VK) E, Sim (wd X) β H h → Rel (wd X) β h.length H d1 x → Rels (wd X) β h.length H ds vs → Lands (wd X) (Rel (wd X)) β H h (f d1 ds h) Q E → r x vs H Q)
    (ho : ME X Wx o ma) (ha : MA X Wx (e :: es) ms)
    (hbase : attributeBase o name X.env (eval o X.env) = eval o X.env := by rfl)
    (hfew : ((backTo cpos (starEach (e :: es) X.env)).all (fun x => !x.1) && (backToKw cpos (keywordEach [] X.env)).all (fun x => x.1.isSome)
      && decide ((e :: es).length + ([] : List Keyword).length + (if ([] : List Keyword).isEmpty then 0 else 1) < 30)) = true := by rfl)
    (hline : (apos.endLine == cpos.line) = true := by rfl) (hs : starEach (e :: es) X.env = (false, eval e X.env) :: starEach es X.env := by rfl) (hplain : (backTo cpos (starEach es X.env)).any (·.1) = false := by rfl) :
    ME X Wx (.Call (.Attribute o name apos) (e :: es) [] cpos) (mDm f ma ms) :=
  pe_weak (pe_dm slot hty hm ho ha hbase hfew hline hs hplain) fun σ H Q ⟨β, ρ, h, er, s, L⟩ =>
    one (f := fun x => do let _ ← dictOf x; let ys ← ms ρ; f x ys) er s L fun β1 H1 h1 d1 x s1 r1 A1 L1 => by
    obtain ⟨a, ob, k0, kvs, e1, e2, dd, L2⟩ := Lands.dictB L1 s1 r1
    exact ⟨⟨a, ob, k0, e1, e2⟩, args (f := fun ys => f d1 ys) (A1.er s er) s1 L2 fun β2 H2 h2 ds vs s2 r2 A2 L3 => hf β2 H2 h2 d1 ds x vs Q _ s2 (A2.rel s1 r1) r2 L3⟩
/-! ### get, setdefault -/
def dGet1 (x : Dat) : List Dat → Mo Dat
  | [k] => do let kvs ← dictOf x; let k' ← keyM k; pure ((lookD kvs k').getD .non)
  | _ => bad
def dGet2 (x : Dat) : List Dat → Mo Dat
  | [k, d] => do let kvs ← dictOf x; let k' ← keyM k; pure ((lookD kvs k').getD d)
  | _ => bad
def putU (n ve : Nat) (kvs : List (Dat × Dat)) (k d : Dat) : Mo Dat := fun h => .val d (h.set n (.dct false (ve + 1) (putD kvs k d)))
def setdM (n ve : Nat) (kvs : List (Dat × Dat)) (k d : Dat) : Mo Dat := match lookD kvs k with
  | some v => pure v
  | none => putU n ve kvs k d
def setdL (c : Nat × Nat × List (Dat × Dat)) (k d : Dat) : Mo Dat := if c.2.2.length < sizeLine then setdM c.1 c.2.1 c.2.2 k d else bad
def dSetd (x : Dat) : List Dat → Mo Dat
  | [k, d] => do let c ← dref x; let k' ← keyM k; setdL c k' d
  | _ => bad
theorem mt_dget1 : MtR X "dict.get" (fun x vs H Q => ∃ a o k0 kk, x = .ref a ∧ Rd H a (dA X.prog X.w a o k0) ∧ vs = [kV kk] ∧ Q ((valV k0 kk).getD .non) H) := by
  intro pins s σ H x xs v us Q I rx rs h
  obtain ⟨a, o, k0, kk, rfl, e, rfl, q⟩ := h
  obtain rfl : v = Value.ref a := rx
  cases rs with
  | cons r1 rs =>
    cases rs
    exact dA_get1 I e r1 fun w' s' I' r' => ⟨_, H, I', r', q⟩
theorem mt_dget2 : MtR X "dict.get" (fun x vs H Q => ∃ a o k0 kk d, x = .ref a ∧ Rd H a (dA X.prog X.w a o k0) ∧ vs = [kV kk, d] ∧ Q ((valV k0 kk).getD d) H) := by
  intro pins s σ H x xs v us Q I rx rs h
  obtain ⟨a, o, k0, kk, d, rfl, e, rfl, q⟩ := h
  obtain rfl : v = Value.ref a := rx
  cases rs with
  | cons r1 rs =>
    cases rs with
    | cons r2 rs =>
      cases rs
      exact dA_get2 I e r1 r2 fun w' s' I' r' => ⟨_, H, I', r', q⟩
theorem mt_setd : MtR X "dict.setdefault" (fun x vs H Q => ∃ a o k0 kk d, x = .ref a ∧ H a = some (dA X.prog X.w a o k0) ∧ vs = [kV kk, d] ∧ k0.length < sizeLine ∧ (∀ v, valV k0 kk = some v → Q v H) ∧ (valV k0 kk = none → ∀ o', Q d (upd H a (dA X.prog X.w a o' (putK k0 kk d))))) := by
  intro pins s σ H x xs v us Q I rx rs h
  obtain ⟨a, o, k0, kk, d, rfl, e, rfl, hl, q1, q2⟩ := h
  obtain rfl : v = Value.ref a := rx
  cases rs with
  | cons r1 rs =>
    cases rs with
    | cons r2 rs =>
      cases rs
      exact dA_setd I e r1 r2 hl (fun v hv w' s' I' r' => ⟨v, H, I', r', q1 v hv⟩) fun hn o' w' s' I' r' => ⟨d, _, I', r', q2 hn o'⟩
theorem dget_inv1 {α : Type} {g : Dat → Mo α} {ds : List Dat} {W : Wd} {τ : Type} {R : (Nat → Addr) → Nat → Hp → α → τ → Prop} {β : Nat → Addr} {H : Hp} {h : Hm} {Q : τ → Hp → Prop} {E : Addr → Hp → Prop} (L : Lands W R β H h ((match ds with | [k] => g k | _ => bad : Mo α) h) Q E) : ∃ k, ds = [k] ∧ Lands W R β H h (g k h) Q E := by
  split at L
  · exact ⟨_, rfl, L⟩
  · exact L.elim
theorem dget_inv2 {α : Type} {g : Dat → Dat → Mo α} {ds : List Dat} {W : Wd} {τ : Type} {R : (Nat → Addr) → Nat → Hp → α → τ → Prop} {β : Nat → Addr} {H : Hp} {h : Hm} {Q : τ → Hp → Prop} {E : Addr → Hp → Prop} (L : Lands W R β H h ((match ds with | [k, d] => g k d | _ => bad : Mo α) h) Q E) : ∃ k d, ds = [k, d] ∧ Lands W R β H h (g k d h) Q E := by
  split at L
  · exact ⟨_, _, rfl, L⟩
  · exact L.elim
variable {o e f : Expr} {ma : Mv} {ms : Ml} {apos cpos : Pos}
theorem me_get1 (ho : ME X Wx o ma) (ha : MA X Wx [e] ms)
    (hbase : attributeBase o "get" X.env (eval o X.env) = eval o X.env := by rfl)
    (hfew : ((backTo cpos (starEach [e] X.env)).all (fun x => !x.1) && (backToKw cpos (keywordEach [] X.env)).all (fun x => x.1.isSome)
      && decide ([e].length + ([] : List Keyword).length + (if ([] : List Keyword).isEmpty then 0 else 1) < 30)) = true := by rfl)
    (hline : (apos.endLine == cpos.line) = true := by rfl) (hs : starEach [e] X.env = (false, eval e X.env) :: starEach [] X.env := by rfl) (hplain : (backTo cpos (starEach [] X.env)).any (·.1) = false := by rfl) :
    ME X Wx (.Call (.Attribute o "get" apos) [e] [] cpos) (mDm dGet1 ma ms) :=
  me_dm PySem.F.slot_dict_get PySem.F.type_dict_get mt_dget1 (fun β H h d1 ds x vs Q E s r1 rs L => by
    obtain ⟨k, rfl, L1⟩ := dget_inv1 (g := fun k => do let kvs ← dictOf d1; let k' ← keyM k; pure ((lookD kvs k').getD .non)) L
    obtain ⟨v, rfl, rk⟩ := rels1 rs
    obtain ⟨a, ob, k0, kvs, e1, e2, dd, L2⟩ := Lands.dictB L1 s r1
    obtain ⟨kk, e3, e4, L3⟩ := Lands.keyB L2 rk
    refine ⟨a, ob, k0, kk, e1, e2, by rw [e4], ?_⟩
    rcases dk_look e3 dd with ⟨l1, l2⟩ | ⟨d, w, l1, l2, rv⟩
    · rw [l1] at L3; rw [l2]; exact L3.ret s (by unfold Rel; rfl)
    · rw [l1] at L3; rw [l2]; exact L3.ret s rv) ho ha hbase hfew hline hs hplain
theorem me_get2 (ho : ME X Wx o ma) (ha : MA X Wx [e, f] ms)
    (hbase : attributeBase o "get" X.env (eval o X.env) = eval o X.env := by rfl)
    (hfew : ((backTo cpos (starEach [e, f] X.env)).all (fun x => !x.1) && (backToKw cpos (keywordEach [] X.env)).all (fun x => x.1.isSome)
      && decide ([e, f].length + ([] : List Keyword).length + (if ([] : List Keyword).isEmpty then 0 else 1) < 30)) = true := by rfl)
    (hline : (apos.endLine == cpos.line) = true := by rfl) (hs : starEach [e, f] X.env = (false, eval e X.env) :: starEach [f] X.env := by rfl) (hplain : (backTo cpos (starEach [f] X.env)).any (·.1) = false := by rfl) :
    ME X Wx (.Call (.Attribute o "get" apos) [e, f] [] cpos) (mDm dGet2 ma ms) :=
  me_dm PySem.F.slot_dict_get PySem.F.type_dict_get mt_dget2 (fun β H h d1 ds x vs Q E s r1 rs L => by
    obtain ⟨k, d2, rfl, L1⟩ := dget_inv2 (g := fun k d => do let kvs ← dictOf d1; let k' ← keyM k; pure ((lookD kvs k').getD d)) L
    obtain ⟨v, u, rfl, rk, ru⟩ := rels2 rs
    obtain ⟨a, ob, k0, kvs, e1, e2, dd, L2⟩ := Lands.dictB L1 s r1
    obtain ⟨kk, e3, e4, L3⟩ := Lands.keyB L2 rk
    refine ⟨a, ob, k0, kk, u, e1, e2, by rw [e4], ?_⟩
    rcases dk_look e3 dd with ⟨l1, l2⟩ | ⟨d, w, l1, l2, rv⟩
    · rw [l1] at L3; rw [l2]; exact L3.ret s ru
    · rw [l1] at L3; rw [l2]; exact L3.ret s rv) ho ha hbase hfew hline hs hplain
theorem me_setd (ho : ME X Wx o ma) (ha : MA X Wx [e, f] ms)
    (hbase : attributeBase o "setdefault" X.env (eval o X.env) = eval o X.env := by rfl)
    (hfew : ((backTo cpos (starEach [e, f] X.env)).all (fun x => !x.1) && (backToKw cpos (keywordEach [] X.env)).all (fun x => x.1.isSome)
      && decide ([e, f].length + ([] : List Keyword).length + (if ([] : List Keyword).isEmpty then 0 else 1) < 30)) = true := by rfl)
    (hline : (apos.endLine == cpos.line) = true := by rfl) (hs : starEach [e, f] X.env = (false, eval e X.env) :: starEach [f] X.env := by rfl) (hplain : (backTo cpos (starEach [f] X.env)).any (·.1) = false := by rfl) :
    ME X Wx (.Call (.Attribute o "setdefault" apos) [e, f] [] cpos) (mDm dSetd ma ms) :=
  me_dm PySem.F.slot_dict_setdefault PySem.F.type_dict_setdefault mt_setd (fun β H h d1 ds x vs Q E s r1 rs L => by
    obtain ⟨k, d2, rfl, L1⟩ := dget_inv2 (g := fun k d => do let c ← dref d1; let k' ← keyM k; setdL c k' d) L
    obtain ⟨v, u, rfl, rk, ru⟩ := rels2 rs
    obtain ⟨n, ve, kvs, ob, k0, rfl, e1, e2, e5, dd, L2⟩ := Lands.drefB L1 s r1
    obtain ⟨kk, e3, e4, L3⟩ := Lands.keyB L2 rk
    obtain ⟨sz, L4⟩ := Lands.ifB L3
    have L4 : Lands (wd X) (Rel (wd X)) β H h (setdM n ve kvs k d2 h) Q E := L4
    have sz : kvs.length < sizeLine := sz
    unfold setdM at L4
    refine ⟨β n, ob, k0, kk, u, e1, e5, by rw [e4], by rw [← dd.length]; exact sz, fun w hw => ?_, fun hn o' => ?_⟩
    · rcases dk_look e3 dd with ⟨l1, l2⟩ | ⟨d, w', l1, l2, rv⟩
      · rw [hw] at l2; cases l2
      · rw [hw] at l2
        cases l2
        rw [l1] at L4
        exact L4.ret s rv
    · rcases dk_look e3 dd with ⟨l1, l2⟩ | ⟨d, w', l1, l2, rv⟩
      · rw [l1] at L4
        have A := dict_aft (o' := o') s e2 (dk_put e3 ru dd)
        exact L4 β _ u A (A.rel s ru)
      · rw [hn] at l2; cases l2) ho ha hbase hfew hline hs hplain
/-! ### stores -/
def putM (c : Nat × Nat × List (Dat × Dat)) (k d : Dat) : Mo Dat := if c.2.2.length < sizeLine then putU c.1 c.2.1 c.2.2 k d else bad
def mPutD (mo mk mv : Mv) : Ms := fun ρ => do let v ← mv ρ; let x ← mo ρ; let k ← mk ρ; let c ← dref x; let k' ← keyM k; let _ ← putM c k' v; pure (.nx ρ)
def sDPutA (P : Program) (w : World) (td ty tv : TE) : TS := fun D σ H => tv σ H fun v H1 => td σ H1 fun x H2 => ty σ H2 fun y H3 => ∃ a o k0 kk, x = .ref a ∧ H3 a = some (dA P w a o k0) ∧ y = kV kk ∧ k0.length < sizeLine ∧ ∀ o', D.nx σ (upd H3 a (dA P w a o' (putK k0 kk v)))
theorem ps_dputA {o i value : Expr} {td ty tv : TE} {pos pos' : Pos} (ho : PE X o td) (hi : PE X i ty) (hv : PE X value tv) (hs : swapsWith value (some (.Subscript o i pos')) pos.line X.env = pure false) :
    PS X (.Assign [.Subscript o i pos'] value pos) (sDPutA X.prog X.w td ty tv) := by
  refine ⟨fun pins s σ H D I h => ?_⟩
  refine wpAny_Assign_Subscript (thn (hv.run pins s σ H _ I h) fun r s1 ⟨v, H1, I1, rv, q1⟩ => thn (ho.run pins s1 σ H1 _ I1 q1) fun u s2 ⟨x, H2, I2, rx, q2⟩ => thn (hi.run pins s2 σ H2 _ I2 q2) fun iv s3 ⟨y, H3, I3, ry, a, ob, k0, kk, ex, e, ey, hl, q3⟩ => ?_) hs
  subst ex ey
  obtain rfl : u = Value.ref a := rx
  exact dA_setItem I3 e ry rv hl fun o' s4 I4 => ⟨σ, _, I4, q3 o'⟩
theorem ms_putD {oe i value : Expr} {mo mk mv : Mv} {pos pos' : Pos} (ho : ME X Wx oe mo) (hi : ME X Wx i mk) (hv : ME X Wx value mv) (hs : swapsWith value (some (.Subscript oe i pos')) pos.line X.env = pure false := by rfl) :
    MS X Wx (.Assign [.Subscript oe i pos'] value pos) (mPutD mo mk mv) :=
  ps_weak (ps_dputA ho hi hv hs) fun D σ H ⟨β, ρ, h, er, s, L⟩ =>
    oneS (f := fun v => do let x ← mo ρ; let k ← mk ρ; let c ← dref x; let k' ← keyM k; let _ ← putM c k' v; pure (.nx ρ)) er s L fun β1 H1 h1 dv v s1 r1 A1 L1 =>
    oneS (f := fun x => do let k ← mk ρ; let c ← dref x; let k' ← keyM k; let _ ← putM c k' dv; pure (.nx ρ)) (A1.er s er) s1 L1 fun β2 H2 h2 dx x s2 r2 A2 L2 =>
    oneS (f := fun k => do let c ← dref dx; let k' ← keyM k; let _ ← putM c k' dv; pure (.nx ρ)) (A2.er s1 (A1.er s er)) s2 L2 fun β3 H3 h3 dk y s3 r3 A3 L3 => by
    obtain ⟨n, ve, kvs, ob, k0, rfl, e1, e2, e5, dd, L4⟩ := Lands.drefB L3 s3 (A3.rel s2 r2)
    obtain ⟨kk, e3, e4, L5⟩ := Lands.keyB L4 r3
    have L5 : LandsS X Wx D β3 H3 h3 (((if kvs.length < sizeLine then putU n ve kvs dk dv else bad : Mo Dat) >>= fun _ => pure (.nx ρ)) h3) := L5
    by_cases sz : kvs.length < sizeLine
    · rw [if_pos sz] at L5
      refine ⟨β3 n, ob, k0, kk, e1, e5, e4, by rw [← dd.length]; exact sz, fun o' => ?_⟩
      have A := dict_aft (o' := o') s3 e2 (dk_put e3 (A3.rel s2 (A2.rel s1 r1)) dd)
      exact L5 β3 _ (.nx σ) A (A.er s3 (A3.er s2 (A2.er s1 (A1.er s er))))
    · rw [if_neg sz] at L5; exact L5.elim
/-! ### copies; new dicts as cells -/
def copyC (d : Dat) : Mo Dat := do let kvs ← dictOf d; alloc (.dct false 0 kvs)
theorem call_copyA : CallR X (.type "dict") (fun xs H Q => ∃ a o k0, xs = [.ref a] ∧ Rd H a (dA X.prog X.w a o k0) ∧ ∀ p o', H p = none → Q (.ref p) (upd H p (dA X.prog X.w p o' k0))) := by
  intro pins s σ H xs us Q I r h
  obtain ⟨a, o, k0, rfl, e, q⟩ := h
  cases r with
  | cons r rr =>
    cases rr
    cases r
    exact dA_copy I e fun p o' s' hp I' => ⟨.ref p, _, I', rfl, q p o' hp⟩
theorem me_copyD {e : Expr} {ma : Mv} {p pos : Pos} (hm : X.mg "dict" = none) (ha : ME X Wx e ma) (hg : Gl X "dict" := by rfl) (he : starEach [e] X.env = (false, eval e X.env) :: starEach [] X.env := by rfl) : ME X Wx (.Call (.Name "dict" p) [e] [] pos) (mUn copyC ma) :=
  me_ct1 call_copyA hm rfl (fun β H h d v Q E s r L => by
    obtain ⟨a, o, k0, kvs, e1, e2, dd, L1⟩ := Lands.dictB L s r
    refine ⟨a, o, k0, by rw [e1], e2, fun p o' hp => ?_⟩
    refine L1 _ _ _ (dict_alloc s hp dd) ?_
    unfold Rel
    exact ⟨by simp, by rw [bx_eq]⟩) ha hg (by decide) (by decide) he
def mNewD : Mv := fun _ => alloc (.dct false 0 [])
theorem me_newD {pos : Pos} : ME X Wx (.Dict [] [] pos) mNewD := pe_weak (pe_dnewD false) fun σ H Q ⟨β, ρ, h, er, s, L⟩ p o hp => by
  refine L _ _ _ (dict_alloc (o := o) (kvs := []) (k0 := []) s hp .nil) ?_
  unfold Rel
  exact ⟨by simp, by rw [bx_eq]⟩
end
end Mir
end

section
set_option Elab.async false
set_option linter.all false
set_option maxRecDepth 100000
/-! Mir24: == and != of two dicts that hold the same. -/
namespace Mir
open PySem PySem.Spec
open PyProof.Rows L2
/-- what a pair of dicts must show, to be told equal -/
def Hits (K : PySem.W.Frag) (H : Hp) (k1 : List (Key × V)) (k0 : List (Key × V)) : Prop := ∀ q ∈ k0, ∃ v p p', valV k1 q.1 = some v ∧ Dp K H q.2 p ∧ Dp K H v p' ∧ SeqAt.shaped p = true ∧ SeqAt.shaped p' = true ∧ PyData.eqv p p' = true
section
variable {X : Cx} {Wx : WX}
theorem hits_ground {pins : List (Addr × Obj)} {σ : L2.St} {H : Hp} {s : Shared} {A : Around} (I : Inv X pins σ H s) (hu : A.in1.units + 64 < cLine) {k1 : List (Key × V)} {us1 : List (Key × Value)} (r1 : KV k1 us1) :
    ∀ {k0 : List (Key × V)} {us0 : List (Key × Value)}, KV k0 us0 → Hits X.K H k1 k0 → PySem.W.KeqHits A.in1 s us1 us0 true
  | [], us0, r, _ => by cases r; exact .nil
  | q :: k0, us0, r, hh => by
    cases r with
    | cons h r =>
      rename_i u us0
      obtain ⟨v, p, p', l, d1, d2, s1, s2, e⟩ := hh q (by simp)
      obtain ⟨as, ra⟩ := Dp.reads I p q.2 u.2 d1 h.2
      have rv := r1.val q.1
      rw [l] at rv
      obtain ⟨y, hy, ry⟩ := RelO.some_of (v := v) (o := valueAt us1 q.1) rv
      obtain ⟨bs, rb⟩ := Dp.reads I p' v y d2 ry
      have ea := PySem.W.keq_at (A := A) ra rb s1 s2 hu
      rw [e] at ea
      have ih := hits_ground I hu r1 r fun z hz => hh z (List.mem_cons_of_mem _ hz)
      obtain ⟨uk, uv⟩ := u
      have hk : q.1 = uk := h.1
      subst hk
      exact .hit (e := true) hy ea ih
def rEqA (K : PySem.W.Frag) (P : Program) (w : World) (neg : Bool) : R2 := fun x y H Q => ∃ a o k0 b o' k1, x = .ref a ∧ y = .ref b ∧ Rd H a (dA P w a o k0) ∧ Rd H b (dA P w b o' k1) ∧ k0.length = k1.length ∧ Hits K H k1 k0 ∧ Q (.bl (!neg)) H
theorem op_eqA (hu : X.A.units < cLine) (hu1 : X.A.in1.units + 64 < cLine) : OpR X (compareOp .Eq) (rEqA X.K X.prog X.w false) := by
  intro pins s σ H x y v u Q I rx ry h
  obtain ⟨a, o, k0, b, o', k1, rfl, rfl, e0, e1, hl, hh, q⟩ := h
  obtain rfl : v = Value.ref a := rx
  obtain rfl : u = Value.ref b := ry
  obtain ⟨_, ha, _, _, us0, r0, d0⟩ := dA_rd I.hok e0
  obtain ⟨_, hb, _, _, us1, r1, d1⟩ := dA_rd I.hok e1
  have hl' : us0.length = us1.length := by rw [← r0.length, ← r1.length, hl]
  refine PySem.W.keq_eq ha hb d0 d1 hu (fun _ => hits_ground I hu1 r1 r0 hh) ?_
  have : (us0.length == us1.length && true) = true := by rw [hl']; simp
  rw [this]
  exact ⟨.bl true, H, I, rfl, q⟩
theorem op_neA (hu : X.A.units < cLine) (hu1 : X.A.in1.units + 64 < cLine) : OpR X (compareOp .NotEq) (rEqA X.K X.prog X.w true) := by
  intro pins s σ H x y v u Q I rx ry h
  obtain ⟨a, o, k0, b, o', k1, rfl, rfl, e0, e1, hl, hh, q⟩ := h
  obtain rfl : v = Value.ref a := rx
  obtain rfl : u = Value.ref b := ry
  obtain ⟨_, ha, _, _, us0, r0, d0⟩ := dA_rd I.hok e0
  obtain ⟨_, hb, _, _, us1, r1, d1⟩ := dA_rd I.hok e1
  have hl' : us0.length = us1.length := by rw [← r0.length, ← r1.length, hl]
  refine PySem.W.keq_ne ha hb d0 d1 hu (fun _ => hits_ground I hu1 r1 r0 hh) ?_
  have : (!(us0.length == us1.length && true)) = false := by rw [hl']; simp
  rw [this]
  exact ⟨.bl false, H, I, rfl, q⟩
end
/-! ### by mirrors: data are compared as data, dicts must hold the same -/
def isDct (h : Hm) : Dat → Bool
  | .dct _ _ _ => true
  | .ref n => match h[n]? with
    | some (.dct _ _ _) => true
    | _ => false
  | _ => false
/-- entries that are told equal: the same ones, in any order -/
def sameD (ka kb : List (Dat × Dat)) : Mo Bool := fun h =>
  if ka.length = kb.length ∧ (ka.all fun p => (keyKd p.1).isSome && (match lookD kb p.1 with
    | some d => (match toPy h 30 p.2, toPy h 30 d with
      | some x, some y => PyData.eqv x y
      | _, _ => false)
    | none => false)) = true then .val true h else .bad
def cEqA (x y : Dat) : Mo Bool := do let ka ← dictOf x; let kb ← dictOf y; let b ← sameD ka kb; pure b
def cNeA (x y : Dat) : Mo Bool := do let ka ← dictOf x; let kb ← dictOf y; let b ← sameD ka kb; pure (!b)
theorem dk_mem {W : Wd} {β : Nat → Addr} {N : Nat} {H : Hp} : ∀ {kvs : List (Dat × Dat)} {k0 : List (Key × V)}, DK W β N H kvs k0 → ∀ q ∈ k0, ∃ p ∈ kvs, keyKd p.1 = some q.1 ∧ Rel W β N H p.2 q.2
  | [], k0, d, q, hq => by cases d; simp at hq
  | p :: kvs, k0, d, q, hq => by
    cases d with
    | cons h d =>
      rcases List.mem_cons.mp hq with rfl | hq
      · exact ⟨p, by simp, h⟩
      · obtain ⟨p', h1, h2⟩ := dk_mem d q hq
        exact ⟨p', List.mem_cons_of_mem _ h1, h2⟩
theorem Lands.sameB {α τ : Type} {W : Wd} {R : (Nat → Addr) → Nat → Hp → α → τ → Prop} {β : Nat → Addr} {H : Hp} {h : Hm} {ka kb : List (Dat × Dat)} {k0 k1 : List (Key × V)} {f : Bool → Mo α} {Q : τ → Hp → Prop} {E : Addr → Hp → Prop}
    (L : Lands W R β H h ((do let b ← sameD ka kb; f b) h) Q E) (s : Sim W β H h) (d0 : DK W β h.length H ka k0) (d1 : DK W β h.length H kb k1) : k0.length = k1.length ∧ Hits W.K H k1 k0 ∧ Lands W R β H h (f true h) Q E := by
  by_cases c : ka.length = kb.length ∧ (ka.all fun p => (keyKd p.1).isSome && (match lookD kb p.1 with
    | some d => (match toPy h 30 p.2, toPy h 30 d with
      | some x, some y => PyData.eqv x y
      | _, _ => false)
    | none => false)) = true
  · have e : sameD ka kb h = .val true h := by unfold sameD; rw [if_pos c]
    rw [bnd_val e] at L
    refine ⟨by rw [← d0.length, ← d1.length]; exact c.1, fun q hq => ?_, L⟩
    obtain ⟨p, hp, hk, rp⟩ := dk_mem d0 q hq
    have z := List.all_eq_true.mp c.2 p hp
    rw [Bool.and_eq_true] at z
    have z := z.2
    rcases dk_look hk d1 with ⟨l1, l2⟩ | ⟨d, v, l1, l2, rv⟩
    · rw [l1] at z; cases z
    · rw [l1] at z
      simp only at z
      cases e1 : toPy h 30 p.2 with
      | none => rw [e1] at z; cases z
      | some x =>
        cases e2 : toPy h 30 d with
        | none => rw [e1, e2] at z; cases z
        | some y =>
          rw [e1, e2] at z
          exact ⟨v, x, y, l2, toPy_dp s 30 _ _ _ e1 rp, toPy_dp s 30 _ _ _ e2 rv, toPy_shaped e1 (by decide), toPy_shaped e2 (by decide), z⟩
  · have e : sameD ka kb h = .bad := by unfold sameD; rw [if_neg c]
    rw [bnd_bad e] at L
    exact L.elim
section
variable {X : Cx} {Wx : WX} {a b : Expr} {ma mb : Mv} {pos : Pos}
theorem opM_eqA : OpMB (wd X) cEqA (rEqA X.K X.prog X.w false) := fun β H h d1 d2 x y Q E s r1 r2 L => by
  obtain ⟨a, o, k0, ka, e1, e2, dd, L1⟩ := Lands.dictB L s r1
  obtain ⟨b, o', k1, kb, e3, e4, dd', L2⟩ := Lands.dictB L1 s r2
  have L2 : Lands (wd X) EqB β H h ((sameD ka kb >>= pure) h) Q E := by rw [bind_pure]; exact L2
  obtain ⟨hl, hh, L3⟩ := Lands.sameB (f := pure) L2 s dd dd'
  exact ⟨a, o, k0, b, o', k1, e1, e3, e2, e4, hl, hh, true, rfl, L3.ret s rfl⟩
theorem opM_neA : OpMB (wd X) cNeA (rEqA X.K X.prog X.w true) := fun β H h d1 d2 x y Q E s r1 r2 L => by
  obtain ⟨a, o, k0, ka, e1, e2, dd, L1⟩ := Lands.dictB L s r1
  obtain ⟨b, o', k1, kb, e3, e4, dd', L2⟩ := Lands.dictB L1 s r2
  obtain ⟨hl, hh, L3⟩ := Lands.sameB (f := fun b => pure (!b)) L2 s dd dd'
  exact ⟨a, o, k0, b, o', k1, e1, e3, e2, e4, hl, hh, false, rfl, L3.ret s rfl⟩
/-- == of what may be dicts -/
def cEqX (x y : Dat) : Mo Bool := fun h => if isDct h x && isDct h y then cEqA x y h else cEqD x y h
def cNeX (x y : Dat) : Mo Bool := fun h => if isDct h x && isDct h y then cNeA x y h else cNeD x y h
def rEqX (K : PySem.W.Frag) (P : Program) (w : World) : R2 := fun x y H Q => rEqD K x y H Q ∨ rEqA K P w false x y H Q
def rNeX (K : PySem.W.Frag) (P : Program) (w : World) : R2 := fun x y H Q => rNeD K x y H Q ∨ rEqA K P w true x y H Q
theorem opM_eqX : OpMB (wd X) cEqX (rEqX X.K X.prog X.w) := fun β H h d1 d2 x y Q E s r1 r2 L => by
  unfold cEqX at L
  by_cases c : (isDct h d1 && isDct h d2) = true
  · rw [if_pos c] at L; exact .inr (opM_eqA β H h d1 d2 x y Q E s r1 r2 L)
  · rw [if_neg c] at L; exact .inl (opM_eqD β H h d1 d2 x y Q E s r1 r2 L)
theorem opM_neX : OpMB (wd X) cNeX (rNeX X.K X.prog X.w) := fun β H h d1 d2 x y Q E s r1 r2 L => by
  unfold cNeX at L
  by_cases c : (isDct h d1 && isDct h d2) = true
  · rw [if_pos c] at L; exact .inr (opM_neA β H h d1 d2 x y Q E s r1 r2 L)
  · rw [if_neg c] at L; exact .inl (opM_neD β H h d1 d2 x y Q E s r1 r2 L)
theorem in1_units {A : Around} : A.in1.units = A.units + 1 := rfl
variable {A : Around} {k : Nat}
theorem me_eqX (hr : X.A.units + 65 < cLine) (ha : ME X Wx a ma) (hb : ME X Wx b mb) : ME X Wx (.Compare a [.Eq] [b] pos) (mCmp cEqX ma mb) :=
  me_cmp ((op_eqD (by omega)).or (op_eqA (by omega) (by rw [in1_units]; omega))) opM_eqX ha hb (nomark _)
theorem mt_eqX (hr : X.A.units + 65 < cLine) (ha : ME X Wx a ma) (hb : ME X Wx b mb) : MT X Wx (.Compare a [.Eq] [b] pos) (mCmpT cEqX ma mb) :=
  mt_cmp ((op_eqD (by omega)).or (op_eqA (by omega) (by rw [in1_units]; omega))) opM_eqX ha hb (nomark _)
theorem me_neX (hr : X.A.units + 65 < cLine) (ha : ME X Wx a ma) (hb : ME X Wx b mb) : ME X Wx (.Compare a [.NotEq] [b] pos) (mCmp cNeX ma mb) :=
  me_cmp ((op_neD (by omega)).or (op_neA (by omega) (by rw [in1_units]; omega))) opM_neX ha hb (nomark _)
theorem mt_neX (hr : X.A.units + 65 < cLine) (ha : ME X Wx a ma) (hb : ME X Wx b mb) : MT X Wx (.Compare a [.NotEq] [b] pos) (mCmpT cNeX ma mb) :=
  mt_cmp ((op_neD (by omega)).or (op_neA (by omega) (by rw [in1_units]; omega))) opM_neX ha hb (nomark _)
end
end Mir
end

section
set_option Elab.async false
set_option linter.all false
set_option maxRecDepth 100000
/-! Mir25: instances: fields, stores, methods, makings; xs[i] = v; [..] * k; what is never reached. -/
namespace Mir
open PySem PySem.Spec
open PyProof.Rows L2
/-! ### instances -/
def putFd (f : Str) (d : Dat) : List (Str × Dat) → List (Str × Dat)
  | [] => [(f, d)]
  | (g, x) :: r => if g = f then (g, d) :: r else (g, x) :: putFd f d r
def lookF (f : Str) : List (Str × Dat) → Option Dat
  | [] => none
  | (g, x) :: r => if f = g then some x else lookF f r
def insC (c : Str) : Cell → Mo (List (Str × Dat))
  | .ins c' fs => if c' = c then pure fs else bad
  | _ => bad
/-- an instance of the class c: its cell and fields -/
def insOf (c : Str) : Dat → Mo (Nat × List (Str × Dat))
  | .ref n => do let k ← cellOf n; let fs ← insC c k; pure (n, fs)
  | _ => bad
section
variable {W : Wd} {β : Nat → Addr} {N : Nat} {H : Hp}
theorem fld_look (f : Str) : ∀ {fs : List (Str × Dat)} {vs : List V}, Rels W β N H (fs.map (·.2)) vs → (lookF f fs = none ∧ (List.zip (fs.map (·.1)) vs).lookup f = none) ∨ ∃ d v, lookF f fs = some d ∧ (List.zip (fs.map (·.1)) vs).lookup f = some v ∧ Rel W β N H d v
  | [], vs, r => .inl ⟨rfl, rfl⟩
  | (g, x) :: fs, vs, r => by
    rw [List.map_cons] at r
    unfold Rels at r
    obtain ⟨v, us, rfl, r1, r2⟩ := r
    rw [List.map_cons, List.zip_cons_cons, List.lookup_cons]
    unfold lookF
    by_cases e : f = g
    · have e' : (f == g) = true := by rw [e]; simp
      rw [if_pos e, e']
      exact .inr ⟨x, v, rfl, rfl, r1⟩
    · have e' : (f == g) = false := by simp [e]
      rw [if_neg e, e']
      exact fld_look f r2
theorem fld_put (f : Str) {d : Dat} {v : V} (rd : Rel W β N H d v) : ∀ {fs : List (Str × Dat)} {vs : List V}, Rels W β N H (fs.map (·.2)) vs → ∃ us, putF f v (List.zip (fs.map (·.1)) vs) = List.zip ((putFd f d fs).map (·.1)) us ∧ Rels W β N H ((putFd f d fs).map (·.2)) us
  | [], vs, r => ⟨[v], rfl, by show Rels W β N H [d] [v]; exact mk_lst1 rd⟩
  | (g, x) :: fs, vs, r => by
    rw [List.map_cons] at r
    unfold Rels at r
    obtain ⟨w, us, rfl, r1, r2⟩ := r
    rw [List.map_cons, List.zip_cons_cons]
    show ∃ us', (if g = f then (g, v) :: _ else (g, w) :: putF f v _) = _ ∧ _
    unfold putFd
    by_cases e : g = f
    · rw [if_pos e, if_pos e]
      refine ⟨v :: us, rfl, ?_⟩
      show Rels W β N H (d :: fs.map (·.2)) (v :: us)
      unfold Rels
      exact ⟨v, us, rfl, rd, r2⟩
    · rw [if_neg e, if_neg e]
      obtain ⟨us', e1, r'⟩ := fld_put f rd r2
      refine ⟨w :: us', by rw [e1]; rfl, ?_⟩
      show Rels W β N H (x :: (putFd f d fs).map (·.2)) (w :: us')
      unfold Rels
      exact ⟨w, us', rfl, r1, r'⟩
theorem len_putFd (f : Str) (d : Dat) : ∀ fs : List (Str × Dat), (putFd f d fs).length ≤ fs.length + 1
  | [] => Nat.le_refl _
  | (g, x) :: r => by
    have := len_putFd f d r
    unfold putFd
    split
    · rw [List.length_cons, List.length_cons]; omega
    · rw [List.length_cons, List.length_cons]; omega
end
section
variable {α τ : Type} {W : Wd} {R : (Nat → Addr) → Nat → Hp → α → τ → Prop} {β : Nat → Addr} {H : Hp} {h : Hm} {d : Dat} {v : V} {Q : τ → Hp → Prop} {E : Addr → Hp → Prop}
theorem Lands.insB {c : Str} {f : Nat × List (Str × Dat) → Mo α} (L : Lands W R β H h ((do let k ← insOf c d; f k) h) Q E) (s : Sim W β H h) (r : Rel W β h.length H d v) :
    ∃ n C dx fs vs, d = .ref n ∧ v = .ref (β n) ∧ h[n]? = some (.ins c fs) ∧ W.mg c = some (.ref C) ∧ H (β n) = some (.ins C dx (List.zip (fs.map (·.1)) vs)) ∧ Rels W β h.length H (fs.map (·.2)) vs ∧ Lands W R β H h (f (n, fs) h) Q E := by
  cases d with
  | ref n =>
    have L' : Lands W R β H h ((do let k ← cellOf n; let fs ← insC c k; f (n, fs)) h) Q E := by simpa only [insOf, bind_assoc, pure_bind] using L
    obtain ⟨k, e, hd, cr, L1⟩ := Lands.cellB L' s
    unfold Rel at r
    cases k with
    | ins c' fs =>
      obtain ⟨C, dx, vs, g, k, rs⟩ := cr
      by_cases z : c' = c
      · have ei : insC c (.ins c' fs) h = .val fs h := by
          have : insC c (.ins c' fs) = if c' = c then pure fs else bad := rfl
          rw [this, if_pos z]
          rfl
        rw [bnd_val ei] at L1
        exact ⟨n, C, dx, fs, vs, rfl, r.2, by rw [← z]; exact e, by rw [← z]; exact g, k, rs, L1⟩
      · have ei : insC c (.ins c' fs) h = .bad := by
          have : insC c (.ins c' fs) = if c' = c then pure fs else bad := rfl
          rw [this, if_neg z]
          rfl
        rw [bnd_bad ei] at L1; exact L1.elim
    | _ => exact L1.elim
  | _ => exact L.elim
end
/-- the class at c -/
def ClsAt (X : Cx) (c : Str) (C : Addr) : Prop := X.mg c = some (.ref C) ∧ Cls X.K C
section
variable {X : Cx} {Wx : WX} {c f m : Str} {C : Addr} {o e value : Expr} {es : List Expr} {ma mb : Mv} {ms : Ml} {pos pos' apos : Pos}
def fldM (c f : Str) (d : Dat) : Mo Dat := do let k ← insOf c d; optM (lookF f k.2)
def mFld (c f : Str) (ma : Mv) : Mv := fun ρ => do let x ← ma ρ; fldM c f x
theorem me_fld (hc : ClsAt X c C) (hn : NoAttr X.K C f) (ha : ME X Wx o ma) (hb : attributeBase o f X.env (eval o X.env) = eval o X.env := by rfl) : ME X Wx (.Attribute o f pos) (mFld c f ma) :=
  pe_weak (pe_fld ha hb) fun σ H Q ⟨β, ρ, h, er, s, L⟩ => one (f := fldM c f) er s L fun β1 H1 h1 d1 x s1 r1 A1 L1 => by
    obtain ⟨n, C', dx, fs, vs, e1, e2, e3, g, k, rs, L2⟩ := Lands.insB L1 s1 r1
    have hg : X.mg c = some (.ref C') := g
    rw [hc.1] at hg
    cases hg
    rcases fld_look f rs with ⟨l1, _⟩ | ⟨d, v, l1, l2, rv⟩
    · rw [l1] at L2; exact L2.elim
    · rw [l1] at L2
      exact ⟨β1 n, C, dx, _, v, e2, k, hc.2, hn, l2, L2.ret s1 rv⟩
/-- o.f = value -/
def insPut (c f : Str) (v : Dat) (k : Nat × List (Str × Dat)) : Mo Unit := fun h => if k.2.length < 1000 then .val () (h.set k.1 (.ins c (putFd f v k.2))) else .bad
def putFM (c f : Str) (x v : Dat) : Mo Unit := do let k ← insOf c x; insPut c f v k
def mSetFld (c f : Str) (ma mb : Mv) : Ms := fun ρ => do let v ← mb ρ; let x ← ma ρ; let _ ← putFM c f x v; pure (.nx ρ)
theorem ins_aft {W : Wd} {β : Nat → Addr} {H : Hp} {h : Hm} {n : Nat} {c : Str} {C dx : Addr} {fs fs' : List (Str × Dat)} {us : List V} (s : Sim W β H h) (e : h[n]? = some (.ins c fs)) (g : W.mg c = some (.ref C)) (r : Rels W β h.length H (fs'.map (·.2)) us) :
    Aft W β H h β (upd H (β n) (.ins C dx (List.zip (fs'.map (·.1)) us))) (h.set n (.ins c fs')) :=
  Aft.write s e (by simp) (fun t v k z => nomatch z) fun u eu n1 n2 => by
    have pe : PExt H (upd H (β n) (.ins C dx (List.zip (fs'.map (·.1)) us))) := ⟨fun a xs q => by rw [upd_ne (fun z => by rw [z, eu] at q; cases q; exact n1 _ rfl)]; exact q, fun a q' u' q => by rw [upd_ne (fun z => by rw [z, eu] at q; cases q; exact n2 _ _ rfl)]; exact q⟩
    exact ⟨C, dx, us, g, upd_same, Rels.mono pe (Nat.le_refl _) (fun _ _ => rfl) _ _ r⟩
theorem ms_setFld (hc : ClsAt X c C) (hn : NoAttr X.K C f) (ha : ME X Wx o ma) (hv : ME X Wx value mb) (hs : swapsWith value (some (.Attribute o f pos')) pos.line X.env = pure false := by rfl) :
    MS X Wx (.Assign [.Attribute o f pos'] value pos) (mSetFld c f ma mb) :=
  ps_weak (ps_fld ha hv hs) fun D σ H ⟨β, ρ, h, er, s, L⟩ =>
    oneS (f := fun v => do let x ← ma ρ; let _ ← putFM c f x v; pure (Fl.nx ρ)) er s L fun β1 H1 h1 dv v s1 r1 A1 L1 =>
    oneS (f := fun x => do let _ ← putFM c f x dv; pure (Fl.nx ρ)) (A1.er s er) s1 L1 fun β2 H2 h2 dx x s2 r2 A2 L2 => by
    have L2 : LandsS X Wx D β2 H2 h2 ((do let k ← insOf c dx; let _ ← insPut c f dv k; pure (Fl.nx ρ)) h2) := by
      simpa only [putFM, bind_assoc, pure_bind] using L2
    obtain ⟨n, C', dX, fs, vs, e1, e2, e3, g, k, rs, L3⟩ := Lands.insB L2 s2 r2
    have hg : X.mg c = some (.ref C') := g
    rw [hc.1] at hg
    cases hg
    by_cases z : fs.length < 1000
    · have ei : insPut c f dv (n, fs) h2 = .val () (h2.set n (.ins c (putFd f dv fs))) := if_pos z
      rw [bnd_val ei] at L3
      obtain ⟨us, e4, r4⟩ := fld_put f (A2.rel s1 r1) rs
      have hl : (List.zip (fs.map (·.1)) vs).length < 1000 := by
        rw [List.length_zip, List.length_map]; omega
      refine ⟨β2 n, C, dX, _, e2, k, hc.2, hn, hl, ?_⟩
      rw [e4]
      have A := ins_aft (C := C) (dx := dX) s2 e3 hc.1 r4
      exact L3 β2 _ (.nx σ) A (A.er s2 (A2.er s1 (A1.er s er)))
    · have ei : insPut c f dv (n, fs) h2 = .bad := if_neg z
      rw [bnd_bad ei] at L3; exact L3.elim
/-! ### methods -/
def tMethS (C : Addr) (m : Str) (sp : Sp) (E : L2.St → XK) (ta : TE) (t : TA) : TE := fun σ H Q => ta σ H fun x H1 => ∃ a dx fs, x = .ref a ∧ H1 a = some (.ins C dx fs) ∧ fs.lookup m = none ∧ t σ H1 fun vs H2 => sp (x :: vs) H2 Q (E σ)
variable {CX : CXT} {k : Nat} {g : Addr} {fd : FuncData} {ps : List Str} {sp : Sp} {E : L2.St → XK} {ta : TE} {t : TA}
theorem pe_methS {pl : Sem Bool} (he : PE X o ta) (c : Cls X.K C) (hm : Meth X.K C m g) (F : FnOk X.prog X.w X.K X.mg X.base CX k g fd ps sp) (hr : Room k X.A) (hb : Binds X.K fd ps []) (hx : ∀ σ, PassesAt CX X σ (E σ)) (ha : PA X (e :: es) t)
    (hst : starEach (e :: es) X.env = (false, eval e X.env) :: starEach es X.env := by rfl) (hpl : (backTo pos (starEach es X.env)).any (·.1) = false := by rfl)
    (ht : eval (.Call (.Attribute o m apos) (e :: es) [] pos) X.env = (do
      let ov ← eval o X.env
      standAt apos.atName
      let (f, first) ← holding [ov] (getMethod ov m pl)
      callWith pos f first (backTo pos (starEach (e :: es) X.env)) (backToKw pos (keywordEach [] X.env))) := by rfl) :
    PE X (.Call (.Attribute o m apos) (e :: es) [] pos) (tMethS C m sp E ta t) := by
  refine ⟨fun pins s σ H Q I h => ?_⟩
  refine PySem.W.methodCall_KW (pl := pl) (thn (he.run pins s σ H _ I h) fun u s1 ⟨x, H1, I1, rx, a, dx, fs, ex, ea, l, q⟩ => ?_) ht
  subst ex
  obtain rfl : u = Value.ref a := rx
  refine getmeth_ok I1 ea c hm l ?_
  refine PySem.W.callWith_K (first := [.ref a]) (h₀ := X.base) I.ok.mod.kin hm.kp (thn (ha.run pos pins s1 σ H1 _ I1 q) fun us s2 ⟨vs, H2, I2, r, q2⟩ => ⟨I2.kIn, ?_⟩) hst hpl
  exact run_fnS (us := .ref a :: us) (vs := .ref a :: vs) F hr hb (hx σ) I2 (.cons rfl r) q2
theorem pe_methS0 {pl : Sem Bool} (he : PE X o ta) (c : Cls X.K C) (hm : Meth X.K C m g) (F : FnOk X.prog X.w X.K X.mg X.base CX k g fd ps sp) (hr : Room k X.A) (hb : Binds X.K fd ps []) (hx : ∀ σ, PassesAt CX X σ (E σ))
    (ht : eval (.Call (.Attribute o m apos) [] [] pos) X.env = (do
      let ov ← eval o X.env
      standAt apos.atName
      let (f, first) ← holding [ov] (getMethod ov m pl)
      callWith pos f first (backTo pos (starEach [] X.env)) (backToKw pos (keywordEach [] X.env))) := by rfl) :
    PE X (.Call (.Attribute o m apos) [] [] pos) (tMethS C m sp E ta tNil) := by
  refine ⟨fun pins s σ H Q I h => ?_⟩
  refine PySem.W.methodCall_KW (pl := pl) (thn (he.run pins s σ H _ I h) fun u s1 ⟨x, H1, I1, rx, a, dx, fs, ex, ea, l, q⟩ => ?_) ht
  subst ex
  obtain rfl : u = Value.ref a := rx
  refine getmeth_ok I1 ea c hm l ?_
  exact PySem.W.callWith_K0 (first := [.ref a]) I1.kIn hm.kp (run_fnS (us := [.ref a]) (vs := [.ref a]) F hr hb (hx σ) I1 (.cons rfl .nil) q)
/-- the instance, its method's name not a field -/
def selfC (m : Str) (d : Dat) (k : Nat × List (Str × Dat)) : Mo Dat := fun h => if lookF m k.2 = none then .val d h else .bad
def selfM (c m : Str) (d : Dat) : Mo Dat := do let k ← insOf c d; selfC m d k
def mMeth (c m : Str) (fm : List Dat → Mo Dat) (ma : Mv) (ms : Ml) : Mv := fun ρ => do let x ← ma ρ; let y ← selfM c m x; let xs ← ms ρ; fm (y :: xs)
theorem Lands.selfB {α τ : Type} {W : Wd} {R : (Nat → Addr) → Nat → Hp → α → τ → Prop} {β : Nat → Addr} {H : Hp} {h : Hm} {d : Dat} {v : V} {Q : τ → Hp → Prop} {E : Addr → Hp → Prop} {f : Dat → Mo α} (L : Lands W R β H h ((do let k ← selfM c m d; f k) h) Q E) (s : Sim W β H h) (r : Rel W β h.length H d v) :
    ∃ a C dx fs, v = .ref a ∧ W.mg c = some (.ref C) ∧ H a = some (.ins C dx fs) ∧ fs.lookup m = none ∧ Lands W R β H h (f d h) Q E := by
  have L' : Lands W R β H h ((do let k ← insOf c d; let y ← selfC m d k; f y) h) Q E := by simpa only [selfM, bind_assoc, pure_bind] using L
  obtain ⟨n, C, dx, fs, vs, e1, e2, e3, g, k, rs, L1⟩ := Lands.insB L' s r
  by_cases z : lookF m fs = none
  · have ei : selfC m d (n, fs) h = .val d h := if_pos z
    rw [bnd_val ei] at L1
    rcases fld_look m rs with ⟨_, l2⟩ | ⟨d', v', l1, _⟩
    · exact ⟨β n, C, dx, _, e2, g, k, l2, L1⟩
    · rw [z] at l1; cases l1
  · have ei : selfC m d (n, fs) h = .bad := if_neg z
    rw [bnd_bad ei] at L1; exact L1.elim
variable {n : Nat} {fm : List Dat → Mo Dat}
/-- a call with the first argument there already -/
theorem self_core {σ : L2.St} {H : Hp} {Q : VK} {β : Nat → Addr} {ρ : Env'} {h : Hm} {y : Dat} {v : V} (er : ER (wd X) X.N.length β h.length H ρ σ) (s : Sim (wd X) β H h) (r : Rel (wd X) β h.length H y v)
    (L : Lands (wd X) (Rel (wd X)) β H h ((do let xs ← ms ρ; fm (y :: xs)) h) Q (exW Wx σ)) (hlen : LenM ms n) : tMA X Wx ms σ H fun vs H1 => spM (wd X) (n + 1) fm (v :: vs) H1 Q (WE Wx σ) := by
  refine ⟨β, ρ, h, er, s, ?_⟩
  cases em : ms ρ h with
  | bad => rw [bnd_bad em] at L; exact L
  | exc c h' => rw [bnd_exc em] at L; exact L
  | val xs h1 =>
    rw [bnd_val em] at L
    refine fun β1 H1 vs A rs => ⟨?_, β1, h1, y :: xs, ?_, A.sim, L.after A⟩
    · rw [List.length_cons, ← rs.length, hlen _ _ _ _ em]
    · unfold Rels
      exact ⟨v, vs, rfl, A.rel s r, rs⟩
theorem me_meth {pl : Sem Bool} (hc : ClsAt X c C) (hm : Meth X.K C m g) (F : FnOk X.prog X.w X.K X.mg X.base (L2.CX X.prog X.w) k g fd ps (spM (wd X) (n + 1) fm)) (hr : Room k X.A) (hb : Binds X.K fd ps []) (tk : Takes X Wx)
    (ho : ME X Wx o ma) (ha : MA X Wx (e :: es) ms) (hlen : LenM ms n)
    (hst : starEach (e :: es) X.env = (false, eval e X.env) :: starEach es X.env := by rfl) (hpl : (backTo pos (starEach es X.env)).any (·.1) = false := by rfl)
    (ht : eval (.Call (.Attribute o m apos) (e :: es) [] pos) X.env = (do
      let ov ← eval o X.env
      standAt apos.atName
      let (f, first) ← holding [ov] (getMethod ov m pl)
      callWith pos f first (backTo pos (starEach (e :: es) X.env)) (backToKw pos (keywordEach [] X.env))) := by rfl) :
    ME X Wx (.Call (.Attribute o m apos) (e :: es) [] pos) (mMeth c m fm ma ms) :=
  pe_weak (pe_methS (pl := pl) ho hc.2 hm F hr hb (E := WE Wx) (fun σ => passAt tk σ) ha hst hpl ht) fun σ H Q ⟨β, ρ, h, er, s, L⟩ => one (f := fun x => do let y ← selfM c m x; let xs ← ms ρ; fm (y :: xs)) er s L fun β1 H1 h1 d1 x s1 r1 A1 L1 => by
    obtain ⟨a, C', dx, fs, e1, g', k', l, L2⟩ := Lands.selfB (f := fun y => do let xs ← ms ρ; fm (y :: xs)) L1 s1 r1
    have hg : X.mg c = some (.ref C') := g'
    rw [hc.1] at hg
    cases hg
    exact ⟨a, dx, fs, e1, k', l, self_core (A1.er s er) s1 r1 L2 hlen⟩
theorem me_meth0 {pl : Sem Bool} (hc : ClsAt X c C) (hm : Meth X.K C m g) (F : FnOk X.prog X.w X.K X.mg X.base (L2.CX X.prog X.w) k g fd ps (spM (wd X) 1 fm)) (hr : Room k X.A) (hb : Binds X.K fd ps []) (tk : Takes X Wx) (ho : ME X Wx o ma)
    (ht : eval (.Call (.Attribute o m apos) [] [] pos) X.env = (do
      let ov ← eval o X.env
      standAt apos.atName
      let (f, first) ← holding [ov] (getMethod ov m pl)
      callWith pos f first (backTo pos (starEach [] X.env)) (backToKw pos (keywordEach [] X.env))) := by rfl) :
    ME X Wx (.Call (.Attribute o m apos) [] [] pos) (mMeth c m fm ma mNil) :=
  pe_weak (pe_methS0 (pl := pl) ho hc.2 hm F hr hb (E := WE Wx) (fun σ => passAt tk σ) ht) fun σ H Q ⟨β, ρ, h, er, s, L⟩ => one (f := fun x => do let y ← selfM c m x; let xs ← mNil ρ; fm (y :: xs)) er s L fun β1 H1 h1 d1 x s1 r1 A1 L1 => by
    obtain ⟨a, C', dx, fs, e1, g', k', l, L2⟩ := Lands.selfB (f := fun y => do let xs ← mNil ρ; fm (y :: xs)) L1 s1 r1
    have hg : X.mg c = some (.ref C') := g'
    rw [hc.1] at hg
    cases hg
    refine ⟨a, dx, fs, e1, k', l, ?_⟩
    show spM (wd X) 1 fm [x] H1 Q (WE Wx σ)
    refine ⟨rfl, β1, h1, [d1], ?_, s1, L2⟩
    exact mk_lst1 r1
/-! ### makings -/
def tMakeS (C : Addr) (sp : Sp) (E : L2.St → XK) (t : TA) : TE := fun σ H Q => t σ H fun vs H1 => ∀ x dx, H1 x = none → H1 dx = none → dx ≠ x →
  sp (.ref x :: vs) (upd (upd H1 dx (.own x)) x (.ins C dx [])) (fun v H2 => v = .non ∧ Q (.ref x) H2) (E σ)
theorem run_makeS {pins : List (Addr × Obj)} {σ : L2.St} {H : Hp} {s : Shared} {Q : VK} {us : List Value} {vs : List V} (M : Mk X.K C g) (F : FnOk X.prog X.w X.K X.mg X.base CX k g fd ps sp) (hr : Room (k + 1) X.A) (hb : Binds X.K fd ps [])
    (hx : PassesAt CX X σ (E σ)) (I : Inv X pins σ H s) (r : Vals vs us)
    (h : ∀ x dx, H x = none → H dx = none → dx ≠ x → sp (.ref x :: vs) (upd (upd H dx (.own x)) x (.ins C dx [])) (fun v H2 => v = .non ∧ Q (.ref x) H2) (E σ)) :
    wpAny (model X.prog X.w) X.A (call (.ref C) us) (EP X pins σ Q) X.xe s := by
  have hq := h (s.heap.objs.size + 1) s.heap.objs.size (I.hok.fresh (Nat.le_succ _)) (I.hok.fresh (Nat.le_refl _)) (Nat.ne_of_lt (Nat.lt_succ_self _))
  have I2 := Inv.made (C := C) I
  have r2 : Vals (V.ref (s.heap.objs.size + 1) :: vs) (Value.ref (s.heap.objs.size + 1) :: us) := .cons rfl r
  have hl : (Value.ref (s.heap.objs.size + 1) :: us).length = ps.length := by
    have e := r2.length
    rw [F.len _ _ _ _ hq] at e
    exact e.symm
  have b := hb { s with heap := (s.heap.push PySem.W.emptyDict).push (PySem.W.instObj C s.heap.objs.size) } (Value.ref (s.heap.objs.size + 1) :: us) I2.kIn (by rw [List.append_nil]; exact hl)
  rw [List.append_nil] at b
  refine wpAny_call (make_map (f := g) I.kIn M.makes M.init (beq_iff_eq.mp M.fn) (codeAny_mono (F.run _ X.stack _ _ ⟨Value.ref (s.heap.objs.size + 1) :: us, []⟩ (Value.ref (s.heap.objs.size + 1) :: us) _ _ (E σ) (hr.make C us [])
    (I2.env0.make C us []) b r2 hq) fun r s' hq' => ?_))
  cases r with
  | error e => exact hx pins _ _ e s' I2 hq'
  | ok fl =>
    cases fl with
    | ret u =>
      obtain ⟨v, H', I3, rv, ev, q3⟩ := I2.after hq'
      subst ev
      exact ⟨rv, ⟨V.ref (s.heap.objs.size + 1), H', I3, rfl, q3⟩⟩
    | next => exact False.elim hq'
    | brk => exact False.elim hq'
    | cont => exact False.elim hq'
variable {x : Str} {p : Pos}
theorem pe_makeS (M : Mk X.K C g) (F : FnOk X.prog X.w X.K X.mg X.base CX k g fd ps sp) (hr : Room (k + 1) X.A) (hg : Gl X x) (hm : X.mg x = some (.ref C)) (hb : Binds X.K fd ps []) (hx : ∀ σ, PassesAt CX X σ (E σ))
    (ha : PA X (e :: es) t) (hdb : (x == ("__debug__" : Str)) = false := by decide) (he : starEach (e :: es) X.env = (false, eval e X.env) :: starEach es X.env := by rfl) (hpl : (backTo pos (starEach es X.env)).any (·.1) = false := by rfl) :
    PE X (.Call (.Name x p) (e :: es) [] pos) (tMakeS C sp E t) := by
  refine ⟨fun pins s σ H Q I h => ?_⟩
  refine wpAny_Call_Name_kw (ld_glob I hg hm ?_ hdb)
  refine PySem.W.callWith_K (h₀ := X.base) I.ok.mod.kin M.kp (thn (ha.run pos pins s σ H _ I h) fun us s1 ⟨vs, H1, I1, r, q⟩ => ⟨I1.kIn, ?_⟩) he hpl
  exact run_makeS M F hr hb (hx σ) I1 r q
/-- what __init__ gives: None; then the instance -/
def isNonM (y : Dat) (s : Dat) : Mo Dat := match y with
  | .non => pure s
  | _ => bad
def mMake (c : Str) (fm : List Dat → Mo Dat) (ms : Ml) : Mv := fun ρ => do let xs ← ms ρ; let s ← alloc (.ins c []); let r ← fm (s :: xs); isNonM r s
theorem me_make (hc : X.mg c = some (.ref C)) (M : Mk X.K C g) (F : FnOk X.prog X.w X.K X.mg X.base (L2.CX X.prog X.w) k g fd ps (spM (wd X) (n + 1) fm)) (hr : Room (k + 1) X.A) (hg : Gl X c) (hb : Binds X.K fd ps []) (tk : Takes X Wx)
    (ha : MA X Wx (e :: es) ms) (hlen : LenM ms n) (hdb : (c == ("__debug__" : Str)) = false := by decide) (he : starEach (e :: es) X.env = (false, eval e X.env) :: starEach es X.env := by rfl) (hpl : (backTo pos (starEach es X.env)).any (·.1) = false := by rfl) :
    ME X Wx (.Call (.Name c p) (e :: es) [] pos) (mMake c fm ms) :=
  pe_weak (pe_makeS M F hr hg hc hb (E := WE Wx) (fun σ => passAt tk σ) ha hdb he hpl) fun σ H Q ⟨β, ρ, h, er, s, L⟩ => by
    have L : Lands (wd X) (Rel (wd X)) β H h ((do let xs ← ms ρ; let s ← alloc (.ins c []); let r ← fm (s :: xs); isNonM r s) h) Q (exW Wx σ) := L
    refine ⟨β, ρ, h, er, s, ?_⟩
    cases em : ms ρ h with
    | bad => rw [bnd_bad em] at L; exact L
    | exc c h' => rw [bnd_exc em] at L; exact L
    | val xs h1 =>
      rw [bnd_val em] at L
      intro β1 H1 vs A rs x dx hx hdx ne
      have s1 := A.sim
      have A1 : Aft (wd X) β1 H1 h1 β1 (upd H1 dx (.own x)) h1 := Aft.laid s1 hdx
      have hx' : (upd H1 dx (.own x)) x = none := by rw [upd_ne (Ne.symm ne)]; exact hx
      have A2 : Aft (wd X) β1 (upd H1 dx (.own x)) h1 (bx β1 h1.length x) (upd (upd H1 dx (.own x)) x (.ins C dx [])) (h1 ++ [.ins c []]) :=
        Aft.alloc A1.sim hx' ⟨C, dx, [], hc, upd_same, by show Rels _ _ _ _ [] []; unfold Rels; rfl⟩
      have A12 := A1.trans A2
      have L1 : Lands (wd X) (Rel (wd X)) β1 H1 h1 ((do let r ← fm (.ref h1.length :: xs); isNonM r (.ref h1.length)) (h1 ++ [Cell.ins c []])) Q (exW Wx σ) := L.after A
      have L2 := L1.after A12
      refine ⟨?_, _, _, .ref h1.length :: xs, ?_, A2.sim, ?_⟩
      · rw [List.length_cons, ← rs.length, hlen _ _ _ _ em]
      · unfold Rels
        refine ⟨_, vs, rfl, ?_, A12.rels s1 rs⟩
        unfold Rel
        exact ⟨by simp, by rw [bx_eq]⟩
      · refine (Lands.bind (R' := Rel (wd X)) L2).mono fun v H3 ⟨β3, h3, d3, s3, r3, A3, L3⟩ => ?_
        cases d3 with
        | non =>
          refine ⟨rel_non r3, L3.ret s3 ?_⟩
          have : Rel (wd X) (bx β1 h1.length x) (h1 ++ [Cell.ins c []]).length (upd (upd H1 dx (.own x)) x (.ins C dx [])) (.ref h1.length) (.ref x) := by
            unfold Rel
            exact ⟨by simp, by rw [bx_eq]⟩
          exact A3.rel A2.sim this
        | _ => exact L3.elim
/-! ### what is never reached -/
theorem mss_bad {body : List Stmt} : MSs X Wx body (fun _ => bad) := ⟨fun pins s σ H D I ⟨β, ρ, h, er, sm, L⟩ => L.elim⟩
theorem ms_bad {st : Stmt} : MS X Wx st (fun _ => bad) := ⟨fun pins s σ H D I ⟨β, ρ, h, er, sm, L⟩ => L.elim⟩
theorem me_bad {e : Expr} : ME X Wx e (fun _ => bad) := ⟨fun pins s σ H D I ⟨β, ρ, h, er, sm, L⟩ => L.elim⟩
/-! ### xs[i] = v -/
def putLC (c : Nat × List Dat) (i : Int) (v : Dat) : Mo Unit := match ixN c.2.length i with
  | some j => fun h => .val () (h.set c.1 (.lst (c.2.set j v)))
  | none => bad
def putLM (x k v : Dat) : Mo Unit := do let c ← lref x; let i ← intOf k; putLC c i v
def mPutL (mo mk mv : Mv) : Ms := fun ρ => do let v ← mv ρ; let x ← mo ρ; let k ← mk ρ; let _ ← putLM x k v; pure (.nx ρ)
theorem Rels.setAt {W : Wd} {β : Nat → Addr} {N : Nat} {H : Hp} {d : Dat} {v : V} (r : Rel W β N H d v) : ∀ {xs : List Dat} {vs : List V} (j : Nat), Rels W β N H xs vs → Rels W β N H (xs.set j d) (vs.set j v)
  | [], vs, j, h => by unfold Rels at h; subst h; simp [Rels]
  | x :: xs, vs, 0, h => by
    unfold Rels at h
    obtain ⟨u, us, rfl, h1, h2⟩ := h
    rw [List.set_cons_zero, List.set_cons_zero]
    unfold Rels
    exact ⟨v, us, rfl, r, h2⟩
  | x :: xs, vs, j + 1, h => by
    unfold Rels at h
    obtain ⟨u, us, rfl, h1, h2⟩ := h
    rw [List.set_cons_succ, List.set_cons_succ]
    unfold Rels
    exact ⟨u, _, rfl, h1, Rels.setAt r j h2⟩
theorem ms_putL {oe i : Expr} {mo mk mv : Mv} (ho : ME X Wx oe mo) (hi : ME X Wx i mk) (hv : ME X Wx value mv)
    (ha : ∀ v, assign (.Subscript oe i pos') X.env v = (do
      let ov ← holding [v] (eval oe X.env)
      let iv ← holding [v, ov] (eval i X.env)
      standAt pos'
      holding [v, ov, iv] (setItem ov iv v)
      release [v, ov, iv] []) := by intro _; rfl)
    (hs : swapsWithSole [.Subscript oe i pos'] value pos.line X.env = pure false := by rfl) (hw : swappedStores [.Subscript oe i pos'] value X.env = pure none := by rfl) (h1 : (assignEach [.Subscript oe i pos'] X.env).map (·.2) = [assign (.Subscript oe i pos') X.env] := by rfl) :
    MS X Wx (.Assign [.Subscript oe i pos'] value pos) (mPutL mo mk mv) :=
  ps_weak (ps_asg hv (pg_sub ho hi set_list ha) hs hw h1) fun D σ H ⟨β, ρ, h, er, s, L⟩ =>
    oneS (f := fun v => do let x ← mo ρ; let k ← mk ρ; let _ ← putLM x k v; pure (Fl.nx ρ)) er s L fun β1 H1 h1 dv v s1 r1 A1 L1 =>
    oneS (f := fun x => do let k ← mk ρ; let _ ← putLM x k dv; pure (Fl.nx ρ)) (A1.er s er) s1 L1 fun β2 H2 h2 dx x s2 r2 A2 L2 =>
    oneS (f := fun k => do let _ ← putLM dx k dv; pure (Fl.nx ρ)) (A2.er s1 (A1.er s er)) s2 L2 fun β3 H3 h3 dk y s3 r3 A3 L3 => by
    have L3 : LandsS X Wx D β3 H3 h3 ((do let c ← lref dx; let i ← intOf dk; let _ ← putLC c i dv; pure (Fl.nx ρ)) h3) := by
      simpa only [putLM, bind_assoc, pure_bind] using L3
    obtain ⟨n, xs, vs, e1, e2, e3, k, rs, L4⟩ := Lands.lrefB L3 s3 (A3.rel s2 r2)
    obtain ⟨j, e4, L5⟩ := Lands.intB L4 r3
    unfold putLC at L5
    cases q : ixN xs.length j with
    | none => rw [q] at L5; exact L5.elim
    | some m =>
      rw [q] at L5
      refine ⟨β3 n, vs, j, m, e2, e4, k, by rw [← rs.length]; exact q, ?_⟩
      have rv := A3.rel s2 (A2.rel s1 r1)
      refine Lands.setL (R := RFl (wd X) X.N.length) (v := FlV.nx σ) (ys := xs) (xs := xs.set m dv) (a := .nx ρ) L5 s3 e3 (rs.setAt rv m) fun N' H' pe hl => ?_
      have er3 := A3.er s2 (A2.er s1 (A1.er s er))
      exact ⟨er3.1, fun i d e => by
        obtain ⟨u, e1, r1⟩ := er3.2 i d e
        exact ⟨u, e1, Rel.mono pe hl (fun _ _ => rfl) _ _ r1⟩⟩
/-! ### [..] * k -/
def repM (xs : List Dat) (k : Int) : Mo (List Dat) := if (-(2 ^ 63) ≤ k ∧ k < 2 ^ 63) ∧ xs.length * k.toNat ≤ sizeLine then pure (List.replicate k.toNat xs).flatten else bad
def mRep (ml : Ml) (k : Int) : Ml := fun ρ => do let xs ← ml ρ; repM xs k
theorem rels_rep {W : Wd} {β : Nat → Addr} {N : Nat} {H : Hp} {xs : List Dat} {vs : List V} (r : Rels W β N H xs vs) : ∀ m : Nat, Rels W β N H (List.replicate m xs).flatten (List.replicate m vs).flatten
  | 0 => by show Rels W β N H [] []; unfold Rels; rfl
  | m + 1 => by
    rw [List.replicate_succ, List.replicate_succ, List.flatten_cons, List.flatten_cons]
    exact r.append (rels_rep r m)
theorem ml_rep {ml : Ml} {i : Int} {a1 p1} (ha : MLs X Wx e ml) : MLs X Wx (.BinOp e .Mult (.Constant (.int i) a1 p1) pos) (mRep ml i) :=
  pe_weak (pe_op op_rep ha pe_int) fun σ H Q ⟨β, ρ, h, er, s, L⟩ => ⟨β, ρ, h, er, s, (Lands.bind (R' := fun β N H => Rels (wd X) β N H) (f := fun xs => repM xs i) L).mono fun vs H1 ⟨β1, h1, ds, s1, r1, A1, L1⟩ p hp => by
    obtain ⟨⟨⟨z1, z2⟩, z3⟩, L2⟩ := Lands.ifB L1
    refine ⟨p, i, vs, rfl, rfl, upd_same, z1, z2, by rw [← r1.length]; exact z3, fun q hq => ?_⟩
    have A2 : Aft (wd X) β1 H1 h1 β1 (upd H1 p (.lst vs)) h1 := Aft.laid s1 hp
    exact L2 β1 _ _ A2 (A2.rels s1 (rels_rep r1 _)) q hq⟩
end
end Mir
end

section
set_option Elab.async false
set_option linter.all false
set_option maxRecDepth 100000
set_option maxHeartbeats 4000000
/-! Com: what the plain laws have in common. -/
namespace Cm
open PySem Mir L2
abbrev smallS : Str := "abcdefghijklmnopqrstuvwxyz"
abbrev greatS : Str := "ABCDEFGHIJKLMNOPQRSTUVWXYZ"
def inS (z : Str) (c : Nat) : Bool := decide (c ∈ z.cps.toList)
def allS (w : Str) (xs : List Nat) : Bool := xs.all (inS w)
def len8 (z : Str) : Bool := decide (1 ≤ z.length ∧ z.length ≤ 8)
def isNameS (z : Str) : Bool := len8 z && allS smallS z.cps.toList
def isWordS (z : Str) : Bool := len8 z && (inS greatS (z.cps.getD 0 0) && allS smallS (z.cps.toList.drop 1))
def isName : Dat → Bool
  | .str z => isNameS z
  | _ => false
def isWord : Dat → Bool
  | .str z => isWordS z
  | _ => false
def isWhole : Dat → Bool
  | .int _ => true
  | _ => false
def isValue : Dat → Bool
  | .str z => isNameS z
  | .int i => decide (-999999999 ≤ i ∧ i ≤ 999999999)
  | _ => false
def isRow : Dat → Bool
  | .tup (x :: xs) => decide (xs.length ≤ 4) && isName x
  | _ => false
def isThing : Dat → Bool
  | .tup (x :: xs) => (decide (xs.length ≤ 4) && isName x) && xs.all isValue
  | _ => false
def isPattern : Dat → Bool
  | .tup (x :: xs) => (decide (xs.length ≤ 4) && isName x) && xs.all fun y => isValue y || isWord y
  | _ => false
/-- short texts of signs -/
def OkS (z : Str) : Prop := z.length ≤ 100 ∧ ∀ c ∈ z.cps.toList, c < 1114112
def Ok : Dat → Prop
  | .str z => OkS z
  | .ref _ => False
  | .exn _ => False
  | _ => True
def OkT : Dat → Prop
  | .str z => OkS z
  | .ref _ => False
  | .exn _ => False
  | .tup xs => ∀ x ∈ xs, Ok x
  | .lst xs => ∀ x ∈ xs, Ok x
  | _ => True
theorem len_line {z : Str} (o : OkS z) : z.length ≤ sizeLine := Nat.le_trans o.1 (by decide)
theorem sign_in (c : Nat) (z : Str) (h : Hm) : cInT (.str ⟨#[c]⟩) (.str z) h = .val (inS z c) h := by simp [inS]
theorem sign_nin (c : Nat) (z : Str) (h : Hm) : cNinT (.str ⟨#[c]⟩) (.str z) h = .val (!inS z c) h := by simp [inS]
theorem lc_signs (z w : Str) (a : Option Dat) (h : Hm) : lcL ⟨signsOf z, none⟩ (bName 1) mYes (mCmp cInT (mVar 1) (mC (.str w))) [a, none] (signsOf z) [] h = .val (z.cps.toList.map fun c => .bl (inS w c)) h := by
  have k := lc_all (src := ⟨signsOf z, none⟩) rfl (bd := bName 1) (e := mCmp cInT (mVar 1) (mC (.str w))) (ρ0 := [a, none]) (h := h) (fun x => .bl (match x with | .str y => inS w (y.cps.getD 0 0) | _ => false)) (signsOf z) fun d hd => ⟨_, rfl, by
    unfold signsOf at hd
    obtain ⟨c, hc, rfl⟩ := List.mem_map.mp hd
    simp [inS]⟩
  refine k.trans ?_
  unfold signsOf
  rw [List.map_map]
  rfl
theorem optBlN (xs : List Nat) (p : Nat → Bool) : optAll isBl (xs.map fun x => .bl (p x)) = some (xs.map p) := by
  induction xs with
  | nil => rfl
  | cons x xs ih => simp [ih]
theorem all_blsN (w : Str) (xs : List Nat) (h : Hm) : allD (.lst (xs.map fun x => .bl (inS w x))) h = .val (.bl (allS w xs)) h := by
  show (optM (optAll isBl (xs.map fun x => .bl (inS w x))) >>= fun bs => pure (Dat.bl (bs.all id))) h = _
  rw [optBlN]
  show Res.val (Dat.bl ((xs.map fun x => inS w x).all id)) h = _
  rw [List.all_map]
  rfl
theorem cut1 (z : Str) : (cutS z (some 1) none).cps.toList = z.cps.toList.drop 1 := by
  unfold cutS
  have e : HT.sIx z.length 0 (some 1) = min 1 z.length := HT.sIx_nat _ _ 1
  rw [e]
  show (List.take (z.length - min 1 z.length) (List.drop (min 1 z.length) z.cps.toList)) = _
  have hl : z.cps.toList.length = z.length := by rw [Array.length_toList]; rfl
  by_cases q : 1 ≤ z.length
  · rw [Nat.min_eq_left q, List.take_of_length_le (by rw [List.length_drop, hl]; exact Nat.le_refl _)]
  · have q0 : z.length = 0 := by omega
    have : z.cps.toList = [] := List.eq_nil_of_length_eq_zero (by rw [hl, q0])
    rw [this]
    simp
theorem cut1_len (z : Str) : (cutS z (some 1) none).length ≤ z.length := by
  have e : (cutS z (some 1) none).length = (cutS z (some 1) none).cps.toList.length := by rw [Array.length_toList]; rfl
  rw [e, cut1, List.length_drop, Array.length_toList]
  exact Nat.sub_le _ _
theorem first_sign {z : Str} (q : 1 ≤ z.length) : atI z.cps.toList 0 = some (z.cps.getD 0 0) := by
  have hl : z.cps.toList.length = z.length := by rw [Array.length_toList]; rfl
  unfold atI ixN
  rw [if_pos (by decide), if_pos (by rw [hl]; omega)]
  show z.cps.toList[0]? = _
  have h0 : 0 < z.cps.size := q
  rw [Array.getElem?_toList]
  simp [Array.getD, h0]
theorem lenI (xs : List Dat) (h : Hm) : lenD (.tup xs) h = .val (.int xs.length) h := by simp
theorem at0 {α : Type} (x : α) (xs : List α) : atI (x :: xs) 0 = some x := by
  unfold atI ixN
  rw [if_pos (by decide), if_pos (by simp)]
  rfl
/-- a comprehension of looks over plain parts -/
theorem lc_looks {p : Dat → Bool} {e : Mv} {a : Option Dat} {h : Hm} (ds : List Dat) (k : ∀ d ∈ ds, ∀ ρ : Env', ρ[1]? = some (some d) → e ρ h = .val (.bl (p d)) h) : lcL ⟨ds, none⟩ (bName 1) mYes e [a, none] ds [] h = .val (ds.map fun d => .bl (p d)) h :=
  lc_all (src := ⟨ds, none⟩) rfl (fun d => .bl (p d)) ds fun d hd => ⟨_, rfl, k d hd _ rfl⟩
theorem cutT1 (x : Dat) (xs : List Dat) : cutD (x :: xs) (some 1) none = xs := by
  unfold cutD
  have e : HT.sIx (x :: xs).length 0 (some 1) = min 1 (x :: xs).length := HT.sIx_nat _ _ 1
  rw [e]
  show List.take ((x :: xs).length - min 1 (x :: xs).length) (List.drop (min 1 (x :: xs).length) (x :: xs)) = xs
  have : min 1 (x :: xs).length = 1 := by simp
  rw [this]
  simp
theorem up_small : Txt.upper smallS = greatS := by decide +kernel
theorem eq_nil (ys : List Dat) (h : Hm) (k : ∀ y ∈ ys, ∃ z, y = .str z ∧ PyData.strOk z = true) : cEqD (.lst ys) (.lst []) h = .val ys.isEmpty h := by
  have e : ∀ (n : Nat) (ys : List Dat), (∀ y ∈ ys, ∃ z, y = .str z ∧ PyData.strOk z = true) → ∃ ps, optAll (toPy h (n + 1)) ys = some ps ∧ ps.length = ys.length := fun n ys => by
    induction ys with
    | nil => intro _; exact ⟨[], rfl, rfl⟩
    | cons y ys ih =>
      intro k
      obtain ⟨z, rfl, hz⟩ := k y (by simp)
      obtain ⟨ps, e1, e2⟩ := ih fun y hy => k y (List.mem_cons_of_mem _ hy)
      have hz' : PyData.canLay0 (.str z) = true := by simp [PyData.canLay0, hz]
      exact ⟨.str z :: ps, by simp [toPy, hz', e1], by simp [e2]⟩
  obtain ⟨ps, e1, e2⟩ := e 28 ys k
  have p1 : pyOf (.lst ys) h = .val (.list ps) h := pyOf_val (by simp [toPy, e1])
  have p2 : pyOf (.lst []) h = .val (.list []) h := pyOf_val (by simp [toPy])
  have q : PyData.eqv (.list ps) (.list []) = ys.isEmpty := by
    cases ps with
    | nil =>
      have : ys = [] := List.eq_nil_of_length_eq_zero (by rw [← e2]; rfl)
      rw [this]
      simp [PyData.eqv, PyData.eqvAll]
    | cons p ps =>
      cases ys with
      | nil => simp at e2
      | cons y ys => simp [PyData.eqv, PyData.eqvAll]
  simp [cEqD, p1, p2, q]
theorem lc_bad (z : Str) (b : Option Dat) (a : Dat) (h : Hm) : lcL ⟨signsOf z, none⟩ (bName 3) (mCmpT cNinT (mVar 3) (mVar 2)) (mVar 3) [some a, b, some (.str smallS), none] (signsOf z) [] h = .val ((z.cps.toList.filter fun c => !inS smallS c).map fun c => .str ⟨#[c]⟩) h := by
  have k := lc_map (src := ⟨signsOf z, none⟩) rfl (bd := bName 3) (c := mCmpT cNinT (mVar 3) (mVar 2)) (e := mVar 3) (ρ0 := [some a, b, some (.str smallS), none]) (h := h) (fun x => match x with | .str y => if inS smallS (y.cps.getD 0 0) = true then none else some x | _ => none) (signsOf z) [] fun d hd => ⟨_, rfl, by
    unfold signsOf at hd
    obtain ⟨c, hc, rfl⟩ := List.mem_map.mp hd
    have e := sign_nin c smallS h
    cases q : inS smallS c
    · refine .inr ⟨.str ⟨#[c]⟩, ?_, ?_, ?_⟩
      · show (if inS smallS c = true then none else some (Dat.str ⟨#[c]⟩)) = _
        rw [q, if_neg Bool.false_ne_true]
      · rw [q] at e
        simpa using e
      · simp
    · refine .inl ⟨?_, ?_⟩
      · show (if inS smallS c = true then none else some (Dat.str ⟨#[c]⟩)) = _
        rw [q, if_pos rfl]
      · rw [q] at e
        simpa using e⟩
  refine k.trans ?_
  congr 1
  unfold signsOf
  induction z.cps.toList with
  | nil => rfl
  | cons c cs ih =>
    rw [List.map_cons, List.filterMap_cons, List.filter_cons]
    have e0 : (match (Dat.str ⟨#[c]⟩) with | .str y => if inS smallS (y.cps.getD 0 0) = true then none else some (Dat.str ⟨#[c]⟩) | _ => none) = if inS smallS c = true then none else some (Dat.str ⟨#[c]⟩) := rfl
    rw [e0]
    cases q : inS smallS c
    · simp only [Bool.false_eq_true, if_false, Bool.not_false, if_true, List.map_cons, List.nil_append] at ih ⊢
      rw [ih]
    · simp only [if_true, Bool.not_true, Bool.false_eq_true, if_false, List.nil_append] at ih ⊢
      exact ih
theorem bad_empty (xs : List Nat) : ((xs.filter fun c => !inS smallS c).map fun c => Dat.str ⟨#[c]⟩).isEmpty = allS smallS xs := by
  unfold allS
  induction xs with
  | nil => rfl
  | cons c cs ih =>
    rw [List.filter_cons, List.all_cons]
    cases q : inS smallS c
    · simp
    · simpa using ih
theorem strOk1 {c : Nat} (q : c < 1114112) : PyData.strOk ⟨#[c]⟩ = true := by simp [PyData.strOk, q]
def letD (b : Bool) (d : Dat) : Bool := if b then isWord d else isName d
theorem isName_nl (z : Str) (q : len8 z = false) (b : Bool) : letD b (.str z) = false := by
  cases b
  · show (len8 z && _) = false
    rw [q]; rfl
  · show (len8 z && _) = false
    rw [q]; rfl
theorem up_lit : Txt.upper (Str.ofString "abcdefghijklmnopqrstuvwxyz") = Str.ofString "ABCDEFGHIJKLMNOPQRSTUVWXYZ" := up_small
theorem small_len : (Str.ofString "abcdefghijklmnopqrstuvwxyz").length ≤ 5592405 := by decide +kernel
theorem at1 {α : Type} (x y : α) (xs : List α) : atI (x :: y :: xs) 1 = some y := by
  unfold atI ixN
  rw [if_pos (by decide), if_pos (by simp; omega)]
  rfl
def partD (b : Bool) (d : Dat) : Bool := isValue d || (b && isWord d)
def rowD (b : Bool) (d : Dat) : Bool := if b then isPattern d else isThing d
/-- for x in xs: if not good(x): return False -/
theorem for_good {src : Src} (hl : src.lk = none) {bd : Dat → Env' → Option Env'} {body : Ms} {h : Hm} (p : Dat → Bool) (J : Env' → Prop) : ∀ (ds : List Dat), (∀ d ∈ ds, ∀ ρ, J ρ → ∃ ρ', bd d ρ = some ρ' ∧ J ρ' ∧ body ρ' h = .val (if p d = true then .nx ρ' else .rt (.bl false)) h) →
    ∀ ρ, J ρ → (ds.all p = true ∧ ∃ ρ', J ρ' ∧ forL src bd body ds ρ h = .val (.nx ρ') h) ∨ (ds.all p = false ∧ forL src bd body ds ρ h = .val (.rt (.bl false)) h)
  | [], _, ρ, j => .inl ⟨rfl, ρ, j, by
    show (mGuard src >>= fun _ => pure (Fl.nx ρ)) h = _
    rw [mo_bind, guard_none hl, rb_val]
    rfl⟩
  | d :: ds, k, ρ, j => by
    obtain ⟨ρ', e1, j1, e2⟩ := k d (by simp) ρ j
    have ih := for_good hl p J ds (fun d' hd => k d' (List.mem_cons_of_mem _ hd)) ρ' j1
    have step : forL src bd body (d :: ds) ρ h = (body ρ' h).bind fun f => match f with
      | .nx ρ2 => forL src bd body ds ρ2
      | .ct ρ2 => forL src bd body ds ρ2
      | .bk ρ2 => pure (.nx ρ2)
      | .rt d => pure (.rt d) := by
      show (mGuard src >>= fun _ => optM (bd d ρ) >>= fun ρ' => body ρ' >>= _) h = _
      rw [mo_bind, guard_none hl, rb_val, e1]
      rfl
    rw [step, e2]
    cases q : p d
    · exact .inr ⟨by simp [q], rfl⟩
    · rw [if_pos rfl]
      rcases ih with ⟨a1, ρ2, j2, a2⟩ | ⟨a1, a2⟩
      · exact .inl ⟨by simp [q, a1], ρ2, j2, a2⟩
      · exact .inr ⟨by simp [q, a1], a2⟩
theorem eqB (a b : Bool) (h : Hm) : cEqD (.bl a) (.bl b) h = .val (a == b) h := by
  have p1 : pyOf (.bl a) h = .val (.bool a) h := pyOf_val (by simp [toPy])
  have p2 : pyOf (.bl b) h = .val (.bool b) h := pyOf_val (by simp [toPy])
  simp [cEqD, p1, p2, PyData.eqv]
theorem eqI (a b : Int) (h : Hm) : cEqD (.int a) (.int b) h = .val (a == b) h := by
  have p1 : pyOf (.int a) h = .val (.int a) h := pyOf_val (by simp [toPy])
  have p2 : pyOf (.int b) h = .val (.int b) h := pyOf_val (by simp [toPy])
  simp [cEqD, p1, p2, PyData.eqv]
/-- at most n signs, each allowed by p -/
def Few (n : Nat) (p : Nat → Prop) (z : Str) : Prop := z.length ≤ n ∧ ∀ c ∈ z.cps.toList, p c
def lt8 (c : Nat) : Prop := c < 1114112
def small (c : Nat) : Prop := c ∈ smallS.cps.toList
theorem len_tl (z : Str) : z.length = z.cps.toList.length := by rw [Array.length_toList]; rfl
theorem few_mono {n m : Nat} {p q : Nat → Prop} {z : Str} (h : Few n p z) (hn : n ≤ m) (hp : ∀ c, p c → q c) : Few m q z := ⟨Nat.le_trans h.1 hn, fun c hc => hp c (h.2 c hc)⟩
theorem few_cut {n : Nat} {p : Nat → Prop} {z : Str} (h : Few n p z) (lo hi : Option Int) : Few n p (cutS z lo hi) := by
  have e : (cutS z lo hi).cps.toList = (z.cps.toList.drop (HT.sIx z.length 0 lo)).take (HT.sIx z.length z.length hi - HT.sIx z.length 0 lo) := rfl
  refine ⟨?_, fun c hc => ?_⟩
  · rw [len_tl, e, List.length_take, List.length_drop]
    have := h.1
    rw [len_tl] at this
    omega
  · rw [e] at hc
    exact h.2 c (List.mem_of_mem_drop (List.mem_of_mem_take hc))
theorem few_first {n : Nat} {p : Nat → Prop} {z : Str} (h : Few n p z) : Few 1 p (cutS z none (some 1)) := by
  have k := few_cut h none (some 1)
  have e : (cutS z none (some 1)).cps.toList = (z.cps.toList.drop 0).take (HT.sIx z.length z.length (some 1) - 0) := rfl
  refine ⟨?_, k.2⟩
  have e1 : HT.sIx z.length z.length (some 1) = min 1 z.length := HT.sIx_nat _ _ 1
  rw [len_tl, e, e1, List.length_take]
  omega
theorem few_app {n m : Nat} {p : Nat → Prop} {z w : Str} (h : Few n p z) (k : Few m p w) : Few (n + m) p (z ++ w) := by
  have e : (z ++ w).cps.toList = z.cps.toList ++ w.cps.toList := by
    show (z.cps ++ w.cps).toList = _
    simp
  refine ⟨?_, fun c hc => ?_⟩
  · rw [len_tl, e, List.length_append, ← len_tl, ← len_tl]
    exact Nat.add_le_add h.1 k.1
  · rw [e] at hc
    rcases List.mem_append.mp hc with q | q
    · exact h.2 c q
    · exact k.2 c q
theorem upper_small : ∀ c ∈ smallS.cps.toList, Txt.upper ⟨#[c]⟩ = ⟨#[c - 32]⟩ ∧ c < 128 := by decide +kernel
theorem few_up {z : Str} (h : Few 1 small z) : Few 1 lt8 (Txt.upper z) := by
  obtain ⟨⟨l⟩⟩ := z
  match l, h with
  | [], _ => exact ⟨by decide +kernel, fun c hc => by
      have : (Txt.upper ⟨#[]⟩).cps.toList = [] := by decide +kernel
      rw [this] at hc
      exact absurd hc (by simp)⟩
  | [c], h =>
    obtain ⟨e, hc⟩ := upper_small c (h.2 c (by simp))
    rw [e]
    refine ⟨Nat.le_refl 1, fun d hd => ?_⟩
    have : d = c - 32 := by simpa using hd
    rw [this]
    show c - 32 < 1114112
    omega
  | _ :: _ :: l, h => exact absurd h.1 (by show ¬ (l.length + 1 + 1 ≤ 1); omega)
theorem small_lt {c : Nat} (h : small c) : lt8 c := Nat.lt_of_lt_of_le (upper_small c h).2 (by decide)
/-- a sign of a text at a place within -/
theorem at_in {α : Type} (xs : List α) {i : Int} (h0 : 0 ≤ i) (h1 : i < xs.length) : ∃ x ∈ xs, atI xs i = some x := by
  have hi : i.toNat < xs.length := by omega
  refine ⟨xs[i.toNat], List.getElem_mem _, ?_⟩
  unfold atI ixN
  rw [if_pos h0, if_pos h1]
  exact List.getElem?_eq_getElem hi
theorem opt_strs : ∀ (zs : List Str), optAll isStr (zs.map Dat.str) = some zs
  | [] => rfl
  | z :: zs => by simp [opt_strs zs]
theorem join_few {p : Nat → Prop} : ∀ (cs : List Nat), (∀ c ∈ cs, p c) → Few cs.length p (Txt.join (Str.ofString "") (cs.map fun c => ⟨#[c]⟩)) := fun cs k => by
  have e : (Txt.join (Str.ofString "") (cs.map fun c => (⟨#[c]⟩ : Str))).cps.toList = cs := by
    rw [TL.join_eq]
    refine (TL.tl_join _ _).trans ?_
    have : TL.tl (Str.ofString "") = [] := rfl
    rw [this, List.map_map]
    induction cs with
    | nil => rfl
    | cons c cs ih =>
      cases cs with
      | nil => rfl
      | cons d ds =>
        show [c] ++ ([] ++ TL.joinL [] (((d :: ds).map _))) = _
        rw [ih (fun c hc => k c (List.mem_cons_of_mem _ hc))]
        rfl
  refine ⟨?_, fun c hc => ?_⟩
  · rw [len_tl, e]
    exact Nat.le_refl _
  · rw [e] at hc
    exact k c hc
theorem join_sum (cs : List Nat) : ((cs.map fun c => (⟨#[c]⟩ : Str)).map (·.length)).sum = cs.length := by
  induction cs with
  | nil => rfl
  | cons c cs ih =>
    rw [List.map_cons, List.map_cons, List.sum_cons, ih, List.length_cons]
    show 1 + cs.length = _
    omega
theorem join_signs (cs : List Nat) (hc : cs.length ≤ 1000) (h : Hm) : joinD (Str.ofString "") (.lst (cs.map fun c => .str ⟨#[c]⟩)) h = .val (.str (Txt.join (Str.ofString "") (cs.map fun c => ⟨#[c]⟩))) h := by
  have e : (cs.map fun c => Dat.str ⟨#[c]⟩) = (cs.map fun c => (⟨#[c]⟩ : Str)).map Dat.str := by rw [List.map_map]; rfl
  have e2 := join_sum cs
  have e3 : (Str.ofString "").length = 0 := rfl
  have hl : cs.length ≤ 16777216 := by omega
  rw [e]
  show (optM (optAll isStr _) >>= fun ys => if (ys.map (·.length)).sum + ys.length * (Str.ofString "").length ≤ 16777216 then pure (Dat.str (Txt.join (Str.ofString "") ys)) else (bad : Mo Dat)) h = _
  rw [opt_strs, e3]
  show (if ((cs.map fun c => (⟨#[c]⟩ : Str)).map (·.length)).sum + (cs.map fun c => (⟨#[c]⟩ : Str)).length * 0 ≤ 16777216 then pure (Dat.str (Txt.join (Str.ofString "") (cs.map fun c => (⟨#[c]⟩ : Str)))) else bad : Mo Dat) h = _
  rw [e2, Nat.mul_zero, Nat.add_zero, if_pos hl]
  rfl
theorem mulS (a b : Int) (h : -18446744073709551616 < a ∧ a < 18446744073709551616) : mulOk a b = true := by
  unfold mulOk
  simp
  exact .inl h
theorem mulS2 (a b : Int) (h : -18446744073709551616 < b ∧ b < 18446744073709551616) : mulOk a b = true := by
  unfold mulOk
  simp
  exact .inr h
theorem mod_in (i k : Int) (hk : 0 < k) : 0 ≤ i % k ∧ i % k < k := ⟨Int.emod_nonneg _ (by omega), Int.emod_lt_of_pos _ hk⟩
/-- the letters -/
theorem letters (i : Int) (n : Int) (hn : 0 ≤ n ∧ n ≤ 9) (h : Hm) : ∃ cs : List Nat, cs.length ≤ 9 ∧ (∀ c ∈ cs, small c) ∧
    lcL ⟨rngD 0 n.toNat, none⟩ (bName 7) mYes (mIx (mVar 1) (mBin aMod (mBin aAdd (mBin aDiv (mVar 0) (mC (.int 7))) (mBin aMul (mC (.int 5)) (mVar 7))) (mC (.int 26)))) [some (.int i), some (.str smallS), some (.int n), none, none, none, none, none] (rngD 0 n.toNat) [] h = .val (cs.map fun c => Dat.str ⟨#[c]⟩) h := by
  have key : ∀ j : Int, ∃ c ∈ smallS.cps.toList, atI smallS.cps.toList ((i / 7 + 5 * j) % 26) = some c := fun j => by
    have m := mod_in (i / 7 + 5 * j) 26 (by decide)
    exact at_in _ m.1 (by have : smallS.cps.toList.length = 26 := by decide +kernel
                          rw [this]; exact m.2)
  let f : Int → Nat := fun j => (atI smallS.cps.toList ((i / 7 + 5 * j) % 26)).getD 0
  have k := lc_all (src := ⟨rngD 0 n.toNat, none⟩) rfl (bd := bName 7) (e := (mIx (mVar 1) (mBin aMod (mBin aAdd (mBin aDiv (mVar 0) (mC (.int 7))) (mBin aMul (mC (.int 5)) (mVar 7))) (mC (.int 26)))))
    (ρ0 := [some (.int i), some (.str smallS), some (.int n), none, none, none, none, none]) (h := h) (fun x => match x with | .int j => .str ⟨#[f j]⟩ | _ => .non) (rngD 0 n.toNat) fun d hd => ⟨_, rfl, by
      unfold rngD at hd
      obtain ⟨j, hj, rfl⟩ := List.mem_map.mp hd
      obtain ⟨c, hc, ec⟩ := key (0 + (j : Int))
      have e2 : f (0 + (j : Int)) = c := by show (atI _ _).getD 0 = c; rw [ec]; rfl
      have sl : smallS.length ≤ sizeLine := by decide +kernel
      have ml := mulS 5 (0 + (j : Int)) ⟨by decide, by decide⟩
      show _ = Res.val (Dat.str ⟨#[f (0 + (j : Int))]⟩) h
      rw [e2]
      rw [Int.zero_add] at ec ml
      simp [ec, sl, ml]⟩
  refine ⟨(List.range n.toNat).map fun (j : Nat) => f (0 + (j : Int)), ?_, fun c hc => ?_, k.trans ?_⟩
  · rw [List.length_map, List.length_range]; omega
  · obtain ⟨j, _, rfl⟩ := List.mem_map.mp hc
    obtain ⟨c, hc, ec⟩ := key (0 + (j : Int))
    show (atI _ _).getD 0 ∈ _
    rw [ec]
    exact hc
  · unfold rngD
    rw [List.map_map, List.map_map]
    rfl
abbrev SG : Str := Str.ofString " !\"#$&'()*+,-./0123456789:;<=>?\x40[\\]^_{|}~\n" ++ Str.ofString "ABCDEFGHIJKLMNOPQRSTUVWXYZ"
theorem sg_len : (Str.ofString " !\"#$&'()*+,-./0123456789:;<=>?\x40[\\]^_{|}~\n").length + (Str.ofString "ABCDEFGHIJKLMNOPQRSTUVWXYZ").length ≤ sizeLine ∧ SG.length ≤ sizeLine := by decide +kernel
theorem sg_in : (∀ c ∈ SG.cps.toList, c < 1114112) ∧ 0 < SG.length ∧ SG.length < 1000 := by decide +kernel
theorem few_ok {n : Nat} {z : Str} (h : Few n lt8 z) (hn : n ≤ 100) : Ok (.str z) := ⟨Nat.le_trans h.1 hn, h.2⟩
theorem in4 (h : Hm) : cIn (.bl true) (.lst [.bl false, .bl false, .bl false, .bl false]) h = .val false h := by
  have p1 : pyOf (.bl true) h = .val (.bool true) h := pyOf_val (by simp [toPy])
  have p2 : pysM [.bl false, .bl false, .bl false, .bl false] h = .val [.bool false, .bool false, .bool false, .bool false] h := pysM_val (by simp [toPy])
  simp [cIn, memD, p1, p2, PyData.eqv]
theorem for_nx {src : Src} (hl : src.lk = none) {bd : Dat → Env' → Option Env'} {body : Ms} {h : Hm} (J : Env' → Prop) : ∀ (ds : List Dat), (∀ d ∈ ds, ∀ ρ, J ρ → ∃ ρ' ρ2, bd d ρ = some ρ' ∧ J ρ2 ∧ body ρ' h = .val (.nx ρ2) h) →
    ∀ ρ, J ρ → ∃ ρ2, J ρ2 ∧ forL src bd body ds ρ h = .val (.nx ρ2) h
  | [], _, ρ, j => ⟨ρ, j, by
    show (mGuard src >>= fun _ => pure (Fl.nx ρ)) h = _
    rw [mo_bind, guard_none hl, rb_val]
    rfl⟩
  | d :: ds, k, ρ, j => by
    obtain ⟨ρ', ρ2, e1, j2, e2⟩ := k d (by simp) ρ j
    obtain ⟨ρ3, j3, e3⟩ := for_nx hl J ds (fun d' hd => k d' (List.mem_cons_of_mem _ hd)) ρ2 j2
    refine ⟨ρ3, j3, ?_⟩
    show (mGuard src >>= fun _ => optM (bd d ρ) >>= fun ρ' => body ρ' >>= _) h = _
    rw [mo_bind, guard_none hl, rb_val, e1]
    show (body ρ' >>= _) h = _
    rw [mo_bind, e2]
    exact e3
/-- a comprehension whose parts all come -/
theorem lc_ex {src : Src} (hl : src.lk = none) {bd : Dat → Env' → Option Env'} {e : Mv} {ρ0 : Env'} {h : Hm} (P : Dat → Prop) (ds : List Dat) (k : ∀ d ∈ ds, ∃ ρ' y, bd d ρ0 = some ρ' ∧ e ρ' h = .val y h ∧ P y) :
    ∃ ys, (∀ y ∈ ys, P y) ∧ ys.length = ds.length ∧ lcL src bd mYes e ρ0 ds [] h = .val ys h := by
  classical
  let g : Dat → Dat := fun d => if q : ∃ ρ' y, bd d ρ0 = some ρ' ∧ e ρ' h = .val y h ∧ P y then q.choose_spec.choose else .non
  refine ⟨ds.map g, fun y hy => ?_, by simp, lc_all hl g ds fun d hd => ?_⟩
  · obtain ⟨d, hd, rfl⟩ := List.mem_map.mp hy
    have q := k d hd
    show P (if q : _ then _ else _)
    rw [dif_pos q]
    exact q.choose_spec.choose_spec.2.2
  · have q := k d hd
    refine ⟨q.choose, q.choose_spec.choose_spec.1, ?_⟩
    show _ = Res.val (if q : _ then _ else _) h
    rw [dif_pos q]
    exact q.choose_spec.choose_spec.2.1
theorem optPy {h : Hm} {n : Nat} : ∀ (xs : List Dat), (∀ x ∈ xs, ∃ p, toPy h n x = some p ∧ PyData.eqv p p = true) → ∃ ps, optAll (toPy h n) xs = some ps ∧ PyData.eqvAll ps ps = true
  | [], _ => ⟨[], rfl, by simp [PyData.eqvAll]⟩
  | x :: xs, k => by
    obtain ⟨p, e1, e2⟩ := k x (by simp)
    obtain ⟨ps, e3, e4⟩ := optPy xs fun y hy => k y (List.mem_cons_of_mem _ hy)
    exact ⟨p :: ps, by simp [e1, e3], by simp [PyData.eqvAll, e2, e4]⟩
theorem okS_py {z : Str} (o : OkS z) : PyData.strOk z = true := by
  unfold PyData.strOk
  rw [Array.all_eq_true']
  intro c hc
  exact decide_eq_true (o.2 c (by simpa using hc))
theorem value_py {d : Dat} (o : Ok d) (q : isValue d = true) (h : Hm) (n : Nat) : ∃ p, toPy h (n + 1) d = some p ∧ PyData.eqv p p = true := by
  cases d with
  | int i => exact ⟨.int i, by simp [toPy], by simp [PyData.eqv]⟩
  | str z =>
    have c : PyData.canLay0 (.str z) = true := by simp [PyData.canLay0, okS_py o]
    exact ⟨.str z, by simp [toPy, c], by simp [PyData.eqv]⟩
  | _ => cases q
theorem thing_eq {d : Dat} (o : OkT d) (q : isThing d = true) (h : Hm) : cNeD d d h = .val false h := by
  cases d with
  | tup xs =>
    cases xs with
    | nil => cases q
    | cons x xs =>
      have q1 : ((decide (xs.length ≤ 4) && isName x) && xs.all isValue) = true := q
      rw [Bool.and_eq_true, Bool.and_eq_true] at q1
      obtain ⟨⟨_, qx⟩, qs⟩ := q1
      have vx : isValue x = true := by
        cases x with
        | str z => exact qx
        | _ => cases qx
      obtain ⟨ps, e1, e2⟩ := optPy (h := h) (n := 29) (x :: xs) fun y hy => by
        rcases List.mem_cons.mp hy with rfl | hy'
        · exact value_py (o _ (by simp)) vx h 28
        · exact value_py (o y hy) (List.all_eq_true.mp qs y hy') h 28
      have p : pyOf (.tup (x :: xs)) h = .val (.tuple ps) h := pyOf_val (by simp only [toPy, e1]; rfl)
      have e3 : PyData.eqv (.tuple ps) (.tuple ps) = true := by rw [PyData.eqv]; exact e2
      show (pyOf (.tup (x :: xs)) >>= fun p => pyOf (.tup (x :: xs)) >>= fun q => pure (!PyData.eqv p q)) h = _
      rw [mo_bind, p, rb_val, mo_bind, p, rb_val]
      show Res.val (!PyData.eqv (.tuple ps) (.tuple ps)) h = _
      rw [e3]
      rfl
  | _ => cases q
end Cm
end

section
set_option Elab.async false
set_option linter.all false
set_option maxRecDepth 100000
set_option maxHeartbeats 4000000
/-! Cmb: more of what the plain laws have in common: loops, lists as cells, comparisons. -/
namespace Cm
open PySem Mir L2
theorem guard_ok {src : Src} {h : Hm} (e : src.ok h = true) : mGuard src h = .val () h := by
  unfold mGuard
  rw [if_pos e]
/-- a loop, by what holds of what is left, of the slots and of the heap -/
theorem for_gen {src : Src} {bd : Dat → Env' → Option Env'} {body : Ms} (I : List Dat → Env' → Hm → Prop) (P : Res Fl → Prop)
    (step : ∀ d ds ρ h, I (d :: ds) ρ h → src.ok h = true ∧ ∃ ρ1, bd d ρ = some ρ1 ∧ ((∃ ρ2 h2, body ρ1 h = .val (.nx ρ2) h2 ∧ I ds ρ2 h2) ∨ (∃ v h2, body ρ1 h = .val (.rt v) h2 ∧ P (.val (.rt v) h2)) ∨ ∃ c h2, body ρ1 h = .exc c h2 ∧ P (.exc c h2)))
    (fin : ∀ ρ h, I [] ρ h → src.ok h = true ∧ P (.val (.nx ρ) h)) : ∀ ds ρ h, I ds ρ h → P (forL src bd body ds ρ h)
  | [], ρ, h, i => by
    obtain ⟨g, p⟩ := fin ρ h i
    have e : forL src bd body [] ρ h = .val (.nx ρ) h := by
      show (mGuard src >>= fun _ => pure (Fl.nx ρ)) h = _
      rw [mo_bind, guard_ok g, rb_val]
      rfl
    rw [e]
    exact p
  | d :: ds, ρ, h, i => by
    obtain ⟨g, ρ1, e1, k⟩ := step d ds ρ h i
    have e : forL src bd body (d :: ds) ρ h = (body ρ1 h).bind fun f => match f with
      | .nx ρ2 => forL src bd body ds ρ2
      | .ct ρ2 => forL src bd body ds ρ2
      | .bk ρ2 => pure (.nx ρ2)
      | .rt d => pure (.rt d) := by
      show (mGuard src >>= fun _ => optM (bd d ρ) >>= fun ρ' => body ρ' >>= _) h = _
      rw [mo_bind, guard_ok g, rb_val, e1]
      rfl
    rw [e]
    rcases k with ⟨ρ2, h2, e2, i2⟩ | ⟨v, h2, e2, p⟩ | ⟨c, h2, e2, p⟩
    · rw [e2]
      exact for_gen I P step fin ds ρ2 h2 i2
    · rw [e2]; exact p
    · rw [e2]; exact p
/-- a loop that goes through -/
theorem for_all {src : Src} {bd : Dat → Env' → Option Env'} {body : Ms} (I : List Dat → Env' → Hm → Prop)
    (step : ∀ d ds ρ h, I (d :: ds) ρ h → src.ok h = true ∧ ∃ ρ1, bd d ρ = some ρ1 ∧ ∃ ρ2 h2, body ρ1 h = .val (.nx ρ2) h2 ∧ I ds ρ2 h2)
    (fin : ∀ ρ h, I [] ρ h → src.ok h = true) (ds : List Dat) (ρ : Env') (h : Hm) (i : I ds ρ h) : ∃ ρ' h', forL src bd body ds ρ h = .val (.nx ρ') h' ∧ I [] ρ' h' :=
  for_gen I (fun r => ∃ ρ' h', r = .val (.nx ρ') h' ∧ I [] ρ' h') (fun d ds ρ h i => by
    obtain ⟨g, ρ1, e1, ρ2, h2, e2, i2⟩ := step d ds ρ h i
    exact ⟨g, ρ1, e1, .inl ⟨ρ2, h2, e2, i2⟩⟩) (fun ρ h i => ⟨fin ρ h i, ρ, h, rfl, i⟩) ds ρ h i
/-- a comprehension over what stays -/
theorem lc_mapG {src : Src} {bd : Dat → Env' → Option Env'} {c : Mb} {e : Mv} {ρ0 : Env'} {h : Hm} (hl : src.ok h = true) (g : Dat → Option Dat) : ∀ (ds acc : List Dat), (∀ d ∈ ds, ∃ ρ', bd d ρ0 = some ρ' ∧
    ((g d = none ∧ c ρ' h = .val false h) ∨ ∃ y, g d = some y ∧ c ρ' h = .val true h ∧ e ρ' h = .val y h)) → lcL src bd c e ρ0 ds acc h = .val (acc ++ ds.filterMap g) h
  | [], acc, _ => by
    show (mGuard src >>= fun _ => pure acc) h = _
    rw [mo_bind, guard_ok hl, rb_val]
    simp
  | d :: ds, acc, k => by
    obtain ⟨ρ', e1, k1⟩ := k d (by simp)
    have ih := fun acc' => lc_mapG hl g ds acc' fun d' hd => k d' (List.mem_cons_of_mem _ hd)
    show (mGuard src >>= fun _ => optM (bd d ρ0) >>= fun ρ' => noX (c ρ') >>= fun b => if b = true then (noX (e ρ') >>= fun y => lcL src bd c e ρ0 ds (acc ++ [y])) else lcL src bd c e ρ0 ds acc) h = _
    rw [mo_bind, guard_ok hl, rb_val, e1]
    show (noX (c ρ') >>= fun b => if b = true then (noX (e ρ') >>= fun y => lcL src bd c e ρ0 ds (acc ++ [y])) else lcL src bd c e ρ0 ds acc) h = _
    rcases k1 with ⟨g1, c1⟩ | ⟨y, g1, c1, y1⟩
    · rw [mo_bind, noX_val c1, rb_val, if_neg Bool.false_ne_true, ih, List.filterMap_cons, g1]
    · rw [mo_bind, noX_val c1, rb_val, if_pos rfl, mo_bind, noX_val y1, rb_val, ih, List.filterMap_cons, g1, List.append_assoc]
      rfl
theorem lc_allG {src : Src} {bd : Dat → Env' → Option Env'} {e : Mv} {ρ0 : Env'} {h : Hm} (hl : src.ok h = true) (g : Dat → Dat) (ds : List Dat) (k : ∀ d ∈ ds, ∃ ρ', bd d ρ0 = some ρ' ∧ e ρ' h = .val (g d) h) : lcL src bd mYes e ρ0 ds [] h = .val (ds.map g) h := by
  rw [lc_mapG hl (fun d => some (g d)) ds [] fun d hd => ?_]
  · simp [List.filterMap_eq_map]
  · obtain ⟨ρ', e1, e2⟩ := k d hd
    exact ⟨ρ', e1, .inr ⟨g d, rfl, rfl, e2⟩⟩
/-! ### lists, fixed or cells -/
def LD (T : Dat) (xs : List Dat) (h : Hm) : Prop := T = .lst xs ∨ ∃ n, T = .ref n ∧ h[n]? = some (.lst xs)
/-- lists or tuples -/
def SD (T : Dat) (xs : List Dat) (h : Hm) : Prop := T = .tup xs ∨ LD T xs h
section
variable {T : Dat} {xs : List Dat} {h : Hm}
theorem ld_list (l : LD T xs h) : Mir.listOf T h = .val xs h := by
  rcases l with rfl | ⟨n, rfl, l⟩
  · rfl
  · have c := Mir.cellOf_val l (by simp)
    show (Mir.cellOf n >>= fun c => lstC c) h = _
    rw [mo_bind, c, rb_val]
    rfl
theorem sd_seq (l : SD T xs h) : Mir.seqOf T h = .val xs h := by
  rcases l with rfl | l
  · rfl
  · have k := ld_list l
    rcases l with rfl | ⟨n, rfl, l⟩
    · rfl
    · exact k
theorem ld_sd (l : LD T xs h) : SD T xs h := .inr l
theorem tup_sd : SD (.tup xs) xs h := .inl rfl
theorem lst_sd : SD (.lst xs) xs h := .inr (.inl rfl)
theorem sd_ix (l : SD T xs h) {i : Int} {d : Dat} (e : atI xs i = some d) : ixSq T (.int i) h = .val d h := by
  have s := sd_seq l
  have k : ixL T (.int i) h = .val d h := by
    show (Mir.seqOf T >>= fun xs => Mir.intOf (.int i) >>= fun i => optM (atI xs i)) h = _
    rw [mo_bind, s, rb_val]
    show optM (atI xs i) h = _
    rw [e]
    rfl
  rcases l with rfl | rfl | ⟨n, rfl, _⟩ <;> exact k
theorem sd_len (l : SD T xs h) : lenD T h = .val (.int xs.length) h := by
  have s := sd_seq l
  have k : lenSq T h = .val (.int xs.length) h := by
    show (Mir.seqOf T >>= fun xs => pure (Dat.int xs.length)) h = _
    rw [mo_bind, s, rb_val]
    rfl
  rcases l with rfl | rfl | ⟨n, rfl, _⟩ <;> exact k
theorem sd_tup (l : SD T xs h) : tupD T h = .val (.tup xs) h := by
  show (Mir.seqOf T >>= fun xs => pure (Dat.tup xs)) h = _
  rw [mo_bind, sd_seq l, rb_val]
  rfl
/-- what is walked stays as it is in h -/
theorem sd_src (l : SD T xs h) : ∃ src, srcD T h = .val src h ∧ src.items = xs ∧ ∀ h' : Hm, (∀ n : Nat, T = .ref n → h'[n]? = h[n]?) → src.ok h' = true := by
  rcases l with rfl | rfl | ⟨n, rfl, l⟩
  · exact ⟨⟨xs, none⟩, rfl, rfl, fun _ _ => rfl⟩
  · exact ⟨⟨xs, none⟩, rfl, rfl, fun _ _ => rfl⟩
  · refine ⟨⟨xs, some (n, .lst xs)⟩, ?_, rfl, fun h' k => ?_⟩
    · show (Mir.cellOf n >>= fun c => srcC n c) h = _
      rw [mo_bind, Mir.cellOf_val l (by simp), rb_val]
      rfl
    · show decide (h'[n]? = some (Cell.lst xs)) = true
      rw [k n rfl, l]
      simp
theorem ld_more (l : LD T xs h) (t : Hm) : LD T xs (h ++ t) := by
  rcases l with l | ⟨n, e, l⟩
  · exact .inl l
  · exact .inr ⟨n, e, by rw [List.getElem?_append_left (List.getElem?_eq_some_iff.mp l).1]; exact l⟩
theorem sd_more (l : SD T xs h) (t : Hm) : SD T xs (h ++ t) := l.imp id fun l => ld_more l t
theorem at_app {t : Hm} {n : Nat} {c : Cell} (e : h[n]? = some c) : (h ++ t)[n]? = some c := by
  rw [List.getElem?_append_left (List.getElem?_eq_some_iff.mp e).1]; exact e
end
theorem at_end (h0 : Hm) (c : Cell) : (h0 ++ [c])[h0.length]? = some c := by simp
theorem set_end (h0 : Hm) (c d : Cell) : (h0 ++ [c]).set h0.length d = h0 ++ [d] := by simp
theorem lref_at {h : Hm} {n : Nat} {xs : List Dat} (e : h[n]? = some (.lst xs)) : lref (.ref n) h = .val (n, xs) h := by
  have c := Mir.cellOf_val e (by simp)
  simp [lref, c]
theorem listOf_at {h : Hm} {n : Nat} {xs : List Dat} (e : h[n]? = some (.lst xs)) : Mir.listOf (.ref n) h = .val xs h := ld_list (.inr ⟨n, rfl, e⟩)
theorem append_at {h : Hm} {n : Nat} {xs : List Dat} (e : h[n]? = some (.lst xs)) (hl : xs.length < sizeLine) (d : Dat) : lAppend (.ref n) d h = .val .non (h.set n (.lst (xs ++ [d]))) := by
  simp [lAppend, lref_at e, hl, setC]
/-! ### comparisons -/
theorem eq_py {x y : Dat} {p q : PyData} {h : Hm} (e1 : toPy h 30 x = some p) (e2 : toPy h 30 y = some q) : cEqD x y h = .val (PyData.eqv p q) h ∧ cNeD x y h = .val (!PyData.eqv p q) h := by
  have p1 := pyOf_val e1
  have p2 := pyOf_val e2
  constructor
  · show (pyOf x >>= fun p => pyOf y >>= fun q => pure (PyData.eqv p q)) h = _
    rw [mo_bind, p1, rb_val, mo_bind, p2, rb_val]
    rfl
  · show (pyOf x >>= fun p => pyOf y >>= fun q => pure (!PyData.eqv p q)) h = _
    rw [mo_bind, p1, rb_val, mo_bind, p2, rb_val]
    rfl
theorem py_str {x : Str} (o : PyData.strOk x = true) (h : Hm) (n : Nat) : toPy h (n + 1) (.str x) = some (.str x) := by
  have c : PyData.canLay0 (.str x) = true := by simp [PyData.canLay0, o]
  simp [toPy, c]
theorem py_int (i : Int) (h : Hm) (n : Nat) : toPy h (n + 1) (.int i) = some (.int i) := by simp [toPy]
theorem eqv_str (x y : Str) : PyData.eqv (.str x) (.str y) = decide (x = y) := by
  by_cases e : x = y <;> simp [PyData.eqv, e]
theorem eqv_int (x y : Int) : PyData.eqv (.int x) (.int y) = decide (x = y) := by
  by_cases e : x = y <;> simp [PyData.eqv, e]
theorem eqS {x y : Str} (ox : PyData.strOk x = true) (oy : PyData.strOk y = true) (h : Hm) : cEqD (.str x) (.str y) h = .val (decide (x = y)) h := by
  rw [(eq_py (py_str ox h 29) (py_str oy h 29)).1, eqv_str]
theorem neS {x y : Str} (ox : PyData.strOk x = true) (oy : PyData.strOk y = true) (h : Hm) : cNeD (.str x) (.str y) h = .val (!decide (x = y)) h := by
  rw [(eq_py (py_str ox h 29) (py_str oy h 29)).2, eqv_str]
theorem neI (a b : Int) (h : Hm) : cNeD (.int a) (.int b) h = .val (!decide (a = b)) h := by
  rw [(eq_py (py_int a h 29) (py_int b h 29)).2, eqv_int]
theorem eqJ (a b : Int) (h : Hm) : cEqD (.int a) (.int b) h = .val (decide (a = b)) h := by
  rw [(eq_py (py_int a h 29) (py_int b h 29)).1, eqv_int]
/-! ### entries of dicts -/
theorem look_app (a b : List (Dat × Dat)) (k : Dat) : lookD (a ++ b) k = (lookD a k).or (lookD b k) := by
  unfold lookD
  rw [List.find?_append]
  cases a.find? fun p => decide (p.1 = k) <;> rfl
theorem look_none {kvs : List (Dat × Dat)} {k : Dat} (h : (kvs.any fun p => decide (p.1 = k)) = false) : lookD kvs k = none := by
  unfold lookD
  rw [List.find?_eq_none.mpr fun p hp q => by
    have := List.any_eq_false.mp h p hp
    exact this q]
  rfl
theorem look_cons (p : Dat × Dat) (kvs : List (Dat × Dat)) (k : Dat) : lookD (p :: kvs) k = if p.1 = k then some p.2 else lookD kvs k := by
  by_cases e : p.1 = k <;> simp [lookD, List.find?_cons, e]
theorem look_map (k d x : Dat) : ∀ (kvs : List (Dat × Dat)), lookD (kvs.map fun p => if p.1 = k then (p.1, d) else p) x = if x = k then (lookD kvs k).map (fun _ => d) else lookD kvs x
  | [] => by by_cases e : x = k <;> simp [lookD, e]
  | p :: kvs => by
    have ih := look_map k d x kvs
    rw [List.map_cons, look_cons, ih, look_cons, look_cons]
    by_cases e : p.1 = k
    · by_cases e2 : x = k
      · simp [e, e2]
      · have e3 : ¬ k = x := fun q => e2 q.symm
        simp [e, e2, e3]
    · by_cases e2 : x = k
      · subst e2
        simp [e]
      · simp [e, e2]
theorem any_look {kvs : List (Dat × Dat)} {k : Dat} (h : (kvs.any fun p => decide (p.1 = k)) = true) : ∃ d, lookD kvs k = some d := by
  induction kvs with
  | nil => cases h
  | cons p kvs ih =>
    rw [look_cons]
    by_cases e : p.1 = k
    · exact ⟨p.2, if_pos e⟩
    · rw [List.any_cons] at h
      rw [if_neg e]
      exact ih (by simpa [e] using h)
theorem look_put (kvs : List (Dat × Dat)) (k d x : Dat) : lookD (putD kvs k d) x = if x = k then some d else lookD kvs x := by
  unfold putD
  by_cases a : (kvs.any fun p => decide (p.1 = k)) = true
  · rw [if_pos a, look_map]
    obtain ⟨y, e⟩ := any_look a
    rw [e]
    rfl
  · rw [if_neg a, look_app]
    have n := look_none (Bool.not_eq_true _ ▸ a : (kvs.any fun p => decide (p.1 = k)) = false)
    by_cases e : x = k
    · subst e
      rw [n]
      simp [lookD]
    · have e3 : ¬ k = x := fun q => e q.symm
      simp [lookD, e3, e]
theorem put_len (kvs : List (Dat × Dat)) (k d : Dat) : (putD kvs k d).length ≤ kvs.length + 1 := by
  unfold putD
  split
  · rw [List.length_map]; omega
  · rw [List.length_append]; exact Nat.le_refl _
theorem dictOf_at {h : Hm} {n v : Nat} {kvs : List (Dat × Dat)} (e : h[n]? = some (.dct false v kvs)) : dictOf (.ref n) h = .val kvs h := by
  show (Mir.cellOf n >>= fun c => dctC c) h = _
  rw [mo_bind, Mir.cellOf_val e (by simp), rb_val]
  rfl
theorem dref_at {h : Hm} {n v : Nat} {kvs : List (Dat × Dat)} (e : h[n]? = some (.dct false v kvs)) : dref (.ref n) h = .val (n, v, kvs) h := by
  show (Mir.cellOf n >>= fun c => drefC n c) h = _
  rw [mo_bind, Mir.cellOf_val e (by simp), rb_val]
  rfl
theorem put_mem {kvs : List (Dat × Dat)} {k d : Dat} {p : Dat × Dat} (h : p ∈ putD kvs k d) : p.1 = k ∨ p ∈ kvs := by
  unfold putD at h
  split at h
  · obtain ⟨q, hq, e⟩ := List.mem_map.mp h
    by_cases c : q.1 = k
    · rw [if_pos c] at e; rw [← e]; exact .inl c
    · rw [if_neg c] at e; rw [← e]; exact .inr hq
  · rcases List.mem_append.mp h with h | h
    · exact .inr h
    · rw [List.mem_singleton.mp h]; exact .inl rfl
theorem look_in {kvs : List (Dat × Dat)} {k d : Dat} (e : lookD kvs k = some d) : (k, d) ∈ kvs := by
  unfold lookD at e
  cases q : kvs.find? fun p => decide (p.1 = k) with
  | none => rw [q] at e; cases e
  | some p =>
    rw [q] at e
    have e : p.2 = d := Option.some.inj e
    have e2 : p.1 = k := by
      have z := List.find?_some q
      simpa using z
    rw [← e, ← e2]
    exact List.mem_of_find?_eq_some q
/-! ### closing -/
/-- data of a depth without cells -/
def Pur : Nat → Dat → Prop
  | _, .ref _ => False
  | _, .exn _ => False
  | 0, .tup _ => False
  | 0, .lst _ => False
  | 0, .dct _ _ _ => False
  | n + 1, .tup xs => ∀ x ∈ xs, Pur n x
  | n + 1, .lst xs => ∀ x ∈ xs, Pur n x
  | n + 1, .dct _ ks vs => (∀ x ∈ ks, Pur n x) ∧ ∀ x ∈ vs, Pur n x
  | _, _ => True
mutual
theorem thaw_pur (N : Nat) (h : Hm) : ∀ (n k : Nat) (d : Dat), Pur n d → n ≤ k → thaw N h k d = some d
  | n, k, .non, _, _ => by unfold thaw; rfl
  | n, k, .bl _, _, _ => by unfold thaw; rfl
  | n, k, .int _, _, _ => by unfold thaw; rfl
  | n, k, .str _, _, _ => by unfold thaw; rfl
  | n, k, .ref _, p, _ => by cases n <;> exact p.elim
  | n, k, .exn _, p, _ => by cases n <;> exact p.elim
  | 0, k, .tup _, p, _ => p.elim
  | 0, k, .lst _, p, _ => p.elim
  | 0, k, .dct _ _ _, p, _ => p.elim
  | n + 1, 0, .tup _, p, q => absurd q (by omega)
  | n + 1, 0, .lst _, p, q => absurd q (by omega)
  | n + 1, 0, .dct _ _ _, p, q => absurd q (by omega)
  | n + 1, k + 1, .tup xs, p, q => by unfold thaw; rw [thaws_pur N h n k xs p (by omega)]; rfl
  | n + 1, k + 1, .lst xs, p, q => by unfold thaw; rw [thaws_pur N h n k xs p (by omega)]; rfl
  | n + 1, k + 1, .dct t ks vs, p, q => by unfold thaw; rw [thaws_pur N h n k ks p.1 (by omega), thaws_pur N h n k vs p.2 (by omega)]; simp
theorem thaws_pur (N : Nat) (h : Hm) : ∀ (n k : Nat) (ds : List Dat), (∀ d ∈ ds, Pur n d) → n ≤ k → thaws N h k ds = some ds
  | n, k, [], _, _ => by unfold thaws; rfl
  | n, k, d :: ds, p, q => by
    unfold thaws
    rw [thaw_pur N h n k d (p d (by simp)) q, thaws_pur N h n k ds (fun x hx => p x (List.mem_cons_of_mem _ hx)) q]
end
theorem close_val {f : List Dat → Mo Dat} {ds : List Dat} {h t : Hm} {d d' : Dat} (e : f ds h = .val d (h ++ t)) (et : thaw h.length (h ++ t) 30 d = some d') : closeM f ds h = .val d' h := by
  unfold closeM
  rw [e]
  simp only
  rw [if_pos (by simp), et]
theorem close_lst {f : List Dat → Mo Dat} {ds : List Dat} {h t : Hm} {n m : Nat} {xs : List Dat} (e : f ds h = .val (.ref n) (h ++ t)) (hn : h.length ≤ n) (ec : (h ++ t)[n]? = some (.lst xs)) (p : ∀ x ∈ xs, Pur m x) (hm : m ≤ 29) : closeM f ds h = .val (.lst xs) h := by
  refine close_val e ?_
  unfold thaw
  rw [if_neg (Nat.not_lt.mpr hn), ec]
  simp only
  rw [thaws_pur _ _ m 29 xs p hm]
  rfl
theorem close_dct {f : List Dat → Mo Dat} {ds : List Dat} {h t : Hm} {n m v : Nat} {b : Bool} {kvs : List (Dat × Dat)} (e : f ds h = .val (.ref n) (h ++ t)) (hn : h.length ≤ n) (ec : (h ++ t)[n]? = some (.dct b v kvs)) (p : ∀ x ∈ kvs, Pur m x.1 ∧ Pur m x.2) (hm : m ≤ 29) : closeM f ds h = .val (.dct b (kvs.map (·.1)) (kvs.map (·.2))) h := by
  refine close_val e ?_
  unfold thaw
  rw [if_neg (Nat.not_lt.mpr hn), ec]
  simp only
  rw [thaws_pur _ _ m 29 (kvs.map (·.1)) (fun x hx => by obtain ⟨y, hy, rfl⟩ := List.mem_map.mp hx; exact (p y hy).1) hm, thaws_pur _ _ m 29 (kvs.map (·.2)) (fun x hx => by obtain ⟨y, hy, rfl⟩ := List.mem_map.mp hx; exact (p y hy).2) hm]
  simp
theorem close_exc {f : List Dat → Mo Dat} {ds : List Dat} {h t : Hm} {c : Str} (e : f ds h = .exc c (h ++ t)) : closeM f ds h = .exc c h := by
  unfold closeM
  rw [e]
  simp only
  rw [if_pos (by simp)]
/-! ### runs of steps -/
theorem mseq_nx {m1 m2 : Ms} {ρ ρ' : Env'} {h h' : Hm} (e : m1 ρ h = .val (.nx ρ') h') : mSeq m1 m2 ρ h = m2 ρ' h' := by
  show (m1 ρ >>= fun f => match f with | .nx ρ' => m2 ρ' | f => pure f) h = _
  rw [mo_bind, e]
  rfl
theorem mseq_rt {m1 m2 : Ms} {ρ : Env'} {d : Dat} {h h' : Hm} (e : m1 ρ h = .val (.rt d) h') : mSeq m1 m2 ρ h = .val (.rt d) h' := by
  show (m1 ρ >>= fun f => match f with | .nx ρ' => m2 ρ' | f => pure f) h = _
  rw [mo_bind, e]
  rfl
theorem mseq_exc {m1 m2 : Ms} {ρ : Env'} {c : Str} {h h' : Hm} (e : m1 ρ h = .exc c h') : mSeq m1 m2 ρ h = .exc c h' := by
  show (m1 ρ >>= fun f => match f with | .nx ρ' => m2 ρ' | f => pure f) h = _
  rw [mo_bind, e]
  rfl
theorem mseq_step {m1 m2 : Ms} {ρ ρ' : Env'} {h h' : Hm} {r : Res Fl} (e : m1 ρ h = .val (.nx ρ') h') (k : m2 ρ' h' = r) : mSeq m1 m2 ρ h = r := (mseq_nx e).trans k
theorem run_rt {l : Nat} {m : Ms} {ds : List Dat} {d : Dat} {h h' : Hm} (e : m (startE l ds) h = .val (.rt d) h') : runFn l m ds h = .val d h' := by
  show (m (startE l ds) >>= retOf) h = _
  rw [mo_bind, e]
  rfl
theorem run_nx {l : Nat} {m : Ms} {ds : List Dat} {ρ : Env'} {h h' : Hm} (e : m (startE l ds) h = .val (.nx ρ) h') : runFn l m ds h = .val .non h' := by
  show (m (startE l ds) >>= retOf) h = _
  rw [mo_bind, e]
  rfl
theorem run_exc {l : Nat} {m : Ms} {ds : List Dat} {c : Str} {h h' : Hm} (e : m (startE l ds) h = .exc c h') : runFn l m ds h = .exc c h' := by
  show (m (startE l ds) >>= retOf) h = _
  rw [mo_bind, e]
  rfl
theorem for_eq {ms : MSrc} {bd : Dat → Env' → Option Env'} {body : Ms} {ρ : Env'} {h h' : Hm} {src : Src} (e : ms ρ h = .val src h') : mFor ms bd body ρ h = forL src bd body src.items ρ h' := by
  show (ms ρ >>= fun src => forL src bd body src.items ρ) h = _
  rw [mo_bind, e, rb_val]
/-- good data of a depth: no cell, no exception, short texts of signs -/
def Okn : Nat → Dat → Prop
  | _, .str z => OkS z
  | _, .ref _ => False
  | _, .exn _ => False
  | 0, .tup _ => True
  | 0, .lst _ => True
  | n + 1, .tup xs => ∀ x ∈ xs, Okn n x
  | n + 1, .lst xs => ∀ x ∈ xs, Okn n x
  | _, _ => True
theorem okn_ok : ∀ {n : Nat} {d : Dat}, Okn n d → Ok d
  | n, .str z, o => by cases n <;> exact o
  | n, .ref _, o => by cases n <;> exact o
  | n, .exn _, o => by cases n <;> exact o
  | n, .tup _, o => trivial
  | n, .lst _, o => trivial
  | n, .non, o => trivial
  | n, .bl _, o => trivial
  | n, .int _, o => trivial
  | n, .dct _ _ _, o => trivial
theorem okn_okT : ∀ {n : Nat} {d : Dat}, Okn (n + 1) d → OkT d
  | n, .str z, o => o
  | n, .ref _, o => o
  | n, .exn _, o => o
  | n, .tup xs, o => fun x hx => okn_ok (o x hx)
  | n, .lst xs, o => fun x hx => okn_ok (o x hx)
  | n, .non, o => trivial
  | n, .bl _, o => trivial
  | n, .int _, o => trivial
  | n, .dct _ _ _, o => trivial
theorem okn_pl {n : Nat} {d : Dat} (o : Okn n d) : Pl d := by
  cases d with
  | ref _ => cases n <;> exact o.elim
  | exn _ => cases n <;> exact o.elim
  | _ => trivial
end Cm
end

section
set_option Elab.async false
set_option linter.all false
set_option maxRecDepth 100000
namespace PG
open PySem PySem.Spec
open PyProof.Rows L2 Mir
def m_is_name : Ms := mSeq (mIfS (mOrT (mNotT (mTest (mUn (isD "str") (mVar 0)))) (mNotT (mChT (cmpI (fun i j => decide (i ≤ j))) (cmpI (fun i j => decide (i ≤ j))) (mC (.int 1)) (mUn lenD (mVar 0)) (mC (.int 8))))) (mRet (mC (.bl false))) (mNext)) (mRet (mUn allD (mFz (mLc (mSrc (mVar 0)) [1] (bName 1) mYes (mCmp cInT (mVar 1) (mC (.str "abcdefghijklmnopqrstuvwxyz")))))))
def f_is_name : List Dat → Mo Dat := runFn 2 m_is_name
def m_is_row : Ms := mRet (mAndV (mUn (isD "tuple") (mVar 0)) (mAndV (mChV (cmpI (fun i j => decide (i ≤ j))) (cmpI (fun i j => decide (i ≤ j))) (mC (.int 1)) (mUn lenD (mVar 0)) (mBin aAdd (mC (.int 1)) (mC (.int 4)))) (mCall f_is_name (mCons (mIx (mVar 0) (mC (.int 0))) (mNil)))))
def f_is_row : List Dat → Mo Dat := runFn 1 m_is_row
def m_is_whole : Ms := mRet (mAndV (mUn (isD "int") (mVar 0)) (mNotV (mUn (isD "bool") (mVar 0))))
def f_is_whole : List Dat → Mo Dat := runFn 1 m_is_whole
def m_is_value : Ms := mRet (mOrV (mCall f_is_name (mCons (mVar 0) (mNil))) (mAndV (mCall f_is_whole (mCons (mVar 0) (mNil))) (mChV (cmpI (fun i j => decide (i ≤ j))) (cmpI (fun i j => decide (i ≤ j))) (mUn aNeg (mC (.int 999999999))) (mVar 0) (mC (.int 999999999)))))
def f_is_value : List Dat → Mo Dat := runFn 1 m_is_value
def m_is_thing : Ms := mRet (mAndV (mCall f_is_row (mCons (mVar 0) (mNil))) (mUn allD (mFz (mLc (mSrc (mSl (mVar 0) (mPs (mC (.int 1))) (mPn))) [1] (bName 1) mYes (mCall f_is_value (mCons (mVar 1) (mNil)))))))
def f_is_thing : List Dat → Mo Dat := runFn 2 m_is_thing
def m_need_thing : Ms := mSeq (mIfS (mNotT (mTest (mCall f_is_thing (mCons (mVar 0) (mNil))))) (mRaise "BadThing") (mNext)) (mRet (mVar 0))
def f_need_thing : List Dat → Mo Dat := runFn 1 m_need_thing
def m_is_word : Ms := mSeq (mIfS (mOrT (mNotT (mTest (mUn (isD "str") (mVar 0)))) (mNotT (mChT (cmpI (fun i j => decide (i ≤ j))) (cmpI (fun i j => decide (i ≤ j))) (mC (.int 1)) (mUn lenD (mVar 0)) (mC (.int 8))))) (mRet (mC (.bl false))) (mNext)) (mRet (mAndV (mCmp cInT (mIx (mVar 0) (mC (.int 0))) (mC (.str "ABCDEFGHIJKLMNOPQRSTUVWXYZ"))) (mUn allD (mFz (mLc (mSrc (mSl (mVar 0) (mPs (mC (.int 1))) (mPn))) [1] (bName 1) mYes (mCmp cInT (mVar 1) (mC (.str "abcdefghijklmnopqrstuvwxyz"))))))))
def f_is_word : List Dat → Mo Dat := runFn 2 m_is_word
def m_is_pattern : Ms := mRet (mAndV (mCall f_is_row (mCons (mVar 0) (mNil))) (mUn allD (mFz (mLc (mSrc (mSl (mVar 0) (mPs (mC (.int 1))) (mPn))) [1] (bName 1) mYes (mOrV (mCall f_is_value (mCons (mVar 1) (mNil))) (mCall f_is_word (mCons (mVar 1) (mNil))))))))
def f_is_pattern : List Dat → Mo Dat := runFn 2 m_is_pattern
def m_is_want : Ms := mSeq (mIfS (mOrT (mNotT (mTest (mUn (isD "tuple") (mVar 0)))) (mOrT (mCmpT cNeD (mUn lenD (mVar 0)) (mC (.int 2))) (mNotT (mTest (mUn (isD "str") (mIx (mVar 0) (mC (.int 0)))))))) (mRet (mC (.bl false))) (mNext)) (mRet (mAndV (mCmp cIn (mIx (mVar 0) (mC (.int 0))) (mTup (mCons (mC (.str "some")) (mCons (mC (.str "none")) (mNil))))) (mCall f_is_pattern (mCons (mIx (mVar 0) (mC (.int 1))) (mNil)))))
def f_is_want : List Dat → Mo Dat := runFn 1 m_is_want
def m_are_wants : Ms := mSeq (mIfS (mOrT (mNotT (mTest (mUn (isD2 "list" "tuple") (mVar 0)))) (mNotT (mChT (cmpI (fun i j => decide (i ≤ j))) (cmpI (fun i j => decide (i ≤ j))) (mC (.int 1)) (mUn lenD (mVar 0)) (mC (.int 4))))) (mRet (mC (.bl false))) (mNext)) (mRet (mAndV (mUn allD (mFz (mLc (mSrc (mVar 0)) [1] (bName 1) mYes (mCall f_is_want (mCons (mVar 1) (mNil)))))) (mCmp cEqD (mIx (mIx (mVar 0) (mC (.int 0))) (mC (.int 0))) (mC (.str "some")))))
def f_are_wants : List Dat → Mo Dat := runFn 2 m_are_wants
def m_words_of : Ms := mSeq (mSet 1 (mNewD)) (mSeq (mFor (mSrc (mVar 0)) (bTup [2, 3]) (mIfS (mCmpT cEqD (mVar 2) (mC (.str "some"))) (mFor (mSrc (mSl (mVar 3) (mPs (mC (.int 1))) (mPn))) (bName 4) (mIfS (mTest (mCall f_is_word (mCons (mVar 4) (mNil)))) (mPutD (mVar 1) (mVar 4) (mC (.bl true))) (mNext))) (mNext))) (mRet (mVar 1)))
def f_words_of : List Dat → Mo Dat := runFn 5 m_words_of
def f_words_ofc : List Dat → Mo Dat := closeM f_words_of
def m_is_deed : Ms := mSeq (mIfS (mOrT (mNotT (mTest (mUn (isD "tuple") (mVar 0)))) (mOrT (mCmpT cNeD (mUn lenD (mVar 0)) (mC (.int 2))) (mNotT (mTest (mUn (isD "str") (mIx (mVar 0) (mC (.int 0)))))))) (mRet (mC (.bl false))) (mNext)) (mSeq (mIfS (mCmpT cEqD (mIx (mVar 0) (mC (.int 0))) (mC (.str "take"))) (mRet (mAndV (mCall f_is_whole (mCons (mIx (mVar 0) (mC (.int 1))) (mNil))) (mAndV (mChV (cmpI (fun i j => decide (i ≤ j))) (cmpI (fun i j => decide (i < j))) (mC (.int 0)) (mIx (mVar 0) (mC (.int 1))) (mUn lenD (mVar 1))) (mCmp cEqD (mIx (mIx (mVar 1) (mIx (mVar 0) (mC (.int 1)))) (mC (.int 0))) (mC (.str "some")))))) (mNext)) (mSeq (mIfS (mOrT (mCmpT cNeD (mIx (mVar 0) (mC (.int 0))) (mC (.str "put"))) (mNotT (mTest (mCall f_is_pattern (mCons (mIx (mVar 0) (mC (.int 1))) (mNil)))))) (mRet (mC (.bl false))) (mNext)) (mSeq (mSet 2 (mCall f_words_ofc (mCons (mVar 1) (mNil)))) (mRet (mUn allD (mFz (mLc (mSrc (mSl (mIx (mVar 0) (mC (.int 1))) (mPs (mC (.int 1))) (mPn))) [3] (bName 3) (mTest (mCall f_is_word (mCons (mVar 3) (mNil)))) (mCmp cInD (mVar 3) (mVar 2)))))))))
def f_is_deed : List Dat → Mo Dat := runFn 4 m_is_deed
def m_is_rule : Ms := mSeq (mIfS (mOrT (mNotT (mTest (mUn (isD "tuple") (mVar 0)))) (mOrT (mCmpT cNeD (mUn lenD (mVar 0)) (mC (.int 3))) (mOrT (mNotT (mTest (mCall f_is_name (mCons (mIx (mVar 0) (mC (.int 0))) (mNil))))) (mNotT (mTest (mCall f_are_wants (mCons (mIx (mVar 0) (mC (.int 1))) (mNil)))))))) (mRet (mC (.bl false))) (mNext)) (mSeq (mIfS (mOrT (mNotT (mTest (mUn (isD2 "list" "tuple") (mIx (mVar 0) (mC (.int 2)))))) (mCmpT cGt (mUn lenD (mIx (mVar 0) (mC (.int 2)))) (mC (.int 4)))) (mRet (mC (.bl false))) (mNext)) (mRet (mUn allD (mFz (mLc (mSrc (mIx (mVar 0) (mC (.int 2)))) [1] (bName 1) mYes (mCall f_is_deed (mCons (mVar 1) (mCons (mIx (mVar 0) (mC (.int 1))) (mNil)))))))))
def f_is_rule : List Dat → Mo Dat := runFn 2 m_is_rule
def m_need_rules : Ms := mSeq (mSet 1 (mCell (mSized (mNil)))) (mSeq (mFor (mSrc (mVar 0)) (bName 2) (mSeq (mIfS (mOrT (mCmpT cEqD (mUn lenD (mVar 1)) (mC (.int 10))) (mOrT (mNotT (mTest (mCall f_is_rule (mCons (mVar 2) (mNil))))) (mCmpT cIn (mIx (mVar 2) (mC (.int 0))) (mFz (mLc (mSrc (mVar 1)) [3] (bName 3) mYes (mIx (mVar 3) (mC (.int 0)))))))) (mRaise "BadRule") (mNext)) (mDrop (mLm lAppend (mVar 1) (mTup (mCons (mIx (mVar 2) (mC (.int 0))) (mCons (mUn tupD (mIx (mVar 2) (mC (.int 1)))) (mCons (mUn tupD (mIx (mVar 2) (mC (.int 2)))) (mNil))))))))) (mRet (mVar 1)))
def f_need_rules : List Dat → Mo Dat := runFn 4 m_need_rules
def f_need_rulesc : List Dat → Mo Dat := closeM f_need_rules
def m_filled : Ms := mRet (mUn tupD (mFz (mCat (mFz (mSized (mCons (mIx (mVar 0) (mC (.int 0))) (mNil)))) (mFz (mLc (mSrc (mSl (mVar 0) (mPs (mC (.int 1))) (mPn))) [2] (bName 2) mYes (mIf (mTest (mCall f_is_word (mCons (mVar 2) (mNil)))) (mDix (mVar 1) (mVar 2)) (mVar 2)))))))
def f_filled : List Dat → Mo Dat := runFn 3 m_filled
def m_fitted : Ms := mSeq (mIfS (mOrT (mCmpT cNeD (mIx (mVar 0) (mC (.int 0))) (mIx (mVar 1) (mC (.int 0)))) (mCmpT cNeD (mUn lenD (mVar 0)) (mUn lenD (mVar 1)))) (mRet (mC .non)) (mNext)) (mSeq (mSet 3 (mUn copyC (mVar 2))) (mSeq (mFor (mSrcA zpA (mCons (mSl (mVar 0) (mPs (mC (.int 1))) (mPn)) (mCons (mSl (mVar 1) (mPs (mC (.int 1))) (mPn)) (mNil)))) (bTup [4, 5]) (mSeq (mSet 6 (mVar 4)) (mSeq (mIfS (mTest (mCall f_is_word (mCons (mVar 4) (mNil)))) (mSet 6 (mDm dSetd (mVar 3) (mCons (mVar 4) (mCons (mVar 5) (mNil))))) (mNext)) (mIfS (mCmpT cNeD (mVar 6) (mVar 5)) (mRet (mC .non)) (mNext))))) (mRet (mVar 3))))
def f_fitted : List Dat → Mo Dat := runFn 7 m_fitted
end PG
end

section
set_option Elab.async false
set_option linter.all false
set_option maxRecDepth 100000
set_option maxHeartbeats 4000000
/-! PGA: the looks at things, as plain functions. -/
namespace PG
open PySem Mir L2 Cm
theorem eq_is_name {d : Dat} (o : Ok d) (h : Hm) : f_is_name [d] h = .val (.bl (isName d)) h := by
  cases d with
  | str z =>
    have hz := len_line o
    have key := lc_signs z smallS (some (.str z)) h
    by_cases q1 : 1 ≤ z.length
    · have e1 : (1 : Int) ≤ (z.length : Int) := by omega
      by_cases q2 : z.length ≤ 8
      · have e2 : (z.length : Int) ≤ 8 := by omega
        have e3 : len8 z = true := decide_eq_true ⟨q1, q2⟩
        simp [f_is_name, m_is_name, isName, isNameS, e1, e2, e3, hz, key, all_blsN]
      · have e2 : ¬ (z.length : Int) ≤ 8 := by omega
        have e3 : len8 z = false := decide_eq_false fun q => q2 q.2
        simp [f_is_name, m_is_name, isName, isNameS, e1, e2, e3, hz]
    · have e1 : ¬ (1 : Int) ≤ (z.length : Int) := by omega
      have e3 : len8 z = false := decide_eq_false fun q => q1 q.1
      simp [f_is_name, m_is_name, isName, isNameS, e1, e3, hz]
  | ref _ => exact o.elim
  | exn _ => exact o.elim
  | _ => simp [f_is_name, m_is_name, isName]
theorem eq_is_word {d : Dat} (o : Ok d) (h : Hm) : f_is_word [d] h = .val (.bl (isWord d)) h := by
  cases d with
  | str z =>
    have hz := len_line o
    have hc : (cutS z (some 1) none).length ≤ sizeLine := Nat.le_trans (cut1_len z) hz
    have key := lc_signs (cutS z (some 1) none) smallS (some (.str z)) h
    rw [cut1] at key
    by_cases q1 : 1 ≤ z.length
    · have e1 : (1 : Int) ≤ (z.length : Int) := by omega
      have e4 := first_sign q1
      by_cases q2 : z.length ≤ 8
      · have e2 : (z.length : Int) ≤ 8 := by omega
        have e3 : len8 z = true := decide_eq_true ⟨q1, q2⟩
        have er : isWord (.str z) = (inS greatS (z.cps.getD 0 0) && allS smallS (z.cps.toList.drop 1)) := by
          show (len8 z && _) = _
          rw [e3, Bool.true_and]
        rw [er]
        generalize z.cps.getD 0 0 = c0 at e4 ⊢
        generalize z.cps.toList.drop 1 = t at key ⊢
        have e5 := all_blsN smallS t h
        have e6 : inS greatS c0 = decide (c0 ∈ (Str.ofString "ABCDEFGHIJKLMNOPQRSTUVWXYZ").cps) := by simp [inS]
        by_cases q3 : c0 ∈ (Str.ofString "ABCDEFGHIJKLMNOPQRSTUVWXYZ").cps
        · simp [f_is_word, m_is_word, e1, e2, hz, key, e5, e4, hc, e6, q3]
        · simp [f_is_word, m_is_word, e1, e2, hz, key, e5, e4, hc, e6, q3]
      · have e2 : ¬ (z.length : Int) ≤ 8 := by omega
        have e3 : len8 z = false := decide_eq_false fun q => q2 q.2
        simp [f_is_word, m_is_word, isWord, isWordS, e1, e2, e3, hz]
    · have e1 : ¬ (1 : Int) ≤ (z.length : Int) := by omega
      have e3 : len8 z = false := decide_eq_false fun q => q1 q.1
      simp [f_is_word, m_is_word, isWord, isWordS, e1, e3, hz]
  | ref _ => exact o.elim
  | exn _ => exact o.elim
  | _ => simp [f_is_word, m_is_word, isWord]
theorem eq_is_whole {d : Dat} (o : Ok d) (h : Hm) : f_is_whole [d] h = .val (.bl (isWhole d)) h := by
  cases d with
  | ref _ => exact o.elim
  | exn _ => exact o.elim
  | _ => simp [f_is_whole, m_is_whole, isWhole]
theorem eq_is_value {d : Dat} (o : Ok d) (h : Hm) : f_is_value [d] h = .val (.bl (isValue d)) h := by
  cases d with
  | ref _ => exact o.elim
  | exn _ => exact o.elim
  | int i =>
    by_cases q1 : -999999999 ≤ i <;> by_cases q2 : i ≤ 999999999 <;> simp [f_is_value, m_is_value, isValue, eq_is_name o, eq_is_whole o, isName, isWhole, q1, q2]
  | str z => cases q : isNameS z <;> simp [f_is_value, m_is_value, isValue, eq_is_name o, eq_is_whole o, isName, isWhole, q]
  | _ => simp [f_is_value, m_is_value, isValue, eq_is_name o, eq_is_whole o, isName, isWhole]
theorem eq_is_row {d : Dat} (o : OkT d) (h : Hm) : f_is_row [d] h = .val (.bl (isRow d)) h := by
  cases d with
  | ref _ => exact o.elim
  | exn _ => exact o.elim
  | tup xs =>
    cases xs with
    | nil => simp [f_is_row, m_is_row, isRow]
    | cons x xs =>
      have ox : Ok x := o x (by simp)
      have e0 : atI (x :: xs) 0 = some x := at0 x xs
      by_cases q : xs.length ≤ 4
      · have e1 : (1 : Int) ≤ ((xs.length : Int) + 1) := by omega
        have e2 : (xs.length : Int) + 1 ≤ 5 := by omega
        simp [f_is_row, m_is_row, isRow, q, e0, e1, e2, eq_is_name ox]
      · have e1 : (1 : Int) ≤ ((xs.length : Int) + 1) := by omega
        have e2 : ¬ (xs.length : Int) + 1 ≤ 5 := by omega
        simp [f_is_row, m_is_row, isRow, q, e0, e1, e2, eq_is_name ox]
  | _ => simp [f_is_row, m_is_row, isRow]
/-- a comprehension of looks over plain parts -/
theorem eq_is_thing {d : Dat} (o : OkT d) (h : Hm) : f_is_thing [d] h = .val (.bl (isThing d)) h := by
  cases d with
  | ref _ => exact o.elim
  | exn _ => exact o.elim
  | tup xs =>
    cases xs with
    | nil => simp [f_is_thing, m_is_thing, isThing, eq_is_row o, isRow]
    | cons x xs =>
      have k := lc_looks (p := isValue) (e := mCall f_is_value (mCons (mVar 1) mNil)) (a := some (.tup (x :: xs))) (h := h) xs fun d hd ρ e => by
        have := eq_is_value (o d (List.mem_cons_of_mem _ hd)) h
        simp [e, this]
      have e5 := all_bls xs isValue h
      have er : isThing (.tup (x :: xs)) = (isRow (.tup (x :: xs)) && xs.all isValue) := rfl
      rw [er]
      generalize xs.all isValue = b at e5 ⊢
      cases q : isRow (.tup (x :: xs))
      · simp [f_is_thing, m_is_thing, eq_is_row o, q]
      · simp [f_is_thing, m_is_thing, eq_is_row o, q, cutT1, k, e5]
  | _ => simp [f_is_thing, m_is_thing, isThing, eq_is_row o, isRow]
theorem eq_is_pattern {d : Dat} (o : OkT d) (h : Hm) : f_is_pattern [d] h = .val (.bl (isPattern d)) h := by
  cases d with
  | ref _ => exact o.elim
  | exn _ => exact o.elim
  | tup xs =>
    cases xs with
    | nil => simp [f_is_pattern, m_is_pattern, isPattern, eq_is_row o, isRow]
    | cons x xs =>
      have k := lc_looks (p := fun y => isValue y || isWord y) (e := mOrV (mCall f_is_value (mCons (mVar 1) mNil)) (mCall f_is_word (mCons (mVar 1) mNil))) (a := some (.tup (x :: xs))) (h := h) xs fun d hd ρ e => by
        have o1 := o d (List.mem_cons_of_mem _ hd)
        have e1 := eq_is_value o1 h
        have e2 := eq_is_word o1 h
        cases q : isValue d <;> simp [e, e1, e2, q]
      have e5 := all_bls xs (fun y => isValue y || isWord y) h
      have er : isPattern (.tup (x :: xs)) = (isRow (.tup (x :: xs)) && xs.all fun y => isValue y || isWord y) := rfl
      rw [er]
      generalize (xs.all fun y => isValue y || isWord y) = b at e5 ⊢
      cases q : isRow (.tup (x :: xs))
      · simp [f_is_pattern, m_is_pattern, eq_is_row o, q]
      · simp [f_is_pattern, m_is_pattern, eq_is_row o, q, cutT1, k, e5]
  | _ => simp [f_is_pattern, m_is_pattern, isPattern, eq_is_row o, isRow]
theorem eq_need_thing {d : Dat} (o : OkT d) (h : Hm) : f_need_thing [d] h = if isThing d = true then .val d h else .exc "BadThing" h := by
  cases q : isThing d <;> simp [f_need_thing, m_need_thing, eq_is_thing o, q]
end PG
end

section
set_option Elab.async false
set_option linter.all false
set_option maxRecDepth 100000
set_option maxHeartbeats 4000000
/-! PGR: rules looked at, as plain functions. -/
namespace PG
open PySem Mir L2 Cm
def isWant : Dat → Bool
  | .tup [.str z, p] => (decide (z = "some") || decide (z = "none")) && isPattern p
  | _ => false
theorem isD_pl {d : Dat} (p : Pl d) (T : String) (h : Hm) : isD T d h = .val (.bl (isA (tyP d) T)) h := by
  cases d <;> first | exact p.elim | rfl
theorem isD2_pl {d : Dat} (p : Pl d) (T U : String) (h : Hm) : isD2 T U d h = .val (.bl (isA (tyP d) T || isA (tyP d) U)) h := by
  cases d <;> first | exact p.elim | rfl
theorem okS_str {z : Str} (o : OkS z) : PyData.strOk z = true := okS_py o
theorem ok_some : PyData.strOk "some" = true := by decide +kernel
theorem ok_none : PyData.strOk "none" = true := by decide +kernel
theorem ok_take : PyData.strOk "take" = true := by decide +kernel
theorem ok_put : PyData.strOk "put" = true := by decide +kernel
theorem in_str2 {a b z : Str} (oa : PyData.strOk a = true) (ob : PyData.strOk b = true) (oz : PyData.strOk z = true) (h : Hm) : cIn (.str z) (.tup [.str a, .str b]) h = .val (decide (a = z) || decide (b = z)) h := by
  have p1 := pyOf_val (py_str oz h 29)
  have p2 : pysM [.str a, .str b] h = .val [.str a, .str b] h := pysM_val (by simp [py_str oa h 29, py_str ob h 29])
  have e : ([PyData.str a, .str b].any fun e => PyData.eqv e (.str z)) = (decide (a = z) || decide (b = z)) := by
    simp [eqv_str]
  have sq : Mir.seqOf (.tup [.str a, .str b]) h = .val [.str a, .str b] h := rfl
  simp only [cIn, memD, mo_bind, sq, rb_val, p1, p2, mo_pure, e]
theorem eq_is_want {d : Dat} (o : Okn 2 d) (h : Hm) : f_is_want [d] h = .val (.bl (isWant d)) h := by
  have pd := okn_pl o
  have i1 := isD_pl pd "tuple" h
  cases d with
  | tup xs =>
    match xs, o with
    | [], o =>
      have n2 : cNeD (.int 0) (.int 2) h = .val true h := neI 0 2 h
      simp [f_is_want, m_is_want, isWant, n2]
    | [a], o =>
      have n2 : cNeD (.int 1) (.int 2) h = .val true h := neI 1 2 h
      simp [f_is_want, m_is_want, isWant, n2]
    | a :: b :: c :: r, o =>
      have n2 : cNeD (.int ((r.length : Int) + 1 + 1 + 1)) (.int 2) h = .val true h := by
        have : ¬ ((r.length : Int) + 1 + 1 + 1 = 2) := by omega
        rw [neI, decide_eq_false this]
        rfl
      have w : isWant (.tup (a :: b :: c :: r)) = false := by
        cases a <;> rfl
      simp [f_is_want, m_is_want, n2, w]
    | [a, b], o =>
      have n2 : cNeD (.int 2) (.int 2) h = .val false h := neI 2 2 h
      have oa : Okn 1 a := o a (by simp)
      have ob : Okn 1 b := o b (by simp)
      have ia := isD_pl (okn_pl oa) "str" h
      have ix0 : ixSq (.tup [a, b]) (.int 0) h = .val a h := sd_ix tup_sd (at0 _ _)
      have ix1 : ixSq (.tup [a, b]) (.int 1) h = .val b h := sd_ix tup_sd (at1 _ _ _)
      have pb := eq_is_pattern (okn_okT ob) h
      cases a with
      | str z =>
        have inz := in_str2 ok_some ok_none (okS_str oa) h
        by_cases z1 : z = "some"
        · subst z1
          have inz : cIn (.str (Str.ofString "some")) (.tup [.str (Str.ofString "some"), .str (Str.ofString "none")]) h = .val true h := inz.trans (by simp)
          simp [-ixSq, f_is_want, m_is_want, isWant, n2, ix0, ix1, inz, pb]
        · by_cases z2 : z = "none"
          · subst z2
            have inz : cIn (.str (Str.ofString "none")) (.tup [.str (Str.ofString "some"), .str (Str.ofString "none")]) h = .val true h := inz.trans (by simp)
            simp [-ixSq, f_is_want, m_is_want, isWant, n2, ix0, ix1, inz, pb]
          · have inz : cIn (.str z) (.tup [.str (Str.ofString "some"), .str (Str.ofString "none")]) h = .val false h := inz.trans (by
              have a1 : ¬ (("some" : Str) = z) := fun e => z1 e.symm
              have a2 : ¬ (("none" : Str) = z) := fun e => z2 e.symm
              simp [a1, a2])
            simp [-ixSq, f_is_want, m_is_want, isWant, n2, ix0, ix1, inz, z1, z2]
      | ref _ => exact oa.elim
      | exn _ => exact oa.elim
      | _ => simp [-ixSq, f_is_want, m_is_want, isWant, n2, ix0]
  | ref _ => exact o.elim
  | exn _ => exact o.elim
  | _ => simp [f_is_want, m_is_want, isWant]
end PG
end

section
set_option Elab.async false
set_option linter.all false
set_option maxRecDepth 100000
set_option maxHeartbeats 4000000
/-! PGR2: the words of wants. -/
namespace PG
open PySem Mir L2 Cm
def KS (kvs : List (Dat × Dat)) (S : List Dat) : Prop := (∀ p ∈ kvs, (∃ z, p.1 = .str z) ∧ p.2 = .bl true) ∧ (∀ t, (∃ x, lookD kvs t = some x) ↔ t ∈ S) ∧ kvs.length ≤ S.length
def wordB : Ms := (mIfS (mTest (mCall f_is_word (mCons (mVar 4) (mNil)))) (mPutD (mVar 1) (mVar 4) (mC (.bl true))) (mNext))
theorem isWord_str {t : Dat} (w : isWord t = true) : ∃ z, t = .str z := by
  cases t with
  | str z => exact ⟨z, rfl⟩
  | _ => cases w
theorem ks_put {kvs : List (Dat × Dat)} {S : List Dat} (k : KS kvs S) (z : Str) : KS (putD kvs (.str z) (.bl true)) (S ++ [.str z]) := by
  refine ⟨fun p hp => ?_, fun t => ?_, ?_⟩
  · unfold putD at hp
    split at hp
    · obtain ⟨q, hq, e⟩ := List.mem_map.mp hp
      by_cases c : q.1 = .str z
      · rw [if_pos c] at e; rw [← e]; exact ⟨⟨z, c⟩, rfl⟩
      · rw [if_neg c] at e; rw [← e]; exact k.1 q hq
    · rcases List.mem_append.mp hp with hp | hp
      · exact k.1 p hp
      · rw [List.mem_singleton.mp hp]; exact ⟨⟨z, rfl⟩, rfl⟩
  · rw [look_put, List.mem_append, List.mem_singleton, ← k.2.1 t]
    by_cases e : t = .str z
    · simp [e]
    · simp [e]
  · rw [List.length_append]
    exact Nat.le_trans (put_len _ _ _) (Nat.succ_le_succ k.2.2)
theorem words_in (W a b : Option Dat) (h0 : Hm) (src : Src) (hs : src.lk = none) : ∀ (ts S : List Dat) (kvs : List (Dat × Dat)) (v : Nat) (g : Option Dat), (∀ t ∈ ts, Ok t) → S.length + ts.length < 1000 → KS kvs S →
    ∃ kvs' v' g', KS kvs' (S ++ ts.filter isWord) ∧ forL src (bName 4) wordB ts [W, some (.ref h0.length), a, b, g] (h0 ++ [.dct false v kvs]) = .val (.nx [W, some (.ref h0.length), a, b, g']) (h0 ++ [.dct false v' kvs'])
  | [], S, kvs, v, g, _, _, k => ⟨kvs, v, g, by simpa using k, by
    show (mGuard src >>= fun _ => pure (Fl.nx _)) _ = _
    rw [mo_bind, guard_none hs, rb_val]
    rfl⟩
  | t :: ts, S, kvs, v, g, ok, hl, k => by
    have hl : S.length + (ts.length + 1) < 1000 := hl
    have w := eq_is_word (ok t (by simp)) (h0 ++ [.dct false v kvs])
    have run : ∀ r, forL src (bName 4) wordB (t :: ts) [W, some (.ref h0.length), a, b, g] (h0 ++ [.dct false v kvs]) = r ↔ ((wordB [W, some (.ref h0.length), a, b, some t] (h0 ++ [.dct false v kvs])).bind fun f => match f with
      | .nx ρ2 => forL src (bName 4) wordB ts ρ2
      | .ct ρ2 => forL src (bName 4) wordB ts ρ2
      | .bk ρ2 => pure (.nx ρ2)
      | .rt d => pure (.rt d)) = r := fun r => by
      have : forL src (bName 4) wordB (t :: ts) [W, some (.ref h0.length), a, b, g] (h0 ++ [.dct false v kvs]) = (mGuard src >>= fun _ => optM (bName 4 t [W, some (.ref h0.length), a, b, g]) >>= fun ρ' => wordB ρ' >>= fun f => match f with
        | .nx ρ2 => forL src (bName 4) wordB ts ρ2
        | .ct ρ2 => forL src (bName 4) wordB ts ρ2
        | .bk ρ2 => pure (.nx ρ2)
        | .rt d => pure (.rt d)) (h0 ++ [.dct false v kvs]) := rfl
      rw [this, mo_bind, guard_none hs, rb_val]
      exact Iff.rfl
    cases q : isWord t
    · rw [q] at w
      have st : wordB [W, some (.ref h0.length), a, b, some t] (h0 ++ [.dct false v kvs]) = .val (.nx [W, some (.ref h0.length), a, b, some t]) (h0 ++ [.dct false v kvs]) := by simp [wordB, w]
      obtain ⟨kvs', v', g', i1, i2⟩ := words_in W a b h0 src hs ts S kvs v (some t) (fun x hx => ok x (List.mem_cons_of_mem _ hx)) (by omega) k
      refine ⟨kvs', v', g', by simpa [q] using i1, (run _).mpr ?_⟩
      rw [st]
      exact i2
    · rw [q] at w
      obtain ⟨z, rfl⟩ := isWord_str q
      have re := dref_at (at_end h0 (.dct false v kvs))
      have sz : kvs.length < sizeLine := Nat.lt_of_lt_of_le (show kvs.length < 1000 from Nat.lt_of_le_of_lt k.2.2 (by omega)) (by decide)
      have ke : keyM (.str z) (h0 ++ [.dct false v kvs]) = .val (.str z) (h0 ++ [.dct false v kvs]) := rfl
      have se := set_end h0 (.dct false v kvs) (.dct false (v + 1) (putD kvs (.str z) (.bl true)))
      have st : wordB [W, some (.ref h0.length), a, b, some (.str z)] (h0 ++ [.dct false v kvs]) = .val (.nx [W, some (.ref h0.length), a, b, some (.str z)]) (h0 ++ [.dct false (v + 1) (putD kvs (.str z) (.bl true))]) := by
        simp [wordB, w, mPutD, re, ke, putM, sz, putU]
      obtain ⟨kvs', v', g', i1, i2⟩ := words_in W a b h0 src hs ts (S ++ [.str z]) _ (v + 1) (some (.str z)) (fun x hx => ok x (List.mem_cons_of_mem _ hx)) (by rw [List.length_append]; show S.length + 1 + ts.length < 1000; omega) (ks_put k z)
      refine ⟨kvs', v', g', ?_, (run _).mpr ?_⟩
      · have : S ++ [.str z] ++ ts.filter isWord = S ++ (Dat.str z :: ts).filter isWord := by simp [q]
        rw [← this]; exact i1
      · rw [st]
        exact i2
/-- the words of a want that is a some -/
def wordsW : Dat → List Dat
  | .tup [.str z, .tup (_ :: ts)] => if z = "some" then ts.filter isWord else []
  | _ => []
theorem wordsW_eq (z : Str) (k : Dat) (ts : List Dat) : wordsW (.tup [.str z, .tup (k :: ts)]) = if z = "some" then ts.filter isWord else [] := rfl
def wordsOf (ws : List Dat) : List Dat := ws.flatMap wordsW
theorem want_shape {w : Dat} (q : isWant w = true) : ∃ z k ts, w = .tup [.str z, .tup (k :: ts)] ∧ (z = "some" ∨ z = "none") ∧ ts.length ≤ 4 ∧ isName k = true := by
  unfold isWant at q
  split at q
  · rename_i z p
    rw [Bool.and_eq_true, Bool.or_eq_true] at q
    unfold isPattern at q
    obtain ⟨q1, q2⟩ := q
    split at q2
    · rename_i k ts
      rw [Bool.and_eq_true, Bool.and_eq_true] at q2
      exact ⟨z, k, ts, rfl, q1.imp of_decide_eq_true of_decide_eq_true, of_decide_eq_true q2.1.1, q2.1.2⟩
    · cases q2
  · cases q
def wantB : Ms := (mIfS (mCmpT cEqD (mVar 2) (mC (.str "some"))) (mFor (mSrc (mSl (mVar 3) (mPs (mC (.int 1))) (mPn))) (bName 4) wordB) (mNext))
theorem want_step (W g : Option Dat) (h0 : Hm) {z : Str} {k : Dat} {ts : List Dat} (oz : PyData.strOk z = true) (ok : ∀ t ∈ ts, Ok t) (S : List Dat) (kvs : List (Dat × Dat)) (v : Nat) (hl : S.length + ts.length < 1000) (ks : KS kvs S) :
    ∃ kvs' v' g', KS kvs' (S ++ wordsW (.tup [.str z, .tup (k :: ts)])) ∧ wantB [W, some (.ref h0.length), some (.str z), some (.tup (k :: ts)), g] (h0 ++ [.dct false v kvs]) = .val (.nx [W, some (.ref h0.length), some (.str z), some (.tup (k :: ts)), g']) (h0 ++ [.dct false v' kvs']) := by
  have e := eqS oz ok_some (h0 ++ [.dct false v kvs])
  by_cases q : z = "some"
  · rw [decide_eq_true q] at e
    obtain ⟨kvs', v', g', i1, i2⟩ := words_in W (some (.str z)) (some (.tup (k :: ts))) h0 ⟨ts, none⟩ rfl ts S kvs v g ok hl ks
    refine ⟨kvs', v', g', ?_, ?_⟩
    · rw [wordsW_eq, if_pos q]
      exact i1
    · simp [wantB, e, cutT1, i2]
  · rw [decide_eq_false q] at e
    refine ⟨kvs, v, g, ?_, by simp [wantB, e]⟩
    rw [wordsW_eq, if_neg q, List.append_nil]
    exact ks
theorem words_out (W : Option Dat) (h0 : Hm) (src : Src) (hs : src.lk = none) : ∀ (ws S : List Dat) (kvs : List (Dat × Dat)) (v : Nat) (a b g : Option Dat), (∀ w ∈ ws, Okn 2 w ∧ isWant w = true) → S.length + 4 * ws.length < 1000 → KS kvs S →
    ∃ kvs' v' a' b' g', KS kvs' (S ++ wordsOf ws) ∧ forL src (bTup [2, 3]) wantB ws [W, some (.ref h0.length), a, b, g] (h0 ++ [.dct false v kvs]) = .val (.nx [W, some (.ref h0.length), a', b', g']) (h0 ++ [.dct false v' kvs'])
  | [], S, kvs, v, a, b, g, _, _, k => ⟨kvs, v, a, b, g, by simpa [wordsOf] using k, by
    show (mGuard src >>= fun _ => pure (Fl.nx _)) _ = _
    rw [mo_bind, guard_none hs, rb_val]
    rfl⟩
  | w :: ws, S, kvs, v, a, b, g, ok, hl, k => by
    have hl : S.length + 4 * (ws.length + 1) < 1000 := hl
    obtain ⟨o2, iw⟩ := ok w (by simp)
    obtain ⟨z, k0, ts, rfl, _, l4, _⟩ := want_shape iw
    have oz : OkS z := o2 (.str z) (by simp)
    have op : Okn 1 (.tup (k0 :: ts)) := o2 (.tup (k0 :: ts)) (by simp)
    have ot : ∀ t ∈ ts, Ok t := fun t ht => okn_ok (op t (List.mem_cons_of_mem _ ht))
    obtain ⟨kvs1, v1, g1, k1, s1⟩ := want_step W g h0 (k := k0) (okS_str oz) ot S kvs v (by omega) k
    have lw : (wordsW (.tup [.str z, .tup (k0 :: ts)])).length ≤ 4 := by
      rw [wordsW_eq]
      split
      · exact Nat.le_trans (List.length_filter_le _ _) l4
      · exact Nat.zero_le _
    obtain ⟨kvs', v', a', b', g', i1, i2⟩ := words_out W h0 src hs ws _ kvs1 v1 (some (.str z)) (some (.tup (k0 :: ts))) g1 (fun x hx => ok x (List.mem_cons_of_mem _ hx)) (by rw [List.length_append]; omega) k1
    refine ⟨kvs', v', a', b', g', ?_, ?_⟩
    · have : wordsOf (.tup [.str z, .tup (k0 :: ts)] :: ws) = wordsW (.tup [.str z, .tup (k0 :: ts)]) ++ wordsOf ws := rfl
      rw [this, ← List.append_assoc]
      exact i1
    · show (mGuard src >>= fun _ => optM (bTup [2, 3] (.tup [.str z, .tup (k0 :: ts)]) [W, some (.ref h0.length), a, b, g]) >>= fun ρ' => wantB ρ' >>= _) _ = _
      rw [mo_bind, guard_none hs, rb_val]
      show (wantB [W, some (.ref h0.length), some (.str z), some (.tup (k0 :: ts)), g] >>= _) _ = _
      rw [mo_bind, s1]
      exact i2
/-- lists or tuples of data -/
def seqD : Dat → Option (List Dat)
  | .tup xs => some xs
  | .lst xs => some xs
  | _ => none
theorem seqD_src {W : Dat} {ws : List Dat} (e : seqD W = some ws) (h : Hm) : srcD W h = .val ⟨ws, none⟩ h ∧ SD W ws h := by
  cases W with
  | tup xs => cases e; exact ⟨rfl, tup_sd⟩
  | lst xs => cases e; exact ⟨rfl, lst_sd⟩
  | _ => cases e
theorem eq_words_of {W : Dat} {ws : List Dat} (e : seqD W = some ws) (ok : ∀ w ∈ ws, Okn 2 w ∧ isWant w = true) (hl : ws.length ≤ 4) (h : Hm) :
    ∃ kvs, KS kvs (wordsOf ws) ∧ f_words_ofc [W] h = .val (.dct false (kvs.map (·.1)) (kvs.map (·.2))) h := by
  obtain ⟨kvs, v, a, b, g, i1, i2⟩ := words_out (some W) h ⟨ws, none⟩ rfl ws [] [] 0 none none none ok (by show 0 + 4 * ws.length < 1000; omega) ⟨(fun _ hp => nomatch hp), (fun t => by simp [lookD]), Nat.le_refl _⟩
  refine ⟨kvs, by simpa using i1, ?_⟩
  obtain ⟨sc, _⟩ := seqD_src e (h ++ [.dct false 0 []])
  have s1 : mSet 1 mNewD [some W, none, none, none, none] h = .val (.nx [some W, some (.ref h.length), none, none, none]) (h ++ [.dct false 0 []]) := by simp [mNewD]
  have s2 : mFor (mSrc (mVar 0)) (bTup [2, 3]) wantB [some W, some (.ref h.length), none, none, none] (h ++ [.dct false 0 []]) = .val (.nx [some W, some (.ref h.length), a, b, g]) (h ++ [.dct false v kvs]) := by
    have sm : mSrc (mVar 0) [some W, some (.ref h.length), none, none, none] (h ++ [.dct false 0 []]) = .val ⟨ws, none⟩ (h ++ [.dct false 0 []]) := by
      show (mVar 0 [some W, some (.ref h.length), none, none, none] >>= srcD) _ = _
      rw [mo_bind]
      exact sc
    rw [for_eq sm]
    exact i2
  have em : m_words_of = mSeq (mSet 1 mNewD) (mSeq (mFor (mSrc (mVar 0)) (bTup [2, 3]) wantB) (mRet (mVar 1))) := rfl
  have r : f_words_of [W] h = .val (.ref h.length) (h ++ [.dct false v kvs]) := by
    refine run_rt ?_
    rw [em]
    exact mseq_step s1 (mseq_step s2 rfl)
  exact close_dct (n := h.length) (m := 1) r (Nat.le_refl _) (at_end _ _) (fun x hx => by
    obtain ⟨⟨z, e1⟩, e2⟩ := i1.1 x hx
    rw [e1, e2]
    exact ⟨trivial, trivial⟩) (by decide)
end PG
end

section
set_option Elab.async false
set_option linter.all false
set_option maxRecDepth 100000
set_option maxHeartbeats 4000000
/-! PGR3: deeds, wants, rules. -/
namespace PG
open PySem Mir L2 Cm
def isSomeW : Dat → Bool
  | .tup (.str z :: _) => decide (z = "some")
  | _ => false
def takeOk (ws : List Dat) : Dat → Bool
  | .int i => decide (0 ≤ i ∧ i < (ws.length : Int)) && (match ws[i.toNat]? with
    | some w => isSomeW w
    | none => false)
  | _ => false
theorem takeOk_no {ws : List Dat} {i : Int} (h : ¬ (0 ≤ i ∧ i < (ws.length : Int))) : takeOk ws (.int i) = false := by
  show (decide (0 ≤ i ∧ i < (ws.length : Int)) && _) = false
  rw [decide_eq_false h, Bool.false_and]
def putOk (ws : List Dat) : Dat → Bool
  | .tup (_ :: ts) => (ts.filter isWord).all fun t => decide (t ∈ wordsOf ws)
  | _ => false
def isDeed (ws : List Dat) : Dat → Bool
  | .tup [.str z, x] => if z = "take" then takeOk ws x else decide (z = "put") && (isPattern x && putOk ws x)
  | _ => false
theorem isDeed_eq (ws : List Dat) (z : Str) (x : Dat) : isDeed ws (.tup [.str z, x]) = if z = "take" then takeOk ws x else decide (z = "put") && (isPattern x && putOk ws x) := rfl
theorem at_nat {α : Type} {xs : List α} {i : Int} {x : α} (h0 : 0 ≤ i) (e : xs[i.toNat]? = some x) : atI xs i = some x := by
  unfold atI ixN
  have := (List.getElem?_eq_some_iff.mp e).1
  rw [if_pos h0, if_pos (by omega)]
  exact e
theorem zip_maps (kvs : List (Dat × Dat)) : List.zip (kvs.map (·.1)) (kvs.map (·.2)) = kvs := by
  induction kvs with
  | nil => rfl
  | cons p kvs ih => rw [List.map_cons, List.map_cons, List.zip_cons_cons, ih]
theorem pat_shape {p : Dat} (q : isPattern p = true) : ∃ k ts, p = .tup (k :: ts) ∧ ts.length ≤ 4 ∧ isName k = true ∧ ∀ t ∈ ts, (isValue t || isWord t) = true := by
  unfold isPattern at q
  split at q
  · rename_i k ts
    rw [Bool.and_eq_true, Bool.and_eq_true] at q
    exact ⟨k, ts, rfl, of_decide_eq_true q.1.1, q.1.2, List.all_eq_true.mp q.2⟩
  · cases q
theorem all_filter (ts : List Dat) (p : Dat → Bool) (h : Hm) : allD (.lst (ts.filterMap fun t => if isWord t = true then some (Dat.bl (p t)) else none)) h = .val (.bl ((ts.filter isWord).all p)) h := by
  have e : (ts.filterMap fun t => if isWord t = true then some (Dat.bl (p t)) else none) = (ts.filter isWord).map fun t => .bl (p t) := by
    induction ts with
    | nil => rfl
    | cons t ts ih =>
      rw [List.filterMap_cons, List.filter_cons]
      cases q : isWord t
      · simpa using ih
      · simpa using ih
  rw [e]
  exact all_bls _ _ _
theorem eq_is_deed {d W : Dat} {ws : List Dat} (o : Okn 2 d) (e : seqD W = some ws) (ok : ∀ w ∈ ws, Okn 2 w ∧ isWant w = true) (hl : ws.length ≤ 4) (h : Hm) : f_is_deed [d, W] h = .val (.bl (isDeed ws d)) h := by
  have pd := okn_pl o
  cases d with
  | tup xs =>
    match xs, o with
    | [], o =>
      have n2 : cNeD (.int 0) (.int 2) h = .val true h := neI 0 2 h
      simp [f_is_deed, m_is_deed, isDeed, n2]
    | [a], o =>
      have n2 : cNeD (.int 1) (.int 2) h = .val true h := neI 1 2 h
      simp [f_is_deed, m_is_deed, isDeed, n2]
    | a :: b :: c :: r, o =>
      have n2 : cNeD (.int ((r.length : Int) + 1 + 1 + 1)) (.int 2) h = .val true h := by
        have : ¬ ((r.length : Int) + 1 + 1 + 1 = 2) := by omega
        rw [neI, decide_eq_false this]
        rfl
      have w : isDeed ws (.tup (a :: b :: c :: r)) = false := by
        cases a <;> rfl
      simp [f_is_deed, m_is_deed, n2, w]
    | [a, b], o =>
      have n2 : cNeD (.int 2) (.int 2) h = .val false h := neI 2 2 h
      have oa : Okn 1 a := o a (by simp)
      have ob : Okn 1 b := o b (by simp)
      have ix0 : ixSq (.tup [a, b]) (.int 0) h = .val a h := sd_ix tup_sd (at0 _ _)
      have ix1 : ixSq (.tup [a, b]) (.int 1) h = .val b h := sd_ix tup_sd (at1 _ _ _)
      have ln : lenD (.tup [a, b]) h = .val (.int 2) h := rfl
      cases a with
      | str z =>
        have et := eqS (okS_str oa) ok_take h
        have ep := neS (okS_str oa) ok_put h
        rw [isDeed_eq]
        by_cases zt : z = "take"
        · rw [decide_eq_true zt] at et
          rw [if_pos zt]
          have ew := eq_is_whole (okn_ok ob) h
          have lw := sd_len (seqD_src e h).2
          cases b with
          | int i =>
            have ew : f_is_whole [.int i] h = .val (.bl true) h := ew
            by_cases c1 : 0 ≤ i
            · by_cases c2 : i < (ws.length : Int)
              · obtain ⟨w, hw⟩ : ∃ w, ws[i.toNat]? = some w := ⟨_, List.getElem?_eq_getElem (by omega)⟩
                have mw := List.mem_of_getElem? hw
                obtain ⟨s, k, ts, rfl, _, _, _⟩ := want_shape (ok w mw).2
                have os : OkS s := (ok _ mw).1 (.str s) (by simp)
                have ix2 := sd_ix (seqD_src e h).2 (at_nat c1 hw)
                have ix3 : ixSq (.tup [.str s, .tup (k :: ts)]) (.int 0) h = .val (.str s) h := sd_ix tup_sd (at0 _ _)
                have es := eqS (okS_str os) ok_some h
                have tk : takeOk ws (.int i) = decide (s = "some") := by
                  unfold takeOk
                  simp only [hw]
                  rw [decide_eq_true ⟨c1, c2⟩, Bool.true_and]
                  rfl
                rw [tk]
                simp [-ixSq, -lenD, f_is_deed, m_is_deed, n2, ln, ix0, ix1, et, ew, c1, lw, c2, ix2, ix3, es]
              · have tk : takeOk ws (.int i) = false := takeOk_no fun z => c2 z.2
                rw [tk]
                simp [-ixSq, -lenD, f_is_deed, m_is_deed, n2, ln, ix0, ix1, et, ew, c1, lw, c2]
            · have tk : takeOk ws (.int i) = false := takeOk_no fun z => c1 z.1
              rw [tk]
              simp [-ixSq, -lenD, f_is_deed, m_is_deed, n2, ln, ix0, ix1, et, ew, c1, lw]
          | ref _ => exact ob.elim
          | exn _ => exact ob.elim
          | _ =>
            have ew : f_is_whole _ h = .val (.bl false) h := ew
            simp [-ixSq, -lenD, f_is_deed, m_is_deed, n2, ln, ix0, ix1, et, ew, takeOk]
        · rw [decide_eq_false zt] at et
          rw [if_neg zt]
          by_cases zp : z = "put"
          · rw [decide_eq_true zp] at ep
            have ep : cNeD (.str z) (.str (Str.ofString "put")) h = .val false h := ep
            rw [decide_eq_true zp, Bool.true_and]
            have pb := eq_is_pattern (okn_okT ob) h
            cases qp : isPattern b
            · rw [qp] at pb
              simp [-ixSq, f_is_deed, m_is_deed, n2, ix0, ix1, et, ep, pb]
            · rw [qp] at pb
              rw [Bool.true_and]
              obtain ⟨k, ts, rfl, _, _, _⟩ := pat_shape qp
              obtain ⟨kvs, ks, ew⟩ := eq_words_of e ok hl h
              have lc := lc_mapG (src := ⟨ts, none⟩) (bd := bName 3) (c := mTest (mCall f_is_word (mCons (mVar 3) (mNil)))) (e := mCmp cInD (mVar 3) (mVar 2)) (ρ0 := [some (.tup [.str z, .tup (k :: ts)]), some W, some (.dct false (kvs.map (·.1)) (kvs.map (·.2))), none]) (h := h) rfl (fun t => if isWord t = true then some (.bl (decide (t ∈ wordsOf ws))) else none) ts [] fun t ht => ⟨_, rfl, by
                have ot : Ok t := okn_ok (ob t (List.mem_cons_of_mem _ ht))
                have w := eq_is_word ot h
                cases q : isWord t
                · rw [q] at w
                  exact .inl ⟨by simp, by simp [w]⟩
                · rw [q] at w
                  obtain ⟨y, rfl⟩ := isWord_str q
                  refine .inr ⟨_, by rw [if_pos rfl], by simp [w], ?_⟩
                  have d1 : dictOf (.dct false (kvs.map (·.1)) (kvs.map (·.2))) h = .val kvs h := by
                    show Res.val (List.zip (kvs.map (·.1)) (kvs.map (·.2))) h = _
                    rw [zip_maps]
                  have d2 : keyM (.str y) h = .val (.str y) h := rfl
                  have d3 : (lookD kvs (.str y)).isSome = decide (Dat.str y ∈ wordsOf ws) := by
                    have q := ks.2.1 (.str y)
                    by_cases m : Dat.str y ∈ wordsOf ws
                    · obtain ⟨x, hx⟩ := q.mpr m
                      rw [hx, decide_eq_true m]; rfl
                    · rw [decide_eq_false m]
                      cases z : lookD kvs (.str y) with
                      | none => rfl
                      | some x => exact absurd (q.mp ⟨x, z⟩) m
                  simp [cInD, d1, d2, d3]⟩
              have al := all_filter ts (fun t => decide (t ∈ wordsOf ws)) h
              have po : putOk ws (.tup (k :: ts)) = (ts.filter isWord).all fun t => decide (t ∈ wordsOf ws) := rfl
              rw [po]
              rw [List.nil_append] at lc
              simp [-ixSq, f_is_deed, m_is_deed, n2, ix0, ix1, et, ep, pb, ew, cutT1, lc, al]
          · have zp' := decide_eq_false zp
            rw [zp'] at ep
            have ep : cNeD (.str z) (.str (Str.ofString "put")) h = .val true h := ep
            rw [zp', Bool.false_and]
            simp [-ixSq, f_is_deed, m_is_deed, n2, ix0, ix1, et, ep]
      | ref _ => exact oa.elim
      | exn _ => exact oa.elim
      | _ => simp [-ixSq, f_is_deed, m_is_deed, isDeed, n2, ix0]
  | ref _ => exact o.elim
  | exn _ => exact o.elim
  | _ => simp [f_is_deed, m_is_deed, isDeed]
end PG
end

section
set_option Elab.async false
set_option linter.all false
set_option maxRecDepth 100000
set_option maxHeartbeats 4000000
/-! PGR4: rules. -/
namespace PG
open PySem Mir L2 Cm
def headSome : List Dat → Bool
  | w :: _ => isSomeW w
  | [] => false
def areWants (W : Dat) : Bool := match seqD W with
  | some ws => decide (1 ≤ ws.length ∧ ws.length ≤ 4) && (ws.all isWant && headSome ws)
  | none => false
theorem areWants_eq {W : Dat} {ws : List Dat} (e : seqD W = some ws) : areWants W = (decide (1 ≤ ws.length ∧ ws.length ≤ 4) && (ws.all isWant && headSome ws)) := by
  unfold areWants
  rw [e]
theorem seqD_ok {n : Nat} {W : Dat} {ws : List Dat} (e : seqD W = some ws) (o : Okn (n + 1) W) : ∀ w ∈ ws, Okn n w := by
  cases W with
  | tup xs => cases e; exact o
  | lst xs => cases e; exact o
  | _ => cases e
theorem eq_are_wants {W : Dat} (o : Okn 3 W) (h : Hm) : f_are_wants [W] h = .val (.bl (areWants W)) h := by
  have i2 := isD2_pl (okn_pl o) "list" "tuple" h
  cases q : seqD W with
  | none =>
    have a : areWants W = false := by unfold areWants; rw [q]
    rw [a]
    cases W with
    | tup _ => cases q
    | lst _ => cases q
    | ref _ => exact o.elim
    | exn _ => exact o.elim
    | _ => simp [f_are_wants, m_are_wants]
  | some ws =>
    rw [areWants_eq q]
    obtain ⟨sc, sd⟩ := seqD_src q h
    have ow := seqD_ok q o
    have ln := sd_len sd
    have i2' : isD2 "list" "tuple" W h = .val (.bl true) h := by
      rw [i2]
      cases W with
      | tup _ => rfl
      | lst _ => rfl
      | _ => cases q
    by_cases c1 : 1 ≤ ws.length
    · have d1 : (1 : Int) ≤ (ws.length : Int) := by omega
      by_cases c2 : ws.length ≤ 4
      · have d2 : (ws.length : Int) ≤ 4 := by omega
        rw [decide_eq_true ⟨c1, c2⟩, Bool.true_and]
        have lc := lc_allG (src := ⟨ws, none⟩) (bd := bName 1) (e := mCall f_is_want (mCons (mVar 1) (mNil))) (ρ0 := [some W, none]) (h := h) rfl (fun w => .bl (isWant w)) ws fun w hw => ⟨_, rfl, by
          have e := eq_is_want (ow w hw) h
          simp [e]⟩
        have al := all_bls ws isWant h
        cases qa : ws.all isWant
        · rw [qa] at al
          simp [-isD2, -lenD, -srcD, -ixSq, f_are_wants, m_are_wants, i2', ln, d1, d2, sc, lc, al]
        · rw [qa] at al
          obtain ⟨w, hw⟩ : ∃ w, ws[0]? = some w := ⟨_, List.getElem?_eq_getElem (by omega)⟩
          have mw := List.mem_of_getElem? hw
          have ww := List.all_eq_true.mp qa w mw
          obtain ⟨s, k, ts, ew, _, _, _⟩ := want_shape ww
          have ow2 := ow w mw
          rw [ew] at ow2
          have os : OkS s := ow2 (.str s) (by simp)
          have ix2 := sd_ix sd (at_nat (i := 0) (by decide) hw)
          have ix3 : ixSq w (.int 0) h = .val (.str s) h := by rw [ew]; exact sd_ix tup_sd (at0 _ _)
          have es := eqS (okS_str os) ok_some h
          have hs : headSome ws = decide (s = "some") := by
            cases ws with
            | nil => cases hw
            | cons w0 r =>
              have : w0 = w := by simpa using hw
              rw [this, ew]
              rfl
          rw [hs, Bool.true_and]
          simp [-isD2, -lenD, -srcD, -ixSq, f_are_wants, m_are_wants, i2', ln, d1, d2, sc, lc, al, ix2, ix3, es]
      · have d2 : ¬ (ws.length : Int) ≤ 4 := by omega
        rw [decide_eq_false (fun z => c2 z.2), Bool.false_and]
        simp [-isD2, -lenD, f_are_wants, m_are_wants, i2', ln, d1, d2]
    · have d1 : ¬ (1 : Int) ≤ (ws.length : Int) := by omega
      rw [decide_eq_false (fun z => c1 z.1), Bool.false_and]
      simp [-isD2, -lenD, f_are_wants, m_are_wants, i2', ln, d1]
def deedsOk (W D : Dat) : Bool := match seqD W, seqD D with
  | some ws, some ds => decide (ds.length ≤ 4) && ds.all (isDeed ws)
  | _, _ => false
def isRule : Dat → Bool
  | .tup [n, W, D] => isName n && (areWants W && deedsOk W D)
  | _ => false
theorem areWants_seq {W : Dat} (q : areWants W = true) : ∃ ws, seqD W = some ws ∧ 1 ≤ ws.length ∧ ws.length ≤ 4 ∧ (∀ w ∈ ws, isWant w = true) ∧ headSome ws = true := by
  unfold areWants at q
  cases e : seqD W with
  | none => rw [e] at q; cases q
  | some ws =>
    rw [e] at q
    simp only at q
    rw [Bool.and_eq_true, Bool.and_eq_true] at q
    have d := of_decide_eq_true q.1
    exact ⟨ws, rfl, d.1, d.2, List.all_eq_true.mp q.2.1, q.2.2⟩
theorem eq_is_rule {d : Dat} (o : Okn 4 d) (h : Hm) : f_is_rule [d] h = .val (.bl (isRule d)) h := by
  have pd := okn_pl o
  cases d with
  | tup xs =>
    match xs, o with
    | [], o =>
      have n2 : cNeD (.int 0) (.int 3) h = .val true h := neI 0 3 h
      simp [f_is_rule, m_is_rule, isRule, n2]
    | [a], o =>
      have n2 : cNeD (.int 1) (.int 3) h = .val true h := neI 1 3 h
      simp [f_is_rule, m_is_rule, isRule, n2]
    | [a, b], o =>
      have n2 : cNeD (.int 2) (.int 3) h = .val true h := neI 2 3 h
      simp [f_is_rule, m_is_rule, isRule, n2]
    | a :: b :: c :: e :: r, o =>
      have n2 : cNeD (.int ((r.length : Int) + 1 + 1 + 1 + 1)) (.int 3) h = .val true h := by
        have : ¬ ((r.length : Int) + 1 + 1 + 1 + 1 = 3) := by omega
        rw [neI, decide_eq_false this]
        rfl
      have w : isRule (.tup (a :: b :: c :: e :: r)) = false := rfl
      simp [f_is_rule, m_is_rule, n2, w]
    | [n, W, D], o =>
      have n2 : cNeD (.int 3) (.int 3) h = .val false h := neI 3 3 h
      have on : Okn 3 n := o n (by simp)
      have oW : Okn 3 W := o W (by simp)
      have oD : Okn 3 D := o D (by simp)
      have ix0 : ixSq (.tup [n, W, D]) (.int 0) h = .val n h := sd_ix tup_sd (at0 _ _)
      have ix1 : ixSq (.tup [n, W, D]) (.int 1) h = .val W h := sd_ix tup_sd (at1 _ _ _)
      have ix2 : ixSq (.tup [n, W, D]) (.int 2) h = .val D h := sd_ix tup_sd rfl
      have ln : lenD (.tup [n, W, D]) h = .val (.int 3) h := rfl
      have en := eq_is_name (okn_ok on) h
      have ew := eq_are_wants oW h
      have er : isRule (.tup [n, W, D]) = (isName n && (areWants W && deedsOk W D)) := rfl
      rw [er]
      cases qn : isName n
      · rw [qn] at en
        simp [-ixSq, -lenD, f_is_rule, m_is_rule, n2, ln, ix0, en]
      · rw [qn] at en
        cases qw : areWants W
        · rw [qw] at ew
          simp [-ixSq, -lenD, f_is_rule, m_is_rule, n2, ln, ix0, ix1, en, ew]
        · rw [qw] at ew
          obtain ⟨ws, e1, l1, l4, aw, _⟩ := areWants_seq qw
          have i2 := isD2_pl (okn_pl oD) "list" "tuple" h
          cases e2 : seqD D with
          | none =>
            have dk : deedsOk W D = false := by unfold deedsOk; rw [e1, e2]
            have i2' : isD2 "list" "tuple" D h = .val (.bl false) h := by
              rw [i2]
              cases D with
              | tup _ => cases e2
              | lst _ => cases e2
              | _ => rfl
            rw [dk]
            simp [-ixSq, -lenD, -isD2, f_is_rule, m_is_rule, n2, ln, ix0, ix1, ix2, en, ew, i2']
          | some ds =>
            have dk : deedsOk W D = (decide (ds.length ≤ 4) && ds.all (isDeed ws)) := by unfold deedsOk; rw [e1, e2]
            have i2' : isD2 "list" "tuple" D h = .val (.bl true) h := by
              rw [i2]
              cases D with
              | tup _ => rfl
              | lst _ => rfl
              | _ => cases e2
            obtain ⟨sc, sd⟩ := seqD_src e2 h
            have lD := sd_len sd
            have od := seqD_ok e2 oD
            have ow := seqD_ok e1 oW
            rw [dk]
            by_cases c : ds.length ≤ 4
            · have c' : ¬ (4 : Int) < (ds.length : Int) := by omega
              rw [decide_eq_true c]
              have lc := lc_allG (src := ⟨ds, none⟩) (bd := bName 1) (e := mCall f_is_deed (mCons (mVar 1) (mCons (mIx (mVar 0) (mC (.int 1))) (mNil)))) (ρ0 := [some (.tup [n, W, D]), none]) (h := h) rfl (fun w => .bl (isDeed ws w)) ds fun w hw => ⟨_, rfl, by
                have e := eq_is_deed (W := W) (od w hw) e1 (fun x hx => ⟨ow x hx, aw x hx⟩) l4 h
                simp [-ixSq, ix1, e]⟩
              have al := all_bls ds (isDeed ws) h
              simp [-ixSq, -lenD, -isD2, -srcD, f_is_rule, m_is_rule, n2, ln, ix0, ix1, ix2, en, ew, i2', lD, c', sc, lc, al]
            · have c' : (4 : Int) < (ds.length : Int) := by omega
              rw [decide_eq_false c]
              simp [-ixSq, -lenD, -isD2, f_is_rule, m_is_rule, n2, ln, ix0, ix1, ix2, en, ew, i2', lD, c']
  | ref _ => exact o.elim
  | exn _ => exact o.elim
  | _ => simp [f_is_rule, m_is_rule, isRule]
end PG
end

section
set_option Elab.async false
set_option linter.all false
set_option maxRecDepth 100000
set_option maxHeartbeats 4000000
/-! PGR5: need_rules. -/
namespace PG
open PySem Mir L2 Cm
abbrev Rul := Str × List Dat × List Dat
def ruleD (r : Rul) : Dat := .tup [.str r.1, .tup r.2.1, .tup r.2.2]
def ruleT (r : Dat) : Option Rul := match r with
  | .tup [.str n, W, D] => if isRule r = true then (match seqD W, seqD D with
    | some ws, some ds => some (n, ws, ds)
    | _, _ => none) else none
  | _ => none
def needR : List Dat → List Rul → Option (List Rul)
  | [], f => some f
  | r :: rs, f => if f.length = 10 then none else match ruleT r with
    | some t => if t.1 ∈ f.map (·.1) then none else needR rs (f ++ [t])
    | none => none
theorem rule_shape {r : Dat} (q : isRule r = true) : ∃ n W D ws ds, r = .tup [.str n, W, D] ∧ ruleT r = some (n, ws, ds) ∧ seqD W = some ws ∧ seqD D = some ds ∧ isNameS n = true ∧ areWants W = true ∧ (∀ w ∈ ws, isWant w = true) ∧ (∀ d ∈ ds, isDeed ws d = true) ∧ ds.length ≤ 4 ∧ ws.length ≤ 4 := by
  have q0 := q
  unfold isRule at q
  split at q
  · rename_i n W D
    rw [Bool.and_eq_true, Bool.and_eq_true] at q
    obtain ⟨q1, q2, q3⟩ := q
    cases n with
    | str n =>
      obtain ⟨ws, e1, _, l4, aw, _⟩ := areWants_seq q2
      unfold deedsOk at q3
      cases e2 : seqD D with
      | none => rw [e1, e2] at q3; cases q3
      | some ds =>
        rw [e1, e2] at q3
        simp only at q3
        rw [Bool.and_eq_true] at q3
        refine ⟨n, W, D, ws, ds, rfl, ?_, e1, e2, q1, q2, aw, List.all_eq_true.mp q3.2, of_decide_eq_true q3.1, l4⟩
        unfold ruleT
        simp only
        rw [if_pos q0, e1, e2]
    | _ => cases q1
  · cases q
theorem ruleT_none {r : Dat} (q : isRule r = false) : ruleT r = none := by
  unfold ruleT
  split
  · rw [if_neg (by rw [q]; exact Bool.false_ne_true)]
  · rfl
theorem in_strs {z : Str} {zs : List Str} (oz : PyData.strOk z = true) (os : ∀ y ∈ zs, PyData.strOk y = true) (h : Hm) : cIn (.str z) (.lst (zs.map Dat.str)) h = .val (decide (z ∈ zs)) h := by
  have p1 := pyOf_val (py_str oz h 29)
  have p2 : pysM (zs.map Dat.str) h = .val (zs.map PyData.str) h := pysM_val (by
    induction zs with
    | nil => rfl
    | cons y zs ih =>
      have e1 := py_str (os y (by simp)) h 29
      have e2 := ih fun x hx => os x (List.mem_cons_of_mem _ hx)
      simp [e1, e2])
  have sq : Mir.seqOf (.lst (zs.map Dat.str)) h = .val (zs.map Dat.str) h := rfl
  have e : ((zs.map PyData.str).any fun e => PyData.eqv e (.str z)) = decide (z ∈ zs) := by
    rw [List.any_map]
    by_cases m : z ∈ zs
    · rw [decide_eq_true m]
      exact List.any_eq_true.mpr ⟨z, m, by simp [eqv_str]⟩
    · rw [decide_eq_false m]
      exact List.any_eq_false.mpr fun y hy => by
        have : ¬ y = z := fun q => m (q ▸ hy)
        simp [eqv_str, this]
  simp only [cIn, memD, mo_bind, sq, rb_val, p1, p2, mo_pure, e]
def nB1 : Ms := (mIfS (mOrT (mCmpT cEqD (mUn lenD (mVar 1)) (mC (.int 10))) (mOrT (mNotT (mTest (mCall f_is_rule (mCons (mVar 2) (mNil))))) (mCmpT cIn (mIx (mVar 2) (mC (.int 0))) (mFz (mLc (mSrc (mVar 1)) [3] (bName 3) mYes (mIx (mVar 3) (mC (.int 0)))))))) (mRaise "BadRule") (mNext))
def nB2 : Ms := (mDrop (mLm lAppend (mVar 1) (mTup (mCons (mIx (mVar 2) (mC (.int 0))) (mCons (mUn tupD (mIx (mVar 2) (mC (.int 1)))) (mCons (mUn tupD (mIx (mVar 2) (mC (.int 2)))) (mNil)))))))
theorem name_ok {z : Str} (q : isNameS z = true) : PyData.strOk z = true := by
  unfold isNameS at q
  rw [Bool.and_eq_true] at q
  unfold PyData.strOk
  rw [Array.all_eq_true']
  intro c hc
  have := List.all_eq_true.mp q.2 c (by simpa using hc)
  have m : c ∈ smallS.cps.toList := of_decide_eq_true this
  exact decide_eq_true (small_lt m)
/-- one rule -/
theorem need_step (R g : Option Dat) (h0 : Hm) {r : Dat} (o : Okn 4 r) (fs : List Rul) (on : ∀ f ∈ fs, isNameS f.1 = true) (lf : fs.length ≤ 10) :
    (fs.length = 10 ∧ nB1 [R, some (.ref h0.length), some r, g] (h0 ++ [.lst (fs.map ruleD)]) = .exc "BadRule" (h0 ++ [.lst (fs.map ruleD)])) ∨
    (fs.length ≠ 10 ∧ ruleT r = none ∧ nB1 [R, some (.ref h0.length), some r, g] (h0 ++ [.lst (fs.map ruleD)]) = .exc "BadRule" (h0 ++ [.lst (fs.map ruleD)])) ∨
    (fs.length ≠ 10 ∧ ∃ t, ruleT r = some t ∧ isNameS t.1 = true ∧ ((t.1 ∈ fs.map (·.1) ∧ nB1 [R, some (.ref h0.length), some r, g] (h0 ++ [.lst (fs.map ruleD)]) = .exc "BadRule" (h0 ++ [.lst (fs.map ruleD)])) ∨
      (t.1 ∉ fs.map (·.1) ∧ mSeq nB1 nB2 [R, some (.ref h0.length), some r, g] (h0 ++ [.lst (fs.map ruleD)]) = .val (.nx [R, some (.ref h0.length), some r, g]) (h0 ++ [.lst ((fs ++ [t]).map ruleD)])))) := by
  have ln : lenD (.ref h0.length) (h0 ++ [.lst (fs.map ruleD)]) = .val (.int (fs.length : Int)) (h0 ++ [.lst (fs.map ruleD)]) := by
    have := sd_len (T := .ref h0.length) (.inr (.inr ⟨_, rfl, at_end h0 (.lst (fs.map ruleD))⟩))
    rw [List.length_map] at this
    exact this
  have e10 := eqJ (fs.length : Int) 10 (h0 ++ [.lst (fs.map ruleD)])
  by_cases c : fs.length = 10
  · have c' : ((fs.length : Int) = 10) := by omega
    rw [decide_eq_true c'] at e10
    exact .inl ⟨c, by simp [-lenD, nB1, ln, e10]⟩
  · have c' : ¬ ((fs.length : Int) = 10) := by omega
    rw [decide_eq_false c'] at e10
    have er := eq_is_rule o (h0 ++ [.lst (fs.map ruleD)])
    cases qr : isRule r
    · rw [qr] at er
      exact .inr (.inl ⟨c, ruleT_none qr, by simp [-lenD, nB1, ln, e10, er]⟩)
    · rw [qr] at er
      obtain ⟨n, W, D, ws, ds, e1, e2, e3, e4, e5, _⟩ := rule_shape qr
      subst e1
      have ix0 : ∀ h, ixSq (.tup [.str n, W, D]) (.int 0) h = .val (.str n) h := fun h => sd_ix tup_sd (at0 _ _)
      have ix1 : ∀ h, ixSq (.tup [.str n, W, D]) (.int 1) h = .val W h := fun h => sd_ix tup_sd (at1 _ _ _)
      have ix2 : ∀ h, ixSq (.tup [.str n, W, D]) (.int 2) h = .val D h := fun h => sd_ix tup_sd rfl
      have sc : srcD (.ref h0.length) (h0 ++ [.lst (fs.map ruleD)]) = .val ⟨fs.map ruleD, some (h0.length, .lst (fs.map ruleD))⟩ (h0 ++ [.lst (fs.map ruleD)]) := by
        show (Mir.cellOf h0.length >>= fun c => srcC h0.length c) _ = _
        rw [mo_bind, Mir.cellOf_val (at_end _ _) (by simp), rb_val]
        rfl
      have lc := lc_allG (src := ⟨fs.map ruleD, some (h0.length, .lst (fs.map ruleD))⟩) (bd := bName 3) (e := mIx (mVar 3) (mC (.int 0))) (ρ0 := [R, some (.ref h0.length), some (.tup [.str n, W, D]), none]) (h := h0 ++ [.lst (fs.map ruleD)])
        (by show decide (_ = _) = true; rw [at_end]; simp) (fun x => match x with | .tup (y :: _) => y | _ => .non) (fs.map ruleD) fun d hd => ⟨_, rfl, by
          obtain ⟨f, _, rfl⟩ := List.mem_map.mp hd
          have : ∀ h, ixSq (ruleD f) (.int 0) h = .val (.str f.1) h := fun h => sd_ix tup_sd (at0 _ _)
          have em : (match ruleD f with | .tup (y :: _) => y | _ => Dat.non) = .str f.1 := rfl
          rw [em]
          simp [-ixSq, this]⟩
      have lm : (fs.map ruleD).map (fun x => match x with | .tup (y :: _) => y | _ => Dat.non) = (fs.map (·.1)).map Dat.str := by
        rw [List.map_map, List.map_map]
        rfl
      rw [lm] at lc
      have ins := in_strs (zs := fs.map (·.1)) (name_ok e5) (fun y hy => by
        obtain ⟨f, hf, rfl⟩ := List.mem_map.mp hy
        exact name_ok (on f hf)) (h0 ++ [.lst (fs.map ruleD)])
      refine .inr (.inr ⟨c, (n, ws, ds), e2, e5, ?_⟩)
      by_cases m : n ∈ fs.map (·.1)
      · rw [decide_eq_true m] at ins
        exact .inl ⟨m, by simp [-lenD, -ixSq, -srcD, -List.map_map, nB1, ln, e10, er, ix0, sc, lc, ins]⟩
      · rw [decide_eq_false m] at ins
        refine .inr ⟨m, ?_⟩
        have s1 : nB1 [R, some (.ref h0.length), some (.tup [.str n, W, D]), g] (h0 ++ [.lst (fs.map ruleD)]) = .val (.nx [R, some (.ref h0.length), some (.tup [.str n, W, D]), g]) (h0 ++ [.lst (fs.map ruleD)]) := by
          simp [-lenD, -ixSq, -srcD, -List.map_map, nB1, ln, e10, er, ix0, sc, lc, ins]
        have tW := sd_tup (seqD_src e3 (h0 ++ [.lst (fs.map ruleD)])).2
        have tD := sd_tup (seqD_src e4 (h0 ++ [.lst (fs.map ruleD)])).2
        have ap := append_at (at_end h0 (.lst (fs.map ruleD))) (by rw [List.length_map]; exact Nat.lt_of_le_of_lt lf (by decide)) (.tup [.str n, .tup ws, .tup ds])
        rw [set_end] at ap
        have lo := listOf_at (at_end h0 (.lst (fs.map ruleD)))
        have z3 : 3 ≤ sizeLine := by decide
        have s2 : nB2 [R, some (.ref h0.length), some (.tup [.str n, W, D]), g] (h0 ++ [.lst (fs.map ruleD)]) = .val (.nx [R, some (.ref h0.length), some (.tup [.str n, W, D]), g]) (h0 ++ [.lst ((fs ++ [(n, ws, ds)]).map ruleD)]) := by
          rw [List.map_append]
          simp [-ixSq, -tupD, -Mir.listOf, nB2, lo, ix0, ix1, ix2, tW, tD, z3, ap]
          rfl
        exact mseq_step s1 s2
theorem need_loop (R : Option Dat) (h0 : Hm) (src : Src) (hs : ∀ c, src.ok (h0 ++ [c]) = true) : ∀ (rs : List Dat) (fs : List Rul) (g : Option Dat) (b : Option Dat), (∀ r ∈ rs, Okn 4 r) → (∀ f ∈ fs, isNameS f.1 = true) → fs.length ≤ 10 →
    (∃ out g', needR rs fs = some out ∧ forL src (bName 2) (mSeq nB1 nB2) rs [R, some (.ref h0.length), b, g] (h0 ++ [.lst (fs.map ruleD)]) = .val (.nx [R, some (.ref h0.length), g', g]) (h0 ++ [.lst (out.map ruleD)])) ∨
    (needR rs fs = none ∧ ∃ c, forL src (bName 2) (mSeq nB1 nB2) rs [R, some (.ref h0.length), b, g] (h0 ++ [.lst (fs.map ruleD)]) = .exc "BadRule" (h0 ++ [c]))
  | [], fs, g, b, _, _, _ => .inl ⟨fs, b, rfl, by
    show (mGuard src >>= fun _ => pure (Fl.nx _)) _ = _
    rw [mo_bind, guard_ok (hs _), rb_val]
    rfl⟩
  | r :: rs, fs, g, b, ok, on, lf => by
    have run : forL src (bName 2) (mSeq nB1 nB2) (r :: rs) [R, some (.ref h0.length), b, g] (h0 ++ [.lst (fs.map ruleD)]) = ((mSeq nB1 nB2 [R, some (.ref h0.length), some r, g] (h0 ++ [.lst (fs.map ruleD)])).bind fun f => match f with
      | .nx ρ2 => forL src (bName 2) (mSeq nB1 nB2) rs ρ2
      | .ct ρ2 => forL src (bName 2) (mSeq nB1 nB2) rs ρ2
      | .bk ρ2 => pure (.nx ρ2)
      | .rt d => pure (.rt d)) := by
      show (mGuard src >>= fun _ => optM (bName 2 r [R, some (.ref h0.length), b, g]) >>= fun ρ' => mSeq nB1 nB2 ρ' >>= _) _ = _
      rw [mo_bind, guard_ok (hs _), rb_val]
      rfl
    have nd : needR (r :: rs) fs = if fs.length = 10 then none else match ruleT r with
      | some t => if t.1 ∈ fs.map (·.1) then none else needR rs (fs ++ [t])
      | none => none := rfl
    rw [run, nd]
    rcases need_step R g h0 (ok r (by simp)) fs on lf with ⟨c, e⟩ | ⟨c, er, e⟩ | ⟨c, t, er, nt, ⟨m, e⟩ | ⟨m, e⟩⟩
    · refine .inr ⟨if_pos c, .lst (fs.map ruleD), ?_⟩
      rw [mseq_exc e]
      rfl
    · refine .inr ⟨by rw [if_neg c, er], .lst (fs.map ruleD), ?_⟩
      rw [mseq_exc e]
      rfl
    · refine .inr ⟨by rw [if_neg c, er]; exact if_pos m, .lst (fs.map ruleD), ?_⟩
      rw [mseq_exc e]
      rfl
    · rw [if_neg c, er]
      simp only
      rw [if_neg m, e]
      exact need_loop R h0 src hs rs (fs ++ [t]) g (some r) (fun x hx => ok x (List.mem_cons_of_mem _ hx)) (fun f hf => by
        rcases List.mem_append.mp hf with hf | hf
        · exact on f hf
        · rw [List.mem_singleton.mp hf]; exact nt) (by rw [List.length_append]; show fs.length + 1 ≤ 10; omega)
/-! ### what comes is data without cells -/
theorem term_pur {t : Dat} (q : (isValue t || isWord t) = true) : Pur 0 t := by
  cases t with
  | str _ => trivial
  | int _ => trivial
  | _ => cases q
theorem name_pur {t : Dat} (q : isName t = true) : Pur 0 t := by
  cases t with
  | str _ => trivial
  | _ => cases q
theorem pat_pur {p : Dat} (q : isPattern p = true) : Pur 1 p := by
  obtain ⟨k, ts, rfl, _, n, a⟩ := pat_shape q
  intro x hx
  rcases List.mem_cons.mp hx with rfl | hx
  · exact name_pur n
  · exact term_pur (a x hx)
theorem pur_up : ∀ {n : Nat} {d : Dat}, Pur n d → Pur (n + 1) d
  | n, .non, _ => by cases n <;> trivial
  | n, .bl _, _ => by cases n <;> trivial
  | n, .int _, _ => by cases n <;> trivial
  | n, .str _, _ => by cases n <;> trivial
  | n, .ref _, p => by cases n <;> exact p.elim
  | n, .exn _, p => by cases n <;> exact p.elim
  | 0, .tup _, p => p.elim
  | 0, .lst _, p => p.elim
  | 0, .dct _ _ _, p => p.elim
  | n + 1, .tup xs, p => fun x hx => pur_up (p x hx)
  | n + 1, .lst xs, p => fun x hx => pur_up (p x hx)
  | n + 1, .dct _ _ _, p => ⟨fun x hx => pur_up (p.1 x hx), fun x hx => pur_up (p.2 x hx)⟩
theorem want_pur {w : Dat} (q : isWant w = true) : Pur 2 w := by
  unfold isWant at q
  split at q
  · rw [Bool.and_eq_true] at q
    intro x hx
    rcases List.mem_cons.mp hx with rfl | hx
    · trivial
    · rw [List.mem_singleton.mp hx]; exact pat_pur q.2
  · cases q
theorem deed_pur {ws : List Dat} {d : Dat} (q : isDeed ws d = true) : Pur 2 d := by
  unfold isDeed at q
  split at q
  · rename_i z x
    intro y hy
    rcases List.mem_cons.mp hy with rfl | hy
    · trivial
    · rw [List.mem_singleton.mp hy]
      by_cases e : z = "take"
      · rw [if_pos e] at q
        cases x with
        | int _ => trivial
        | _ => cases q
      · rw [if_neg e, Bool.and_eq_true, Bool.and_eq_true] at q
        exact pat_pur q.2.1
  · cases q
theorem rule_pur {r : Dat} {t : Rul} (e : ruleT r = some t) : Pur 4 (ruleD t) := by
  cases q : isRule r with
  | false => rw [ruleT_none q] at e; cases e
  | true =>
    obtain ⟨n, W, D, ws, ds, _, e2, _, _, _, _, aw, ad, _⟩ := rule_shape q
    rw [e2] at e
    cases e
    intro x hx
    simp at hx
    rcases hx with rfl | rfl | rfl
    · trivial
    · exact fun w hw => want_pur (aw w hw)
    · exact fun d hd => deed_pur (ad d hd)
theorem needR_pur : ∀ {rs : List Dat} {fs out : List Rul}, needR rs fs = some out → (∀ f ∈ fs, Pur 4 (ruleD f)) → ∀ f ∈ out, Pur 4 (ruleD f)
  | [], fs, out, e, p => by cases e; exact p
  | r :: rs, fs, out, e, p => by
    unfold needR at e
    split at e
    · cases e
    · split at e
      · rename_i t et
        split at e
        · cases e
        · exact needR_pur e fun f hf => by
            rcases List.mem_append.mp hf with hf | hf
            · exact p f hf
            · rw [List.mem_singleton.mp hf]; exact rule_pur et
      · cases e
theorem eq_need_rules {R : Dat} {rs : List Dat} {h : Hm} (l : LD R rs h) (ok : ∀ r ∈ rs, Okn 4 r) : f_need_rulesc [R] h = match needR rs [] with
    | some out => .val (.lst (out.map ruleD)) h
    | none => .exc "BadRule" h := by
  have s1 : mSet 1 (mCell (mSized mNil)) [some R, none, none, none] h = .val (.nx [some R, some (.ref h.length), none, none]) (h ++ [.lst []]) := by simp
  have l1 := sd_more (ld_sd l) [Cell.lst []]
  obtain ⟨src, sc, si, so⟩ := sd_src l1
  have hs : ∀ c, src.ok (h ++ [c]) = true := fun c => so _ fun n e => by
    have hn : n < h.length := by
      rcases l with l | ⟨m, e2, l⟩
      · rw [l] at e; cases e
      · rw [e2] at e; cases e
        exact (List.getElem?_eq_some_iff.mp l).1
    rw [List.getElem?_append_left hn, List.getElem?_append_left hn]
  have sm : mSrc (mVar 0) [some R, some (.ref h.length), none, none] (h ++ [.lst []]) = .val src (h ++ [.lst []]) := by
    show (mVar 0 [some R, some (.ref h.length), none, none] >>= srcD) _ = _
    rw [mo_bind]
    exact sc
  have em : m_need_rules = mSeq (mSet 1 (mCell (mSized mNil))) (mSeq (mFor (mSrc (mVar 0)) (bName 2) (mSeq nB1 nB2)) (mRet (mVar 1))) := rfl
  have lo := need_loop (some R) h src hs rs [] none none ok (fun _ hf => nomatch hf) (Nat.zero_le _)
  have fe := for_eq (bd := bName 2) (body := mSeq nB1 nB2) sm
  rw [si] at fe
  rcases lo with ⟨out, g', e1, e2⟩ | ⟨e1, c, e2⟩
  · rw [e1]
    have r : f_need_rules [R] h = .val (.ref h.length) (h ++ [.lst (out.map ruleD)]) := by
      refine run_rt ?_
      rw [em]
      exact mseq_step s1 (mseq_step (fe.trans e2) rfl)
    exact close_lst (m := 4) r (Nat.le_refl _) (at_end _ _) (fun x hx => by
      obtain ⟨f, hf, rfl⟩ := List.mem_map.mp hx
      exact needR_pur e1 (fun _ hf => nomatch hf) f hf) (by decide)
  · rw [e1]
    have r : f_need_rules [R] h = .exc "BadRule" (h ++ [c]) := by
      refine run_exc ?_
      rw [em]
      exact mseq_step s1 (mseq_exc (fe.trans e2))
    exact close_exc r
end PG
end

section
set_option Elab.async false
set_option linter.all false
set_option maxRecDepth 100000
namespace LA
open PySem PySem.Spec
open PyProof.Rows L2 Mir
def m__law_at : Ms := mSeq (mIfS (mCmpT cLt (mVar 1) (mUn lenD (mVar 0))) (mRet (mIx (mVar 0) (mVar 1))) (mNext)) (mRet (mC (.int 0)))
def f__law_at : List Dat → Mo Dat := runFn 2 m__law_at
def m__law_name : Ms := mSeq (mSet 2 (mC (.str "abcdefghijklmnopqrstuvwxyz"))) (mSeq (mSet 3 (mBin aAdd (mC (.int 1)) (mBin aMod (mVar 0) (mC (.int 7))))) (mSeq (mSet 4 (mBin aMod (mBin aDiv (mVar 0) (mC (.int 8))) (mBin aAdd (mVar 3) (mC (.int 1))))) (mSeq (mSet 5 (mJoin (mC (.str "")) (mFz (mLc (mSrcA rng1 (mCons (mVar 3) (mNil))) [7] (bName 7) mYes (mIx (mVar 2) (mBin aMod (mBin aAdd (mBin aDiv (mVar 0) (mC (.int 64))) (mBin aMul (mC (.int 3)) (mVar 7))) (mC (.int 26)))))))) (mSeq (mSet 6 (mIx (mVar 2) (mBin aMod (mBin aAdd (mBin aAdd (mBin aDiv (mVar 0) (mC (.int 64))) (mC (.int 1))) (mBin aMul (mC (.int 5)) (mVar 1))) (mC (.int 26))))) (mRet (mBin aAdd (mBin aAdd (mSl (mVar 5) (mPn) (mPs (mVar 4))) (mVar 6)) (mSl (mVar 5) (mPs (mVar 4)) (mPn))))))))
def f__law_name : List Dat → Mo Dat := runFn 8 m__law_name
end LA
end

section
set_option Elab.async false
set_option linter.all false
set_option maxRecDepth 100000
set_option maxHeartbeats 4000000
/-! LA: a script's number at a place. -/
namespace LA
open PySem Mir L2 Cm
def lawAt (ns : List Int) (k : Int) : Int := (ns[k.toNat]?).getD 0
theorem eq_at (ns : List Int) {k : Int} (hk : 0 ≤ k) (h : Hm) : f__law_at [.lst (ns.map Dat.int), .int k] h = .val (.int (lawAt ns k)) h := by
  by_cases q : k < (ns.length : Int)
  · obtain ⟨x, e⟩ : ∃ x, ns[k.toNat]? = some x := ⟨_, List.getElem?_eq_getElem (by omega)⟩
    have ea : atI (ns.map Dat.int) k = some (.int x) := by
      unfold atI ixN
      rw [if_pos hk, if_pos (by rw [List.length_map]; exact q)]
      show (ns.map Dat.int)[k.toNat]? = _
      rw [List.getElem?_map, e]
      rfl
    have el : lawAt ns k = x := by unfold lawAt; rw [e]; rfl
    rw [el]
    simp [f__law_at, m__law_at, q, ea]
  · have el : lawAt ns k = 0 := by
      unfold lawAt
      rw [List.getElem?_eq_none (by omega)]
      rfl
    rw [el]
    simp [f__law_at, m__law_at, q]
end LA
end

section
set_option Elab.async false
set_option linter.all false
set_option maxRecDepth 100000
set_option maxHeartbeats 4000000
/-! LA2: names. -/
namespace LA
open PySem Mir L2 Cm
theorem join_cps (cs : List Nat) : (Txt.join (Str.ofString "") (cs.map fun c => (⟨#[c]⟩ : Str))).cps.toList = cs := by
  rw [TL.join_eq]
  refine (TL.tl_join _ _).trans ?_
  have : TL.tl (Str.ofString "") = [] := rfl
  rw [this, List.map_map]
  induction cs with
  | nil => rfl
  | cons c cs ih =>
    cases cs with
    | nil => rfl
    | cons d ds =>
      show [c] ++ ([] ++ TL.joinL [] (((d :: ds).map _))) = _
      rw [ih]
      rfl
/-- the i-th letter, round the alphabet -/
def lett (i : Int) : Nat := (atI smallS.cps.toList (i % 26)).getD 0
theorem lett_at (i : Int) : small (lett i) ∧ atI smallS.cps.toList (i % 26) = some (lett i) := by
  have m := mod_in i 26 (by decide)
  obtain ⟨c, hc, e⟩ := at_in smallS.cps.toList m.1 (by have : smallS.cps.toList.length = 26 := by decide +kernel
                                                       rw [this]; exact m.2)
  have : lett i = c := by unfold lett; rw [e]; rfl
  rw [this]
  exact ⟨hc, e⟩
theorem sl_len : smallS.length ≤ sizeLine := by decide +kernel
/-- the word without the letter put in -/
def base (b : Int) : List Nat := (List.range (1 + b % 7).toNat).map fun (j : Nat) => lett (b / 64 + 3 * (j : Int))
def place (b : Int) : Nat := (b / 8 % (1 + b % 7 + 1)).toNat
def nameL (b k : Int) : List Nat := (base b).take (place b) ++ [lett (b / 64 + 1 + 5 * k)] ++ (base b).drop (place b)
def name (b k : Int) : Str := ⟨(nameL b k).toArray⟩
theorem base_len (b : Int) : (base b).length = (1 + b % 7).toNat ∧ 1 ≤ (base b).length ∧ (base b).length ≤ 7 ∧ ∀ c ∈ base b, small c := by
  have m := mod_in b 7 (by decide)
  have e : (base b).length = (1 + b % 7).toNat := by unfold base; rw [List.length_map, List.length_range]
  refine ⟨e, by omega, by omega, fun c hc => ?_⟩
  unfold base at hc
  obtain ⟨j, _, rfl⟩ := List.mem_map.mp hc
  exact (lett_at _).1
theorem name_cps (b k : Int) : (name b k).cps.toList = nameL b k := rfl
theorem nameL_small (b k : Int) : (∀ c ∈ nameL b k, small c) ∧ 2 ≤ (nameL b k).length ∧ (nameL b k).length ≤ 8 := by
  obtain ⟨e, h1, h7, hs⟩ := base_len b
  have el : (nameL b k).length = (base b).length + 1 := by
    unfold nameL
    rw [List.length_append, List.length_append, List.length_take, List.length_drop, List.length_singleton]
    omega
  refine ⟨fun c hc => ?_, by omega, by omega⟩
  unfold nameL at hc
  rcases List.mem_append.mp hc with hc | hc
  · rcases List.mem_append.mp hc with hc | hc
    · exact hs c (List.mem_of_mem_take hc)
    · rw [List.mem_singleton.mp hc]; exact (lett_at _).1
  · exact hs c (List.mem_of_mem_drop hc)
theorem name_len (b k : Int) : (name b k).length = (nameL b k).length := by rw [len_tl, name_cps]
theorem name_is (b k : Int) : isNameS (name b k) = true := by
  obtain ⟨s, h2, h8⟩ := nameL_small b k
  unfold isNameS
  rw [name_cps]
  have e1 : len8 (name b k) = true := decide_eq_true ⟨by rw [name_len]; omega, by rw [name_len]; exact h8⟩
  rw [e1, Bool.true_and]
  unfold allS
  exact List.all_eq_true.mpr fun c hc => decide_eq_true (s c hc)
theorem name_ok (b k : Int) : OkS (name b k) := by
  obtain ⟨s, h2, h8⟩ := nameL_small b k
  exact ⟨by rw [name_len]; omega, fun c hc => small_lt (s c (by rw [name_cps] at hc; exact hc))⟩
theorem lett_inj : ∀ i j : Fin 26, smallS.cps.toList[i.val]? = smallS.cps.toList[j.val]? → i = j := by decide +kernel
theorem lett_eq {i j : Int} (e : lett i = lett j) : i % 26 = j % 26 := by
  have mi := mod_in i 26 (by decide)
  have mj := mod_in j 26 (by decide)
  have ai := (lett_at i).2
  have aj := (lett_at j).2
  rw [e, ← aj] at ai
  have le : smallS.cps.toList.length = 26 := by decide +kernel
  have un : ∀ x : Int, 0 ≤ x → x < 26 → atI smallS.cps.toList x = smallS.cps.toList[x.toNat]? := fun x h0 h1 => by
    unfold atI ixN
    rw [if_pos h0, if_pos (by rw [le]; exact h1)]
    rfl
  rw [un _ mi.1 mi.2, un _ mj.1 mj.2] at ai
  have := lett_inj ⟨(i % 26).toNat, by omega⟩ ⟨(j % 26).toNat, by omega⟩ ai
  have := congrArg Fin.val this
  simp only at this
  omega
/-- names of unlike places below 26 are unlike -/
theorem name_inj {b k l : Int} (hk : 0 ≤ k ∧ k < 26) (hl : 0 ≤ l ∧ l < 26) (e : name b k = name b l) : k = l := by
  have e1 : nameL b k = nameL b l := by rw [← name_cps, e, name_cps]
  unfold nameL at e1
  rw [List.append_assoc, List.append_assoc] at e1
  have e2 := List.append_cancel_left e1
  have e3 : lett (b / 64 + 1 + 5 * k) = lett (b / 64 + 1 + 5 * l) := by
    have := congrArg (fun x => x.head?) e2
    simpa using this
  have := lett_eq e3
  omega
theorem eq_name (b k : Int) (h : Hm) : f__law_name [.int b, .int k] h = .val (.str (name b k)) h := by
  have m7 := mod_in b 7 (by decide)
  obtain ⟨n, hn⟩ : ∃ n : Nat, 1 + b % 7 = (n : Int) := ⟨(1 + b % 7).toNat, by omega⟩
  have hn1 : 1 ≤ n := by omega
  have hn7 : n ≤ 7 := by omega
  have mi := mod_in (b / 8) ((n : Int) + 1) (by omega)
  obtain ⟨i, hi⟩ : ∃ i : Nat, b / 8 % ((n : Int) + 1) = (i : Int) := ⟨(b / 8 % ((n : Int) + 1)).toNat, by omega⟩
  have hin : i ≤ n := by omega
  have pl : place b = i := by unfold place; rw [hn, hi, Int.toNat_natCast]
  have lc := lc_all (src := ⟨rngD 0 (n : Int).toNat, none⟩) rfl (bd := bName 7) (e := (mIx (mVar 2) (mBin aMod (mBin aAdd (mBin aDiv (mVar 0) (mC (.int 64))) (mBin aMul (mC (.int 3)) (mVar 7))) (mC (.int 26)))))
    (ρ0 := [some (.int b), some (.int k), some (.str smallS), some (.int (n : Int)), some (.int (i : Int)), none, none, none]) (h := h) (fun x => match x with | .int j => .str ⟨#[lett (b / 64 + 3 * j)]⟩ | _ => .non) (rngD 0 (n : Int).toNat) fun d hd => ⟨_, rfl, by
      unfold rngD at hd
      obtain ⟨j, hj, rfl⟩ := List.mem_map.mp hd
      have e := (lett_at (b / 64 + 3 * (0 + (j : Int)))).2
      have ml := mulS 3 (0 + (j : Int)) ⟨by decide, by decide⟩
      show _ = Res.val (Dat.str ⟨#[lett (b / 64 + 3 * (0 + (j : Int)))]⟩) h
      generalize lett (b / 64 + 3 * (0 + (j : Int))) = c at e ⊢
      rw [Int.zero_add] at e ml
      simp [e, sl_len, ml]⟩
  have lc2 : (rngD 0 (n : Int).toNat).map (fun x => match x with | .int j => Dat.str ⟨#[lett (b / 64 + 3 * j)]⟩ | _ => .non) = (base b).map fun c => Dat.str ⟨#[c]⟩ := by
    unfold rngD base
    rw [List.map_map, List.map_map, hn, Int.toNat_natCast]
    refine List.map_congr_left fun j _ => ?_
    show Dat.str ⟨#[lett (b / 64 + 3 * (0 + (j : Int)))]⟩ = Dat.str ⟨#[lett (b / 64 + 3 * (j : Int))]⟩
    rw [Int.zero_add]
  rw [lc2] at lc
  obtain ⟨hlen, hb1, hb7, hs⟩ := base_len b
  rw [hn, Int.toNat_natCast] at hlen
  have nm : nameL b k = (base b).take i ++ [lett (b / 64 + 1 + 5 * k)] ++ (base b).drop i := by unfold nameL; rw [pl]
  generalize base b = cs at lc hlen hs nm
  have j1 := join_signs cs (by omega) h
  have jc := join_cps cs
  generalize Txt.join (Str.ofString "") (cs.map fun c => ⟨#[c]⟩) = w at j1 jc
  obtain ⟨hc, ec⟩ := lett_at (b / 64 + 1 + 5 * k)
  have wl : w.length = n := by rw [len_tl, jc, hlen]
  have hw : w.length ≤ sizeLine := by rw [wl]; exact Nat.le_trans hn7 (by decide)
  have c1 : (cutS w none (some (i : Int))).cps.toList = cs.take i := by
    show ((w.cps.toList.drop 0).take (HT.sIx w.length w.length (some (i : Int)) - 0)) = _
    rw [HT.sIx_nat, wl, Nat.min_eq_left hin, jc]
    simp
  have c2 : (cutS w (some (i : Int)) none).cps.toList = cs.drop i := by
    show ((w.cps.toList.drop (HT.sIx w.length 0 (some (i : Int)))).take (w.length - HT.sIx w.length 0 (some (i : Int)))) = _
    rw [HT.sIx_nat, wl, Nat.min_eq_left hin, jc, List.take_of_length_le]
    rw [List.length_drop, hlen]
    exact Nat.le_refl _
  have l1 : (cutS w none (some (i : Int))).length + (⟨#[lett (b / 64 + 1 + 5 * k)]⟩ : Str).length ≤ sizeLine := by
    rw [len_tl, c1, List.length_take]
    exact Nat.le_trans (show min i cs.length + 1 ≤ 8 by omega) (by decide)
  have l2 : (cutS w none (some (i : Int)) ++ (⟨#[lett (b / 64 + 1 + 5 * k)]⟩ : Str)).length + (cutS w (some (i : Int)) none).length ≤ sizeLine := by
    have e : (cutS w none (some (i : Int)) ++ (⟨#[lett (b / 64 + 1 + 5 * k)]⟩ : Str)).cps.toList = cs.take i ++ [lett (b / 64 + 1 + 5 * k)] := by
      show ((cutS w none (some (i : Int))).cps ++ #[lett (b / 64 + 1 + 5 * k)]).toList = _
      rw [Array.toList_append, c1]
    rw [len_tl, e, len_tl, c2, List.length_append, List.length_take, List.length_drop, List.length_singleton]
    exact Nat.le_trans (show min i cs.length + 1 + (cs.length - i) ≤ 9 by omega) (by decide)
  have er : cutS w none (some (i : Int)) ++ (⟨#[lett (b / 64 + 1 + 5 * k)]⟩ : Str) ++ cutS w (some (i : Int)) none = name b k := by
    refine TL.ext_tl ?_
    show ((cutS w none (some (i : Int))).cps ++ #[lett (b / 64 + 1 + 5 * k)] ++ (cutS w (some (i : Int)) none).cps).toList = (name b k).cps.toList
    rw [name_cps, nm, Array.toList_append, Array.toList_append, c1, c2]
  have p0 : (0 : Int) < (n : Int) + 1 := by omega
  have z1 : i62 (n : Int) = true := decide_eq_true ⟨by omega, by omega⟩
  have z2 : n ≤ sizeLine := Nat.le_trans hn7 (by decide)
  have ml := mulS 5 k ⟨by decide, by decide⟩
  rw [Int.toNat_natCast] at lc
  simp [-joinD, f__law_name, m__law_name, hn, hi, p0, z1, z2, lc, j1, ec, ml, sl_len, hw, l1, l2, er]
end LA
end

section
set_option Elab.async false
set_option linter.all false
set_option maxRecDepth 100000
namespace K3
open PySem PySem.Spec
open PyProof.Rows L2 Mir

def m__law_pattern : Ms := mSeq (mSet 1 (mFz (mSized (mCons (mC (.str "X")) (mCons (mC (.int 0)) (mCons (mC (.str "Y")) (mCons (mC (.str "a")) (mCons (mC (.str "Xy")) (mCons (mUn aNeg (mC (.int 5))) (mCons (mC (.str "X")) (mNil))))))))))) (mRet (mUn tupD (mFz (mCat (mFz (mSized (mCons (mC (.str "k")) (mNil)))) (mFz (mLc (mSrcA rng1 (mCons (mBin aMod (mBin aDiv (mVar 0) (mC (.int 7))) (mC (.int 5))) (mNil))) [2] (bName 2) mYes (mIx (mVar 1) (mBin aMod (mBin aAdd (mVar 0) (mBin aMul (mC (.int 3)) (mVar 2))) (mC (.int 7))))))))))
def f__law_pattern : List Dat → Mo Dat := runFn 3 m__law_pattern
def m__law_wants : Ms := mSeq (mSet 1 (mCell (mSized (mCons (mTup (mCons (mC (.str "some")) (mCons (mCall f__law_pattern (mCons (mVar 0) (mNil))) (mNil)))) (mNil))))) (mSeq (mFor (mSrcA rng1 (mCons (mBin aMod (mBin aDiv (mVar 0) (mC (.int 3))) (mC (.int 4))) (mNil))) (bName 2) (mDrop (mLm lAppend (mVar 1) (mTup (mCons (mIx (mFz (mSized (mCons (mC (.str "some")) (mCons (mC (.str "none")) (mNil))))) (mBin aMod (mBin aDiv (mVar 0) (mBin aAdd (mC (.int 12)) (mVar 2))) (mC (.int 2)))) (mCons (mCall f__law_pattern (mCons (mBin aDiv (mVar 0) (mBin aAdd (mVar 2) (mC (.int 2)))) (mNil))) (mNil))))))) (mRet (mVar 1)))
def f__law_wants : List Dat → Mo Dat := runFn 3 m__law_wants
def f__law_wantsc : List Dat → Mo Dat := closeM f__law_wants
def m__law_deeds : Ms := mSeq (mSetF 2 (mLc (mSrc (mSl (mIx (mIx (mVar 0) (mC (.int 0))) (mC (.int 1))) (mPs (mC (.int 1))) (mPn))) [5] (bName 5) (mAndT (mTest (mUn (isD "str") (mVar 5))) (mCmpT cNeD (mVar 5) (mUn loD (mVar 5)))) (mVar 5))) (mSeq (mSet 3 (mCell (mSized (mNil)))) (mSeq (mFor (mSrcA rng1 (mCons (mBin aMod (mVar 1) (mC (.int 5))) (mNil))) (bName 4) (mIfS (mCmpT cEqD (mBin aMod (mBin aDiv (mVar 1) (mBin aAdd (mC (.int 5)) (mVar 4))) (mC (.int 2))) (mC (.int 0))) (mDrop (mLm lAppend (mVar 3) (mTup (mCons (mC (.str "take")) (mCons (mC (.int 0)) (mNil)))))) (mDrop (mLm lAppend (mVar 3) (mTup (mCons (mC (.str "put")) (mCons (mUn tupD (mFz (mCat (mFz (mSized (mCons (mC (.str "k")) (mNil)))) (mSl (mFz (mCat (mVar 2) (mFz (mSized (mCons (mC (.int 7)) (mCons (mC (.str "b")) (mNil))))))) (mPn) (mPs (mBin aMod (mBin aDiv (mVar 1) (mBin aAdd (mC (.int 11)) (mVar 4))) (mC (.int 5)))))))) (mNil)))))))) (mRet (mVar 3))))
def f__law_deeds : List Dat → Mo Dat := runFn 6 m__law_deeds
def f__law_deedsc : List Dat → Mo Dat := closeM f__law_deeds

def m__law_rule : Ms := mSeq (mSet 3 (mCall f__law_wantsc (mCons (mVar 2) (mNil)))) (mSeq (mSet 4 (mCall f__law_deedsc (mCons (mVar 3) (mCons (mBin aDiv (mVar 2) (mC (.int 5))) (mNil))))) (mSeq (mIfS (mCmpT cEqD (mBin aMod (mVar 2) (mC (.int 3))) (mC (.int 1))) (mRet (mTup (mCons (mCall LA.f__law_name (mCons (mVar 0) (mCons (mVar 1) (mNil)))) (mCons (mUn tupD (mVar 3)) (mCons (mFz (mListD (mVar 4))) (mNil)))))) (mNext)) (mRet (mTup (mCons (mCall LA.f__law_name (mCons (mVar 0) (mCons (mVar 1) (mNil)))) (mCons (mFz (mListD (mVar 3))) (mCons (mUn tupD (mVar 4)) (mNil))))))))
def f__law_rule : List Dat → Mo Dat := runFn 5 m__law_rule
def m__law_wrong : Ms := mSeq (mAsg (bTup [5, 6, 7]) (mVar 0)) (mSeq (mSet 2 (mTup (mCons (mC (.str "none")) (mCons (mTup (mCons (mC (.str "k")) (mCons (mC (.str "Q")) (mNil)))) (mNil))))) (mSeq (mSet 3 (mFz (mSized (mCons (mFz (mSized (mCons (mC (.str "k")) (mNil)))) (mCons (mTup (mCons (mC (.str "K")) (mNil))) (mCons (mTup (mCons (mC (.str "k")) (mCons (mC (.str "X")) (mCons (mC (.int 1)) (mCons (mC (.int 2)) (mCons (mC (.int 3)) (mCons (mC (.int 4)) (mNil)))))))) (mCons (mTup (mCons (mC (.str "k")) (mCons (mC (.bl true)) (mNil)))) (mCons (mTup (mCons (mC (.str "k")) (mCons (mC (.str "xY")) (mNil)))) (mCons (mTup (mCons (mC (.str "k")) (mCons (mC (.int 1000000000)) (mNil)))) (mCons (mTup (mCons (mC (.str "k")) (mCons (mFz (mSized (mNil))) (mNil)))) (mCons (mTup (mNil)) (mNil)))))))))))) (mSeq (mIfS (mCmpT cLt (mVar 1) (mC (.int 8))) (mRet (mTup (mCons (mVar 5) (mCons (mFz (mCat (mSl (mFz (mListD (mVar 6))) (mPn) (mPs (mC (.int 1)))) (mFz (mSized (mCons (mTup (mCons (mC (.str "some")) (mCons (mIx (mVar 3) (mVar 1)) (mNil)))) (mNil)))))) (mCons (mFz (mSized (mNil))) (mNil)))))) (mNext)) (mSeq (mIfS (mCmpT cGt (mVar 1) (mC (.int 22))) (mSeq (mSet 8 (mFz (mSized (mCons (mFz (mSized (mCons (mC (.str "some")) (mCons (mTup (mCons (mC (.str "k")) (mNil))) (mNil))))) (mCons (mTup (mCons (mC (.str "some")) (mCons (mTup (mCons (mC (.str "k")) (mNil))) (mCons (mC (.int 1)) (mNil))))) (mCons (mTup (mCons (mC (.str "any")) (mCons (mTup (mCons (mC (.str "k")) (mNil))) (mNil)))) (mCons (mTup (mCons (mC (.int 5)) (mCons (mTup (mCons (mC (.str "k")) (mNil))) (mNil)))) (mCons (mC .non) (mCons (mTup (mCons (mC (.str "some")) (mNil))) (mCons (mC (.str "some")) (mNil))))))))))) (mRet (mTup (mCons (mVar 5) (mCons (mFz (mCat (mSl (mFz (mListD (mVar 6))) (mPn) (mPs (mC (.int 1)))) (mFz (mSized (mCons (mIx (mVar 8) (mBin aSub (mVar 1) (mC (.int 23)))) (mNil)))))) (mCons (mFz (mSized (mNil))) (mNil))))))) (mNext)) (mSeq (mIfS (mCmpT cLt (mVar 1) (mC (.int 15))) (mSeq (mSet 8 (mFz (mSized (mCons (mTup (mCons (mC (.str "take")) (mCons (mC (.int 1)) (mNil)))) (mCons (mTup (mCons (mC (.str "take")) (mCons (mUn aNeg (mC (.int 1))) (mNil)))) (mCons (mTup (mCons (mC (.str "put")) (mCons (mFz (mSized (mCons (mC (.str "k")) (mNil)))) (mNil)))) (mCons (mTup (mCons (mC (.str "put")) (mCons (mTup (mCons (mC (.str "k")) (mCons (mC (.str "Q")) (mNil)))) (mNil)))) (mCons (mTup (mCons (mC (.str "give")) (mCons (mC (.int 0)) (mNil)))) (mCons (mFz (mSized (mCons (mC (.str "take")) (mCons (mC (.int 0)) (mNil))))) (mCons (mTup (mCons (mC (.str "take")) (mCons (mC (.int 0)) (mCons (mC (.int 0)) (mNil))))) (mNil))))))))))) (mSeq (mIfS (mCmpT cEqD (mBin aMod (mUn lenD (mVar 5)) (mC (.int 2))) (mC (.int 1))) (mSet 8 (mFz (mSized (mCons (mTup (mCons (mC (.str "take")) (mCons (mC (.bl true)) (mNil)))) (mCons (mTup (mCons (mC (.str "take")) (mCons (mC (.int 4)) (mNil)))) (mCons (mTup (mCons (mC (.str "take")) (mCons (mC .non) (mNil)))) (mCons (mTup (mCons (mC (.str "put")) (mCons (mTup (mCons (mC (.str "K")) (mNil))) (mNil)))) (mCons (mTup (mCons (mC (.int 7)) (mCons (mC (.int 0)) (mNil)))) (mCons (mC .non) (mCons (mTup (mCons (mC (.str "put")) (mNil))) (mNil))))))))))) (mNext)) (mRet (mTup (mCons (mVar 5) (mCons (mFz (mCat (mFz (mCat (mSl (mFz (mListD (mVar 6))) (mPn) (mPs (mC (.int 1)))) (mFz (mSized (mCons (mVar 2) (mNil)))))) (mSl (mFz (mListD (mVar 6))) (mPn) (mPs (mC (.int 1)))))) (mCons (mFz (mSized (mCons (mIx (mVar 8) (mBin aSub (mVar 1) (mC (.int 8)))) (mNil)))) (mNil)))))))) (mNext)) (mSeq (mSet 4 (mFz (mSized (mCons (mTup (mCons (mVar 5) (mCons (mFz (mSized (mCons (mVar 2) (mNil)))) (mCons (mFz (mSized (mNil))) (mNil))))) (mCons (mTup (mCons (mVar 5) (mCons (mFz (mSized (mNil))) (mCons (mFz (mSized (mNil))) (mNil))))) (mCons (mTup (mCons (mVar 5) (mCons (mFz (mRep (mListD (mSl (mVar 6) (mPn) (mPs (mC (.int 1))))) 5)) (mCons (mFz (mSized (mNil))) (mNil))))) (mCons (mTup (mCons (mVar 5) (mCons (mSl (mVar 6) (mPn) (mPs (mC (.int 1)))) (mCons (mFz (mRep (mSized (mCons (mTup (mCons (mC (.str "take")) (mCons (mC (.int 0)) (mNil)))) (mNil))) 5)) (mNil))))) (mNil)))))))) (mSeq (mSet 4 (mFz (mCat (mVar 4) (mFz (mSized (mCons (mTup (mCons (mC (.str "A")) (mCons (mVar 6) (mCons (mVar 7) (mNil))))) (mCons (mFz (mSized (mCons (mVar 5) (mCons (mVar 6) (mCons (mVar 7) (mNil)))))) (mCons (mTup (mCons (mVar 5) (mCons (mVar 6) (mNil)))) (mCons (mTup (mCons (mVar 5) (mCons (mVar 6) (mCons (mC .non) (mNil))))) (mNil)))))))))) (mRet (mIx (mVar 4) (mBin aSub (mVar 1) (mC (.int 15))))))))))))
def f__law_wrong : List Dat → Mo Dat := runFn 9 m__law_wrong












def m_Weave___init__ : Ms := mSeq (mSetFld "Weave" "rules" (mVar 0) (mCall PG.f_need_rulesc (mCons (mVar 1) (mNil)))) ((fun _ => bad))
def f_Weave___init__ : List Dat → Mo Dat := runFn 3 m_Weave___init__
def m_Engine___init__ : Ms := mSeq (mSetFld "Engine" "weave" (mVar 0) (mMake "Weave" f_Weave___init__ (mCons (mVar 1) (mNil)))) ((fun _ => bad))
def f_Engine___init__ : List Dat → Mo Dat := runFn 2 m_Engine___init__
def mh__law_refused_BadRule (a : Addr) : Ms := mSeq (mSet 3 (mFz (mSized (mCons (mIsE 2 a false) (mCons (mIsE 2 a false) (mCons (mIsE 2 a false) (mCons (mIsE 2 a false) (mNil)))))))) (mSeq (mIfS (mOrT (mCmpT cIn (mC (.bl true)) (mVar 3)) (mOrT (mTest (mIsE 2 a false)) (mNotT (mTest (mIsE 2 a true))))) (mRet (mC (.bl false))) (mNext)) (mRet (mIsE 2 a true)))
def hs__law_refused : List (Str × (Addr → Ms)) := [("BadRule", mh__law_refused_BadRule)]
def m__law_refused : Ms := mSeq (mTry 4 2 hs__law_refused (mIfS (mCmpT cEqD (mVar 1) (mC (.int 0))) (mDrop (mCall PG.f_need_rulesc (mCons (mVar 0) (mNil)))) (mIfS (mCmpT cEqD (mVar 1) (mC (.int 1))) (mDrop (mMake "Weave" f_Weave___init__ (mCons (mVar 0) (mNil)))) (mDrop (mMake "Engine" f_Engine___init__ (mCons (mVar 0) (mNil))))))) (mRet (mC (.bl false)))
def f__law_refused : List Dat → Mo Dat := runFn 4 m__law_refused
def m_law : Ms := mSeq (mSet 1 (mCall LA.f__law_at (mCons (mVar 0) (mCons (mC (.int 0)) (mNil))))) (mSeq (mSet 2 (mBin aAdd (mC (.int 1)) (mBin aMod (mCall LA.f__law_at (mCons (mVar 0) (mCons (mC (.int 1)) (mNil)))) (mC (.int 4))))) (mSeq (mIfS (mCmpT cEqD (mBin aMod (mBin aDiv (mCall LA.f__law_at (mCons (mVar 0) (mCons (mC (.int 1)) (mNil)))) (mC (.int 4))) (mC (.int 5))) (mC (.int 1))) (mSet 2 (mBin aAdd (mC (.int 9)) (mBin aMod (mBin aDiv (mCall LA.f__law_at (mCons (mVar 0) (mCons (mC (.int 1)) (mNil)))) (mC (.int 20))) (mC (.int 3))))) (mNext)) (mSeq (mSetC 3 (mLc (mSrcA rng1 (mCons (mVar 2) (mNil))) [9] (bName 9) mYes (mCall f__law_rule (mCons (mVar 1) (mCons (mVar 9) (mCons (mBin aAdd (mBin aMod (mBin aMul (mCall LA.f__law_at (mCons (mVar 0) (mCons (mBin aAdd (mC (.int 4)) (mBin aMod (mVar 9) (mC (.int 6)))) (mNil)))) (mC (.int 48271))) (mC (.int 10007))) (mVar 9)) (mNil))))))) (mSeq (mSet 4 (mBin aMod (mBin aMod (mBin aMul (mCall LA.f__law_at (mCons (mVar 0) (mCons (mC (.int 2)) (mNil)))) (mC (.int 48271))) (mC (.int 10007))) (mC (.int 38)))) (mSeq (mIfS (mCmpT cEqD (mVar 2) (mC (.int 11))) (mSet 4 (mC (.int 37))) (mNext)) (mSeq (mSet 5 (mBin aMod (mCall LA.f__law_at (mCons (mVar 0) (mCons (mC (.int 3)) (mNil)))) (mVar 2))) (mSeq (mSet 6 (mCmp cLt (mVar 2) (mC (.int 11)))) (mSeq (mIfS (mCmpT cLt (mVar 4) (mC (.int 30))) (mSeq (mPutL (mVar 3) (mVar 5) (mCall f__law_wrong (mCons (mIx (mVar 3) (mVar 5)) (mCons (mVar 4) (mNil))))) (mSet 6 (mC (.bl false)))) (mIfS (mAndT (mCmpT cLt (mVar 4) (mC (.int 32))) (mCmpT cGt (mVar 2) (mC (.int 1)))) (mSeq (mSet 10 (mBin aMod (mBin aAdd (mBin aAdd (mVar 5) (mC (.int 1))) (mBin aMod (mBin aDiv (mCall LA.f__law_at (mCons (mVar 0) (mCons (mC (.int 3)) (mNil)))) (mVar 2)) (mBin aSub (mVar 2) (mC (.int 1))))) (mVar 2))) (mSeq (mPutL (mVar 3) (mVar 5) (mTup (mCons (mIx (mIx (mVar 3) (mVar 10)) (mC (.int 0))) (mCons (mIx (mIx (mVar 3) (mVar 5)) (mC (.int 1))) (mCons (mIx (mIx (mVar 3) (mVar 5)) (mC (.int 2))) (mNil)))))) (mSet 6 (mC (.bl false))))) (mNext))) (mSeq (mSet 7 (mFz (mListD (mVar 3)))) (mSeq (mIfS (mCmpT cNeD (mFz (mSized (mCons (mC (.int 10)) (mCons (mC (.int 4)) (mCons (mC (.int 4)) (mNil)))))) (mFz (mSized (mCons (mC (.int 10)) (mCons (mC (.int 4)) (mCons (mC (.int 4)) (mNil))))))) (mRet (mC (.bl false))) (mNext)) (mSeq (mIfS (mNotT (mTest (mVar 6))) (mRet (mAndV (mCall f__law_refused (mCons (mVar 3) (mCons (mBin aMod (mCall LA.f__law_at (mCons (mVar 0) (mCons (mC (.int 3)) (mNil)))) (mC (.int 3))) (mNil)))) (mCmp cEqD (mVar 3) (mVar 7)))) (mNext)) (mSeq (mSet 8 (mCall PG.f_need_rulesc (mCons (mVar 3) (mNil)))) (mSeq (mIfS (mOrT (mNotT (mTest (mUn (isD "list") (mVar 8)))) (mCmpT cNeD (mVar 3) (mVar 7))) (mRet (mC (.bl false))) (mNext)) (mRet (mCmp cEqD (mVar 8) (mFz (mLc (mSrc (mVar 3)) [11] (bName 11) mYes (mTup (mCons (mIx (mVar 11) (mC (.int 0))) (mCons (mUn tupD (mIx (mVar 11) (mC (.int 1)))) (mCons (mUn tupD (mIx (mVar 11) (mC (.int 2)))) (mNil))))))))))))))))))))))
def f_law : List Dat → Mo Dat := runFn 12 m_law
end K3
end

section
set_option Elab.async false
set_option linter.all false
set_option maxRecDepth 100000
set_option maxHeartbeats 4000000
/-! K3A: good rules: patterns, wants, deeds. -/
namespace K3
open PySem Mir L2 Cm PG
def terms : List Dat := [.str "X", .int 0, .str "Y", .str "a", .str "Xy", .int (-5), .str "X"]
theorem terms_ok : ∀ t ∈ terms, (isValue t || isWord t) = true ∧ ((∃ z, t = .str z ∧ z.length ≤ 100 ∧ ∀ c ∈ z.cps.toList, c < 128) ∨ ∃ i, t = .int i) := by
  intro t ht
  simp [terms] at ht
  rcases ht with rfl | rfl | rfl | rfl | rfl | rfl | rfl
  · exact ⟨by decide +kernel, .inl ⟨_, rfl, by decide +kernel⟩⟩
  · exact ⟨by decide +kernel, .inr ⟨_, rfl⟩⟩
  · exact ⟨by decide +kernel, .inl ⟨_, rfl, by decide +kernel⟩⟩
  · exact ⟨by decide +kernel, .inl ⟨_, rfl, by decide +kernel⟩⟩
  · exact ⟨by decide +kernel, .inl ⟨_, rfl, by decide +kernel⟩⟩
  · exact ⟨by decide +kernel, .inr ⟨_, rfl⟩⟩
  · exact ⟨by decide +kernel, .inl ⟨_, rfl, by decide +kernel⟩⟩
theorem okS_by {z : Str} (h : z.length ≤ 100 ∧ ∀ c ∈ z.cps.toList, c < 1114112) : OkS z := h
theorem kName : isName (.str "k") = true ∧ OkS "k" := ⟨by decide +kernel, okS_by (by decide +kernel)⟩
/-- a pattern of the law's -/
def Pat (p : Dat) : Prop := ∃ ts, p = .tup (.str "k" :: ts) ∧ (∀ t ∈ ts, t ∈ terms) ∧ ts.length ≤ 4
theorem term_okn {t : Dat} (h : t ∈ terms) : Okn 0 t := by
  rcases (terms_ok t h).2 with ⟨z, rfl, l, c⟩ | ⟨i, rfl⟩
  · exact ⟨l, fun d hd => Nat.lt_of_lt_of_le (c d hd) (by decide)⟩
  · trivial
theorem pat_ok {p : Dat} (h : Pat p) : isPattern p = true ∧ Okn 1 p := by
  obtain ⟨ts, rfl, a, l⟩ := h
  refine ⟨?_, fun x hx => ?_⟩
  · show ((decide (ts.length ≤ 4) && isName (.str "k")) && ts.all fun y => isValue y || isWord y) = true
    rw [decide_eq_true l, kName.1]
    exact List.all_eq_true.mpr fun t ht => (terms_ok t (a t ht)).1
  · rcases List.mem_cons.mp hx with rfl | hx
    · exact kName.2
    · exact term_okn (a x hx)
theorem eq_pattern (c : Int) (h : Hm) : ∃ p, Pat p ∧ f__law_pattern [.int c] h = .val p h := by
  have m5 := mod_in (c / 7) 5 (by decide)
  have z1 : i62 (c / 7 % 5) = true := decide_eq_true ⟨by omega, by omega⟩
  have z2 : c / 7 % 5 ≤ (sizeLine : Int) := Int.le_trans (show c / 7 % 5 ≤ 5 by omega) (by decide)
  have T : terms = [.str (Str.ofString "X"), .int 0, .str (Str.ofString "Y"), .str (Str.ofString "a"), .str (Str.ofString "Xy"), .int (-5), .str (Str.ofString "X")] := rfl
  obtain ⟨ys, k1, k2, k3⟩ := lc_ex (src := ⟨rngD 0 (c / 7 % 5).toNat, none⟩) rfl (bd := bName 2) (e := mIx (mVar 1) (mBin aMod (mBin aAdd (mVar 0) (mBin aMul (mC (.int 3)) (mVar 2))) (mC (.int 7))))
    (ρ0 := [some (.int c), some (.lst terms), none]) (h := h) (fun d => d ∈ terms) (rngD 0 (c / 7 % 5).toNat) fun d hd => by
    unfold rngD at hd
    obtain ⟨j, hj, rfl⟩ := List.mem_map.mp hd
    have m7 := mod_in (c + 3 * (0 + (j : Int))) 7 (by decide)
    obtain ⟨t, ht, et⟩ := at_in terms m7.1 (by show _ < 7; exact m7.2)
    have ix := sd_ix (lst_sd (xs := terms) (h := h)) et
    have ml := mulS 3 (0 + (j : Int)) ⟨by decide, by decide⟩
    refine ⟨_, t, rfl, ?_, ht⟩
    rw [Int.zero_add] at ix ml ⊢
    simp [-ixSq, ml, ix]
  rw [rngD_len] at k2
  have z3 : 1 + ys.length ≤ sizeLine := size_le (by omega)
  refine ⟨.tup (.str "k" :: ys), ⟨ys, rfl, k1, by omega⟩, ?_⟩
  rw [T] at k3
  simp [f__law_pattern, m__law_pattern, z1, z2, k3, z3]
/-- a want of the law's -/
def Wan (w : Dat) : Prop := ∃ z p, w = .tup [.str z, p] ∧ (z = "some" ∨ z = "none") ∧ Pat p
theorem some_okS : OkS "some" ∧ OkS "none" ∧ OkS "take" ∧ OkS "put" := ⟨okS_by (by decide +kernel), okS_by (by decide +kernel), okS_by (by decide +kernel), okS_by (by decide +kernel)⟩
theorem wan_ok {w : Dat} (q : Wan w) : isWant w = true ∧ Okn 2 w := by
  obtain ⟨z, p, rfl, hz, hp⟩ := q
  obtain ⟨p1, p2⟩ := pat_ok hp
  constructor
  · show ((decide (z = "some") || decide (z = "none")) && isPattern p) = true
    rw [p1]
    rcases hz with rfl | rfl <;> simp
  · intro x hx
    rcases List.mem_cons.mp hx with rfl | hx
    · rcases hz with rfl | rfl
      · exact some_okS.1
      · exact some_okS.2.1
    · rw [List.mem_singleton.mp hx]; exact p2
def wantsB : Ms := (mDrop (mLm lAppend (mVar 1) (mTup (mCons (mIx (mFz (mSized (mCons (mC (.str "some")) (mCons (mC (.str "none")) (mNil))))) (mBin aMod (mBin aDiv (mVar 0) (mBin aAdd (mC (.int 12)) (mVar 2))) (mC (.int 2)))) (mCons (mCall f__law_pattern (mCons (mBin aDiv (mVar 0) (mBin aAdd (mVar 2) (mC (.int 2)))) (mNil))) (mNil))))))
theorem wants_loop (c : Int) (h0 : Hm) (src : Src) (hs : src.lk = none) : ∀ (js : List Nat) (ws : List Dat) (k : Option Dat), (∀ j ∈ js, j < 4) → ws.length + js.length < 100 → (∀ w ∈ ws, Wan w) →
    ∃ ws' k', ws'.length = ws.length + js.length ∧ (∀ w ∈ ws', Wan w) ∧ (∃ t, ws' = ws ++ t) ∧ forL src (bName 2) wantsB (js.map fun (j : Nat) => .int (0 + (j : Int))) [some (.int c), some (.ref h0.length), k] (h0 ++ [.lst ws]) = .val (.nx [some (.int c), some (.ref h0.length), k']) (h0 ++ [.lst ws'])
  | [], ws, k, _, _, a => ⟨ws, k, rfl, a, ⟨[], by simp⟩, by
    show (mGuard src >>= fun _ => pure (Fl.nx _)) _ = _
    rw [mo_bind, guard_none hs, rb_val]
    rfl⟩
  | j :: js, ws, k, hj, hl, a => by
    have hl : ws.length + (js.length + 1) < 100 := hl
    have j4 := hj j (by simp)
    obtain ⟨p, pp, ep⟩ := eq_pattern (c / ((0 + (j : Int)) + 2)) (h0 ++ [.lst ws])
    have m2 := mod_in (c / (12 + (0 + (j : Int)))) 2 (by decide)
    obtain ⟨s, hs', es⟩ := at_in [Dat.str "some", .str "none"] m2.1 (by show _ < 2; exact m2.2)
    have ix := sd_ix (lst_sd (xs := [Dat.str "some", .str "none"]) (h := h0 ++ [.lst ws])) es
    obtain ⟨z, rfl, hz⟩ : ∃ z, s = .str z ∧ (z = "some" ∨ z = "none") := by
      simp at hs'
      rcases hs' with rfl | rfl
      · exact ⟨_, rfl, .inl rfl⟩
      · exact ⟨_, rfl, .inr rfl⟩
    have p1 : (0 : Int) < 12 + (0 + (j : Int)) ∧ 12 + (0 + (j : Int)) < 1073741824 := ⟨by omega, by omega⟩
    have p2 : (0 : Int) < (0 + (j : Int)) + 2 ∧ (0 + (j : Int)) + 2 < 1073741824 := ⟨by omega, by omega⟩
    have lo := listOf_at (at_end h0 (.lst ws))
    have ap := append_at (at_end h0 (.lst ws)) (Nat.lt_of_lt_of_le (show ws.length < 100 by omega) (by decide)) (.tup [.str z, p])
    rw [set_end] at ap
    have z2 : 2 ≤ sizeLine := by decide
    have st : wantsB [some (.int c), some (.ref h0.length), some (.int (0 + (j : Int)))] (h0 ++ [.lst ws]) = .val (.nx [some (.int c), some (.ref h0.length), some (.int (0 + (j : Int)))]) (h0 ++ [.lst (ws ++ [.tup [.str z, p]])]) := by
      rw [Int.zero_add] at ep ix p1 p2 ⊢
      simp [-ixSq, -Mir.listOf, wantsB, lo, p1.1, p1.2, p2.1, p2.2, ix, ep, z2, ap]
    obtain ⟨ws', k', i1, i2, ⟨t, i3⟩, i4⟩ := wants_loop c h0 src hs js (ws ++ [.tup [.str z, p]]) (some (.int (0 + (j : Int)))) (fun i hi => hj i (List.mem_cons_of_mem _ hi)) (by rw [List.length_append]; show ws.length + 1 + js.length < 100; omega) (fun w hw => by
      rcases List.mem_append.mp hw with hw | hw
      · exact a w hw
      · rw [List.mem_singleton.mp hw]; exact ⟨z, p, rfl, hz, pp⟩)
    refine ⟨ws', k', ?_, i2, ⟨.tup [.str z, p] :: t, by rw [i3, List.append_assoc]; rfl⟩, ?_⟩
    · simp at i1 ⊢
      omega
    · show (mGuard src >>= fun _ => optM (bName 2 (.int (0 + (j : Int))) _) >>= fun ρ' => wantsB ρ' >>= _) _ = _
      rw [mo_bind, guard_none hs, rb_val]
      show (wantsB _ >>= _) _ = _
      rw [mo_bind]
      exact (congrArg (fun r => Res.bind r _) st).trans i4
theorem wan_pur {w : Dat} (q : Wan w) : Pur 2 w := want_pur (wan_ok q).1
theorem eq_wants (c : Int) (h : Hm) : ∃ p ws, Pat p ∧ (∀ w ∈ ws, Wan w) ∧ ws.length ≤ 3 ∧ f__law_wantsc [.int c] h = .val (.lst (.tup [.str "some", p] :: ws)) h := by
  obtain ⟨p, pp, ep⟩ := eq_pattern c h
  have m4 := mod_in (c / 3) 4 (by decide)
  have z1 : i62 (c / 3 % 4) = true := decide_eq_true ⟨by omega, by omega⟩
  have z2 : c / 3 % 4 ≤ (sizeLine : Int) := Int.le_trans (show c / 3 % 4 ≤ 5 by omega) (by decide)
  have w0 : Wan (.tup [.str "some", p]) := ⟨_, p, rfl, .inl rfl, pp⟩
  obtain ⟨ws', k', i1, i2, ⟨t, i3⟩, i4⟩ := wants_loop c h ⟨rngD 0 (c / 3 % 4).toNat, none⟩ rfl (List.range (c / 3 % 4).toNat) [.tup [.str "some", p]] none (fun j hj => by
    have := List.mem_range.mp hj
    omega) (by rw [List.length_range]; show 1 + _ < 100; omega) (fun w hw => by rw [List.mem_singleton.mp hw]; exact w0)
  rw [List.length_range] at i1
  have e3 : ws' = .tup [.str "some", p] :: t := i3
  subst e3
  have i1 : t.length + 1 = 1 + (c / 3 % 4).toNat := i1
  refine ⟨p, t, pp, fun w hw => i2 w (List.mem_cons_of_mem _ hw), by omega, ?_⟩
  have i4' : forL ⟨rngD 0 (c / 3 % 4).toNat, none⟩ (bName 2) wantsB (rngD 0 (c / 3 % 4).toNat) [some (.int c), some (.ref h.length), none] (h ++ [.lst [.tup [.str "some", p]]]) = _ := i4
  have s1 : mSet 1 (mCell (mSized (mCons (mTup (mCons (mC (.str "some")) (mCons (mCall f__law_pattern (mCons (mVar 0) (mNil))) (mNil)))) (mNil)))) [some (.int c), none, none] h = .val (.nx [some (.int c), some (.ref h.length), none]) (h ++ [.lst [.tup [.str "some", p]]]) := by
    simp [ep]
  have s2 : mFor (mSrcA rng1 (mCons (mBin aMod (mBin aDiv (mVar 0) (mC (.int 3))) (mC (.int 4))) (mNil))) (bName 2) wantsB [some (.int c), some (.ref h.length), none] (h ++ [.lst [.tup [.str "some", p]]]) = .val (.nx [some (.int c), some (.ref h.length), k']) (h ++ [.lst (.tup [.str "some", p] :: t)]) := by
    have sm : mSrcA rng1 (mCons (mBin aMod (mBin aDiv (mVar 0) (mC (.int 3))) (mC (.int 4))) (mNil)) [some (.int c), some (.ref h.length), none] (h ++ [.lst [.tup [.str "some", p]]]) = .val ⟨rngD 0 (c / 3 % 4).toNat, none⟩ (h ++ [.lst [.tup [.str "some", p]]]) := by
      simp [z1, z2]
    exact (for_eq sm).trans i4'
  have em : m__law_wants = mSeq (mSet 1 (mCell (mSized (mCons (mTup (mCons (mC (.str "some")) (mCons (mCall f__law_pattern (mCons (mVar 0) (mNil))) (mNil)))) (mNil))))) (mSeq (mFor (mSrcA rng1 (mCons (mBin aMod (mBin aDiv (mVar 0) (mC (.int 3))) (mC (.int 4))) (mNil))) (bName 2) wantsB) (mRet (mVar 1))) := rfl
  have r : f__law_wants [.int c] h = .val (.ref h.length) (h ++ [.lst (.tup [.str "some", p] :: t)]) := by
    refine run_rt ?_
    rw [em]
    exact mseq_step s1 (mseq_step s2 rfl)
  exact close_lst (m := 2) r (Nat.le_refl _) (at_end _ _) (fun x hx => wan_pur (i2 x hx)) (by decide)
end K3
end

section
set_option Elab.async false
set_option linter.all false
set_option maxRecDepth 100000
set_option maxHeartbeats 4000000
/-! K3B: good rules: deeds, the rule. -/
namespace K3
open PySem Mir L2 Cm PG LA
theorem term_word {t : Dat} (ht : t ∈ terms) : (∃ i, t = .int i ∧ isWord t = false) ∨ ∃ z, t = .str z ∧ PyData.strOk z = true ∧ PyData.strOk (Txt.lower z) = true ∧ z.length ≤ 5592405 ∧ (!decide (z = Txt.lower z)) = isWord t := by
  simp [terms] at ht
  rcases ht with rfl | rfl | rfl | rfl | rfl | rfl | rfl
  · exact .inr ⟨_, rfl, by decide +kernel⟩
  · exact .inl ⟨_, rfl, rfl⟩
  · exact .inr ⟨_, rfl, by decide +kernel⟩
  · exact .inr ⟨_, rfl, by decide +kernel⟩
  · exact .inr ⟨_, rfl, by decide +kernel⟩
  · exact .inl ⟨_, rfl, rfl⟩
  · exact .inr ⟨_, rfl, by decide +kernel⟩
/-- a deed of the law's, by the words ws -/
def Dee (ws : List Dat) (d : Dat) : Prop := d = .tup [.str "take", .int 0] ∨ ∃ qs, d = .tup [.str "put", .tup (.str "k" :: qs)] ∧ qs.length ≤ 4 ∧ ∀ q ∈ qs, q ∈ ws ∨ q = .int 7 ∨ q = .str "b"
theorem b_name : isName (.str "b") = true ∧ isWord (.str "b") = false ∧ isWord (.int 7) = false ∧ isValue (.int 7) = true ∧ isValue (.str "b") = true := by decide +kernel
theorem b_ok : OkS "b" := okS_by (by decide +kernel)
theorem dee_ok {ws : List Dat} (aw : ∀ w ∈ ws, isWord w = true ∧ Okn 0 w) {d : Dat} (q : Dee ws d) {W0 : Dat} {Ws : List Dat} (hw : ∀ w ∈ ws, w ∈ wordsW W0) (h0 : isSomeW W0 = true) : isDeed (W0 :: Ws) d = true ∧ Okn 2 d := by
  rcases q with rfl | ⟨qs, rfl, l, a⟩
  · constructor
    · rw [isDeed_eq, if_pos rfl]
      show (decide (0 ≤ (0 : Int) ∧ (0 : Int) < ((W0 :: Ws).length : Int)) && isSomeW W0) = true
      rw [h0, decide_eq_true ⟨Int.le_refl _, by rw [List.length_cons]; omega⟩]
      rfl
    · intro x hx
      simp at hx
      rcases hx with rfl | rfl
      · exact some_okS.2.2.1
      · trivial
  · constructor
    · rw [isDeed_eq, if_neg (by decide +kernel), decide_eq_true rfl, Bool.true_and, Bool.and_eq_true]
      constructor
      · show ((decide (qs.length ≤ 4) && isName (.str "k")) && qs.all fun y => isValue y || isWord y) = true
        rw [decide_eq_true l, kName.1]
        refine List.all_eq_true.mpr fun q hq => ?_
        rcases a q hq with h | rfl | rfl
        · rw [(aw q h).1, Bool.or_true]
        · rfl
        · rw [b_name.2.2.2.2]; rfl
      · show ((qs.filter isWord).all fun t => decide (t ∈ wordsOf (W0 :: Ws))) = true
        refine List.all_eq_true.mpr fun q hq => decide_eq_true ?_
        obtain ⟨h1, h2⟩ := List.mem_filter.mp hq
        show q ∈ (W0 :: Ws).flatMap wordsW
        rw [List.flatMap_cons]
        refine List.mem_append_left _ ?_
        rcases a q h1 with h | rfl | rfl
        · exact hw q h
        · rw [b_name.2.2.1] at h2; cases h2
        · rw [b_name.2.1] at h2; cases h2
    · intro x hx
      simp at hx
      rcases hx with rfl | rfl
      · exact some_okS.2.2.2
      · intro y hy
        rcases List.mem_cons.mp hy with rfl | hy
        · exact kName.2
        · rcases a y hy with h | rfl | rfl
          · exact (aw y h).2
          · trivial
          · exact b_ok
def deedB : Ms := (mIfS (mCmpT cEqD (mBin aMod (mBin aDiv (mVar 1) (mBin aAdd (mC (.int 5)) (mVar 4))) (mC (.int 2))) (mC (.int 0))) (mDrop (mLm lAppend (mVar 3) (mTup (mCons (mC (.str "take")) (mCons (mC (.int 0)) (mNil)))))) (mDrop (mLm lAppend (mVar 3) (mTup (mCons (mC (.str "put")) (mCons (mUn tupD (mFz (mCat (mFz (mSized (mCons (mC (.str "k")) (mNil)))) (mSl (mFz (mCat (mVar 2) (mFz (mSized (mCons (mC (.int 7)) (mCons (mC (.str "b")) (mNil))))))) (mPn) (mPs (mBin aMod (mBin aDiv (mVar 1) (mBin aAdd (mC (.int 11)) (mVar 4))) (mC (.int 5)))))))) (mNil)))))))
theorem deed_loop (W g : Option Dat) (c : Int) (ws : List Dat) (lw : ws.length ≤ 4) (h0 : Hm) (src : Src) (hs : src.lk = none) : ∀ (js : List Nat) (ds : List Dat) (k : Option Dat), (∀ j ∈ js, j < 5) → ds.length + js.length < 100 → (∀ d ∈ ds, Dee ws d) →
    ∃ ds' k', ds'.length = ds.length + js.length ∧ (∀ d ∈ ds', Dee ws d) ∧ forL src (bName 4) deedB (js.map fun (j : Nat) => .int (0 + (j : Int))) [W, some (.int c), some (.lst ws), some (.ref h0.length), k, g] (h0 ++ [.lst ds]) = .val (.nx [W, some (.int c), some (.lst ws), some (.ref h0.length), k', g]) (h0 ++ [.lst ds'])
  | [], ds, k, _, _, a => ⟨ds, k, rfl, a, by
    show (mGuard src >>= fun _ => pure (Fl.nx _)) _ = _
    rw [mo_bind, guard_none hs, rb_val]
    rfl⟩
  | j :: js, ds, k, hj, hl, a => by
    have hl : ds.length + (js.length + 1) < 100 := hl
    have j5 := hj j (by simp)
    have lo := listOf_at (at_end h0 (.lst ds))
    have p1 : (0 : Int) < 5 + (0 + (j : Int)) ∧ 5 + (0 + (j : Int)) < 1073741824 := ⟨by omega, by omega⟩
    have p2 : (0 : Int) < 11 + (0 + (j : Int)) ∧ 11 + (0 + (j : Int)) < 1073741824 := ⟨by omega, by omega⟩
    have e0 := eqJ (c / (5 + (0 + (j : Int))) % 2) 0 (h0 ++ [.lst ds])
    have z2 : 2 ≤ sizeLine := by decide
    have key : ∃ d, Dee ws d ∧ deedB [W, some (.int c), some (.lst ws), some (.ref h0.length), some (.int (0 + (j : Int))), g] (h0 ++ [.lst ds]) = .val (.nx [W, some (.int c), some (.lst ws), some (.ref h0.length), some (.int (0 + (j : Int))), g]) (h0 ++ [.lst (ds ++ [d])]) := by
      by_cases q : c / (5 + (0 + (j : Int))) % 2 = 0
      · rw [decide_eq_true q] at e0
        have ap := append_at (at_end h0 (.lst ds)) (Nat.lt_of_lt_of_le (show ds.length < 100 by omega) (by decide)) (.tup [.str "take", .int 0])
        rw [set_end] at ap
        refine ⟨_, .inl rfl, ?_⟩
        rw [Int.zero_add] at e0 p1 ⊢
        simp [-Mir.listOf, deedB, p1.1, p1.2, e0, lo, z2, ap]
      · rw [decide_eq_false q] at e0
        have m5 := mod_in (c / (11 + (0 + (j : Int)))) 5 (by decide)
        obtain ⟨n, hn⟩ : ∃ n : Nat, c / (11 + (0 + (j : Int))) % 5 = (n : Int) := ⟨(c / (11 + (0 + (j : Int))) % 5).toNat, by omega⟩
        have hn4 : n ≤ 4 := by omega
        have ct : cutD (ws ++ [Dat.int 7, Dat.str "b"]) none (some (n : Int)) = (ws ++ [Dat.int 7, Dat.str "b"]).take n := by
          unfold cutD
          rw [HT.sIx_nat]
          show List.take (min n (ws ++ [Dat.int 7, Dat.str "b"]).length - 0) ((ws ++ [Dat.int 7, Dat.str "b"]).drop 0) = _
          rw [List.drop_zero, Nat.sub_zero]
          by_cases q : n ≤ (ws ++ [Dat.int 7, Dat.str "b"]).length
          · rw [Nat.min_eq_left q]
          · rw [Nat.min_eq_right (by omega), List.take_of_length_le (Nat.le_refl _), List.take_of_length_le (by omega)]
        have ap := append_at (at_end h0 (.lst ds)) (Nat.lt_of_lt_of_le (show ds.length < 100 by omega) (by decide)) (.tup [.str "put", .tup (.str "k" :: (ws ++ [Dat.int 7, Dat.str "b"]).take n)])
        rw [set_end] at ap
        refine ⟨_, .inr ⟨(ws ++ [Dat.int 7, Dat.str "b"]).take n, rfl, by rw [List.length_take]; omega, fun x hx => ?_⟩, ?_⟩
        · rcases List.mem_append.mp (List.mem_of_mem_take hx) with hx | hx
          · exact .inl hx
          · simp at hx; exact .inr hx
        · have z3 : ws.length + 2 ≤ sizeLine := Nat.le_trans (show ws.length + 2 ≤ 6 by omega) (by decide)
          have z4 : 1 + ((ws ++ [Dat.int 7, Dat.str "b"]).take n).length ≤ sizeLine := Nat.le_trans (show 1 + ((ws ++ [Dat.int 7, Dat.str "b"]).take n).length ≤ 5 by rw [List.length_take]; omega) (by decide)
          generalize (ws ++ [Dat.int 7, Dat.str "b"]).take n = qs at ct ap z4
          rw [Int.zero_add] at e0 p1 p2 hn ⊢
          have l1 : ∀ (xs : List Dat) (h : Hm), Mir.listOf (.lst xs) h = .val xs h := fun _ _ => rfl
          simp [-Mir.listOf, deedB, p1.1, p1.2, e0, lo, z2, p2.1, p2.2, hn, l1, z3, ct, z4, ap]
    obtain ⟨d, dd, st⟩ := key
    obtain ⟨ds', k', i1, i2, i4⟩ := deed_loop W g c ws lw h0 src hs js (ds ++ [d]) (some (.int (0 + (j : Int)))) (fun i hi => hj i (List.mem_cons_of_mem _ hi)) (by rw [List.length_append]; show ds.length + 1 + js.length < 100; omega) (fun w hw => by
      rcases List.mem_append.mp hw with hw | hw
      · exact a w hw
      · rw [List.mem_singleton.mp hw]; exact dd)
    refine ⟨ds', k', ?_, i2, ?_⟩
    · simp at i1 ⊢
      omega
    · show (mGuard src >>= fun _ => optM (bName 4 (.int (0 + (j : Int))) _) >>= fun ρ' => deedB ρ' >>= _) _ = _
      rw [mo_bind, guard_none hs, rb_val]
      show (deedB _ >>= _) _ = _
      rw [mo_bind]
      exact (congrArg (fun r => Res.bind r _) st).trans i4
end K3
end

section
set_option Elab.async false
set_option linter.all false
set_option maxRecDepth 100000
set_option maxHeartbeats 4000000
/-! K3C: good rules. -/
namespace K3
open PySem Mir L2 Cm PG LA
theorem pat_words {ts : List Dat} (a : ∀ t ∈ ts, t ∈ terms) : ∀ w ∈ ts.filter isWord, isWord w = true ∧ Okn 0 w := fun w hw => by
  obtain ⟨h1, h2⟩ := List.mem_filter.mp hw
  exact ⟨h2, term_okn (a w h1)⟩
theorem dee_pur {ws : List Dat} (aw : ∀ w ∈ ws, isWord w = true) {d : Dat} (q : Dee ws d) : Pur 2 d := by
  rcases q with rfl | ⟨qs, rfl, l, a⟩
  · intro x hx
    simp at hx
    rcases hx with rfl | rfl <;> trivial
  · intro x hx
    simp at hx
    rcases hx with rfl | rfl
    · trivial
    · intro y hy
      rcases List.mem_cons.mp hy with rfl | hy
      · trivial
      · rcases a y hy with h | rfl | rfl
        · obtain ⟨z, rfl⟩ := isWord_str (aw y h)
          trivial
        · trivial
        · trivial
theorem eq_deeds {ts Ws : List Dat} (a : ∀ t ∈ ts, t ∈ terms) (lt : ts.length ≤ 4) (c : Int) (h : Hm) :
    ∃ ds, ds.length ≤ 4 ∧ (∀ d ∈ ds, Dee (ts.filter isWord) d) ∧ f__law_deedsc [.lst (.tup [.str "some", .tup (.str "k" :: ts)] :: Ws), .int c] h = .val (.lst ds) h := by
  have m5 := mod_in c 5 (by decide)
  have z1 : i62 (c % 5) = true := decide_eq_true ⟨by omega, by omega⟩
  have z2 : c % 5 ≤ (sizeLine : Int) := Int.le_trans (show c % 5 ≤ 5 by omega) (by decide)
  have lw : (ts.filter isWord).length ≤ 4 := Nat.le_trans (List.length_filter_le _ _) lt
  obtain ⟨ds, k', i1, i2, i4⟩ := deed_loop (some (.lst (.tup [.str "some", .tup (.str "k" :: ts)] :: Ws))) none c (ts.filter isWord) lw h ⟨rngD 0 (c % 5).toNat, none⟩ rfl (List.range (c % 5).toNat) [] none (fun j hj => by
    have := List.mem_range.mp hj
    omega) (by rw [List.length_range]; show 0 + _ < 100; omega) (fun _ hd => nomatch hd)
  rw [List.length_range] at i1
  have i1 : ds.length = 0 + (c % 5).toNat := i1
  refine ⟨ds, by omega, i2, ?_⟩
  have i4' : forL ⟨rngD 0 (c % 5).toNat, none⟩ (bName 4) deedB (rngD 0 (c % 5).toNat) [some (.lst (.tup [.str "some", .tup (.str "k" :: ts)] :: Ws)), some (.int c), some (.lst (ts.filter isWord)), some (.ref h.length), none, none] (h ++ [.lst []]) = _ := i4
  have lc := lc_map (src := ⟨ts, none⟩) rfl (bd := bName 5) (c := mAndT (mTest (mUn (isD "str") (mVar 5))) (mCmpT cNeD (mVar 5) (mUn loD (mVar 5)))) (e := mVar 5) (ρ0 := [some (.lst (.tup [.str "some", .tup (.str "k" :: ts)] :: Ws)), some (.int c), none, none, none, none]) (h := h)
    (fun t => if isWord t = true then some t else none) ts [] fun t ht => ⟨_, rfl, by
      rcases term_word (a t ht) with ⟨i, rfl, q⟩ | ⟨z, rfl, o1, o2, l, q⟩
      · exact .inl ⟨by rw [q]; rfl, by simp⟩
      · have ne := neS o1 o2 h
        rw [q] at ne
        cases qw : isWord (.str z)
        · rw [qw] at ne
          exact .inl ⟨by simp, by simp [l, ne]⟩
        · rw [qw] at ne
          exact .inr ⟨.str z, by simp, by simp [l, ne], by simp⟩⟩
  have ef : ts.filterMap (fun t => if isWord t = true then some t else none) = ts.filter isWord := by
    clear i4 i4' i2 lw lt a lc
    induction ts with
    | nil => rfl
    | cons t ts ih =>
      rw [List.filterMap_cons, List.filter_cons, ih]
      cases q : isWord t <;> simp
  rw [List.nil_append, ef] at lc
  have s1 : mSetF 2 (mLc (mSrc (mSl (mIx (mIx (mVar 0) (mC (.int 0))) (mC (.int 1))) (mPs (mC (.int 1))) (mPn))) [5] (bName 5) (mAndT (mTest (mUn (isD "str") (mVar 5))) (mCmpT cNeD (mVar 5) (mUn loD (mVar 5)))) (mVar 5)) [some (.lst (.tup [.str "some", .tup (.str "k" :: ts)] :: Ws)), some (.int c), none, none, none, none] h =
      .val (.nx [some (.lst (.tup [.str "some", .tup (.str "k" :: ts)] :: Ws)), some (.int c), some (.lst (ts.filter isWord)), none, none, none]) h := by
    have ix0 : ixSq (.lst (.tup [.str "some", .tup (.str "k" :: ts)] :: Ws)) (.int 0) h = .val (.tup [.str "some", .tup (.str "k" :: ts)]) h := sd_ix lst_sd (at0 _ _)
    have ix1 : ixSq (.tup [.str "some", .tup (.str "k" :: ts)]) (.int 1) h = .val (.tup (.str "k" :: ts)) h := sd_ix tup_sd (at1 _ _ _)
    simp [-ixSq, ix0, ix1, cutT1, lc]
  have s2 : mSet 3 (mCell (mSized mNil)) [some (.lst (.tup [.str "some", .tup (.str "k" :: ts)] :: Ws)), some (.int c), some (.lst (ts.filter isWord)), none, none, none] h = .val (.nx [some (.lst (.tup [.str "some", .tup (.str "k" :: ts)] :: Ws)), some (.int c), some (.lst (ts.filter isWord)), some (.ref h.length), none, none]) (h ++ [.lst []]) := by simp
  have s3 : mFor (mSrcA rng1 (mCons (mBin aMod (mVar 1) (mC (.int 5))) (mNil))) (bName 4) deedB [some (.lst (.tup [.str "some", .tup (.str "k" :: ts)] :: Ws)), some (.int c), some (.lst (ts.filter isWord)), some (.ref h.length), none, none] (h ++ [.lst []]) = .val (.nx [some (.lst (.tup [.str "some", .tup (.str "k" :: ts)] :: Ws)), some (.int c), some (.lst (ts.filter isWord)), some (.ref h.length), k', none]) (h ++ [.lst ds]) := by
    have sm : mSrcA rng1 (mCons (mBin aMod (mVar 1) (mC (.int 5))) (mNil)) [some (.lst (.tup [.str "some", .tup (.str "k" :: ts)] :: Ws)), some (.int c), some (.lst (ts.filter isWord)), some (.ref h.length), none, none] (h ++ [.lst []]) = .val ⟨rngD 0 (c % 5).toNat, none⟩ (h ++ [.lst []]) := by
      simp [z1, z2]
    exact (for_eq sm).trans i4'
  have em : m__law_deeds = mSeq (mSetF 2 (mLc (mSrc (mSl (mIx (mIx (mVar 0) (mC (.int 0))) (mC (.int 1))) (mPs (mC (.int 1))) (mPn))) [5] (bName 5) (mAndT (mTest (mUn (isD "str") (mVar 5))) (mCmpT cNeD (mVar 5) (mUn loD (mVar 5)))) (mVar 5))) (mSeq (mSet 3 (mCell (mSized mNil))) (mSeq (mFor (mSrcA rng1 (mCons (mBin aMod (mVar 1) (mC (.int 5))) (mNil))) (bName 4) deedB) (mRet (mVar 3)))) := rfl
  have r : f__law_deeds [.lst (.tup [.str "some", .tup (.str "k" :: ts)] :: Ws), .int c] h = .val (.ref h.length) (h ++ [.lst ds]) := by
    refine run_rt ?_
    rw [em]
    exact mseq_step s1 (mseq_step s2 (mseq_step s3 rfl))
  exact close_lst (m := 2) r (Nat.le_refl _) (at_end _ _) (fun x hx => dee_pur (fun w hw => (List.mem_filter.mp hw).2) (i2 x hx)) (by decide)
/-- a good rule of this name -/
structure Good (r : Dat) (n : Str) where
  W : Dat
  D : Dat
  ts : List Dat
  Ws : List Dat
  ds : List Dat
  eq : r = .tup [.str n, W, D]
  eW : seqD W = some (.tup [.str "some", .tup (.str "k" :: ts)] :: Ws)
  eD : seqD D = some ds
  pt : ∀ t ∈ ts, t ∈ terms
  lt : ts.length ≤ 4
  pw : ∀ w ∈ Ws, Wan w
  lw : Ws.length ≤ 3
  pd : ∀ d ∈ ds, Dee (ts.filter isWord) d
  ld : ds.length ≤ 4
theorem seqD_okn {n : Nat} {W : Dat} {ws : List Dat} (e : seqD W = some ws) (o : ∀ w ∈ ws, Okn n w) : Okn (n + 1) W := by
  cases W with
  | tup xs => cases e; exact o
  | lst xs => cases e; exact o
  | _ => cases e
theorem okn_up : ∀ {n : Nat} {d : Dat}, d ≠ .tup [] → (∀ xs, d ≠ .lst xs) → (∀ xs, d ≠ .tup xs) → Okn n d → Okn (n + 1) d := by
  intro n d _ h1 h2 o
  cases d with
  | tup xs => exact absurd rfl (h2 xs)
  | lst xs => exact absurd rfl (h1 xs)
  | _ => cases n <;> exact o
theorem someW (r : List Dat) : isSomeW (.tup (.str "some" :: r)) = true := by simp [isSomeW]
theorem good_ok {r : Dat} {n : Str} (g : Good r n) (on : OkS n) (nn : isNameS n = true) : isRule r = true ∧ Okn 4 r ∧ ruleT r = some (n, .tup [.str "some", .tup (.str "k" :: g.ts)] :: g.Ws, g.ds) := by
  obtain ⟨W, D, ts, Ws, ds, eq, eW, eD, pt, lt, pw, lw, pd, ld⟩ := g
  subst eq
  show isRule _ = true ∧ Okn 4 _ ∧ ruleT _ = some (n, .tup [.str "some", .tup (.str "k" :: ts)] :: Ws, ds)
  have w0 : Wan (.tup [.str "some", .tup (.str "k" :: ts)]) := ⟨_, _, rfl, .inl rfl, ts, rfl, pt, lt⟩
  have aW : ∀ w ∈ Dat.tup [.str "some", .tup (.str "k" :: ts)] :: Ws, Wan w := fun w hw => by
    rcases List.mem_cons.mp hw with rfl | hw
    · exact w0
    · exact pw w hw
  have dd := fun d hd => dee_ok (Ws := Ws) (W0 := .tup [.str "some", .tup (.str "k" :: ts)]) (pat_words pt) (pd d hd) (fun w hw => by rw [wordsW_eq, if_pos rfl]; exact hw) (someW _)
  have e1 : areWants W = true := by
    rw [areWants_eq eW, decide_eq_true ⟨by rw [List.length_cons]; omega, by rw [List.length_cons]; omega⟩, Bool.true_and, Bool.and_eq_true]
    exact ⟨List.all_eq_true.mpr fun w hw => (wan_ok (aW w hw)).1, someW [.tup (.str "k" :: ts)]⟩
  have e2 : deedsOk W D = true := by
    unfold deedsOk
    rw [eW, eD]
    simp only
    rw [decide_eq_true ld, Bool.true_and]
    exact List.all_eq_true.mpr fun d hd => (dd d hd).1
  have ir : isRule (.tup [.str n, W, D]) = true := by
    show (isNameS n && (areWants W && deedsOk W D)) = true
    rw [nn, e1, e2]
    rfl
  refine ⟨ir, ?_, ?_⟩
  · intro x hx
    simp at hx
    rcases hx with rfl | rfl | rfl
    · exact on
    · exact seqD_okn eW fun w hw => (wan_ok (aW w hw)).2
    · exact seqD_okn eD fun d hd => (dd d hd).2
  · unfold ruleT
    simp only
    rw [if_pos ir, eW, eD]
theorem eq_rule (b k c : Int) (h : Hm) : ∃ r, Nonempty (Good r (name b k)) ∧ f__law_rule [.int b, .int k, .int c] h = .val r h := by
  obtain ⟨p, ws, ⟨ts, rfl, pt, lt⟩, pw, lw, ew⟩ := eq_wants c h
  obtain ⟨ds, ld, pd, ed⟩ := eq_deeds (Ws := ws) pt lt (c / 5) h
  have en := eq_name b k h
  have z3 : 3 ≤ sizeLine := by decide
  have e1 := eqJ (c % 3) 1 h
  by_cases q : c % 3 = 1
  · rw [decide_eq_true q] at e1
    refine ⟨_, ⟨⟨.tup (.tup [.str "some", .tup (.str "k" :: ts)] :: ws), .lst ds, ts, ws, ds, rfl, rfl, rfl, pt, lt, pw, lw, pd, ld⟩⟩, ?_⟩
    simp [f__law_rule, m__law_rule, ew, ed, e1, en, z3]
  · rw [decide_eq_false q] at e1
    refine ⟨_, ⟨⟨.lst (.tup [.str "some", .tup (.str "k" :: ts)] :: ws), .tup ds, ts, ws, ds, rfl, rfl, rfl, pt, lt, pw, lw, pd, ld⟩⟩, ?_⟩
    simp [f__law_rule, m__law_rule, ew, ed, e1, en, z3]
end K3
end

section
set_option Elab.async false
set_option linter.all false
set_option maxRecDepth 100000
set_option maxHeartbeats 4000000
/-! K3E: rules made wrong. -/
namespace K3
open PySem Mir L2 Cm PG LA
/-- data of a depth that reads as Python's -/
def Pyn : Nat → Dat → Prop
  | _, .str z => OkS z
  | _, .ref _ => False
  | _, .exn _ => False
  | _, .dct _ _ _ => False
  | 0, .tup _ => False
  | 0, .lst _ => False
  | n + 1, .tup xs => ∀ x ∈ xs, Pyn n x
  | n + 1, .lst xs => ∀ x ∈ xs, Pyn n x
  | _, _ => True
theorem pyn_okn : ∀ {n : Nat} {d : Dat} (m : Nat), Pyn n d → Okn m d
  | n, .str z, m, o => by cases n <;> cases m <;> exact o
  | n, .ref _, m, o => by cases n <;> exact o.elim
  | n, .exn _, m, o => by cases n <;> exact o.elim
  | n, .dct _ _ _, m, o => by cases n <;> exact o.elim
  | n, .non, m, o => by cases m <;> trivial
  | n, .bl _, m, o => by cases m <;> trivial
  | n, .int _, m, o => by cases m <;> trivial
  | 0, .tup xs, m, o => o.elim
  | 0, .lst xs, m, o => o.elim
  | n + 1, .tup xs, 0, o => trivial
  | n + 1, .lst xs, 0, o => trivial
  | n + 1, .tup xs, m + 1, o => fun x hx => pyn_okn m (o x hx)
  | n + 1, .lst xs, m + 1, o => fun x hx => pyn_okn m (o x hx)
theorem pyn_up : ∀ {n : Nat} {d : Dat}, Pyn n d → Pyn (n + 1) d
  | n, .str z, o => by cases n <;> exact o
  | n, .ref _, o => by cases n <;> exact o.elim
  | n, .exn _, o => by cases n <;> exact o.elim
  | n, .dct _ _ _, o => by cases n <;> exact o.elim
  | n, .non, o => by cases n <;> trivial
  | n, .bl _, o => by cases n <;> trivial
  | n, .int _, o => by cases n <;> trivial
  | 0, .tup xs, o => o.elim
  | 0, .lst xs, o => o.elim
  | n + 1, .tup xs, o => fun x hx => pyn_up (o x hx)
  | n + 1, .lst xs, o => fun x hx => pyn_up (o x hx)
theorem pyn_py (h : Hm) : ∀ (n : Nat) (d : Dat), Pyn n d → ∃ p, toPy h (n + 1) d = some p ∧ PyData.eqv p p = true
  | n, .str z, o => by
    have o : OkS z := by cases n <;> exact o
    exact ⟨.str z, py_str (okS_str o) h n, by simp [PyData.eqv]⟩
  | n, .ref _, o => by cases n <;> exact o.elim
  | n, .exn _, o => by cases n <;> exact o.elim
  | n, .dct _ _ _, o => by cases n <;> exact o.elim
  | n, .non, o => ⟨.none, by simp [toPy], by simp [PyData.eqv]⟩
  | n, .bl b, o => ⟨.bool b, by simp [toPy], by simp [PyData.eqv]⟩
  | n, .int i, o => ⟨.int i, by simp [toPy], by simp [PyData.eqv]⟩
  | 0, .tup xs, o => o.elim
  | 0, .lst xs, o => o.elim
  | n + 1, .tup xs, o => by
    obtain ⟨ps, e1, e2⟩ := optPy (h := h) (n := n + 1) xs fun x hx => pyn_py h n x (o x hx)
    exact ⟨.tuple ps, by simp only [toPy, e1]; rfl, by rw [PyData.eqv]; exact e2⟩
  | n + 1, .lst xs, o => by
    obtain ⟨ps, e1, e2⟩ := optPy (h := h) (n := n + 1) xs fun x hx => pyn_py h n x (o x hx)
    exact ⟨.list ps, by simp only [toPy, e1]; rfl, by rw [PyData.eqv]; exact e2⟩
theorem pyn_term {t : Dat} (h : t ∈ terms) : Pyn 0 t := by
  rcases (terms_ok t h).2 with ⟨z, rfl, l, c⟩ | ⟨i, rfl⟩
  · exact ⟨l, fun d hd => Nat.lt_of_lt_of_le (c d hd) (by decide)⟩
  · trivial
theorem pyn_pat {p : Dat} (q : Pat p) : Pyn 1 p := by
  obtain ⟨ts, rfl, a, _⟩ := q
  intro x hx
  rcases List.mem_cons.mp hx with rfl | hx
  · exact kName.2
  · exact pyn_term (a x hx)
theorem pyn_wan {w : Dat} (q : Wan w) : Pyn 2 w := by
  obtain ⟨z, p, rfl, hz, hp⟩ := q
  intro x hx
  simp at hx
  rcases hx with rfl | rfl
  · rcases hz with rfl | rfl
    · exact some_okS.1
    · exact some_okS.2.1
  · exact pyn_pat hp
theorem pyn_dee {ts : List Dat} (pt : ∀ t ∈ ts, t ∈ terms) {d : Dat} (q : Dee (ts.filter isWord) d) : Pyn 2 d := by
  rcases q with rfl | ⟨qs, rfl, l, a⟩
  · intro x hx
    simp at hx
    rcases hx with rfl | rfl
    · exact some_okS.2.2.1
    · trivial
  · intro x hx
    simp at hx
    rcases hx with rfl | rfl
    · exact some_okS.2.2.2
    · intro y hy
      rcases List.mem_cons.mp hy with rfl | hy
      · exact kName.2
      · rcases a y hy with h | rfl | rfl
        · exact pyn_term (pt y (List.mem_filter.mp h).1)
        · trivial
        · exact b_ok
theorem pyn_seq {n : Nat} {W : Dat} {ws : List Dat} (e : seqD W = some ws) (o : ∀ w ∈ ws, Pyn n w) : Pyn (n + 1) W := by
  cases W with
  | tup xs => cases e; exact o
  | lst xs => cases e; exact o
  | _ => cases e
theorem good_parts {r : Dat} {n : Str} (g : Good r n) : ∃ W D ts Ws ds, r = .tup [.str n, W, D] ∧ seqD W = some (.tup [.str "some", .tup (.str "k" :: ts)] :: Ws) ∧ seqD D = some ds ∧ (∀ t ∈ ts, t ∈ terms) ∧ Wan (.tup [.str "some", .tup (.str "k" :: ts)]) ∧ Pyn 3 W ∧ Pyn 3 D := by
  obtain ⟨W, D, ts, Ws, ds, eq, eW, eD, pt, lt, pw, lw, pd, ld⟩ := g
  have w0 : Wan (.tup [.str "some", .tup (.str "k" :: ts)]) := ⟨_, _, rfl, .inl rfl, ts, rfl, pt, lt⟩
  exact ⟨W, D, ts, Ws, ds, eq, eW, eD, pt, w0, pyn_seq eW fun w hw => by
    rcases List.mem_cons.mp hw with rfl | hw
    · exact pyn_wan w0
    · exact pyn_wan (pw w hw), pyn_seq eD fun d hd => pyn_dee pt (pd d hd)⟩
theorem good_pyn {r : Dat} {n : Str} (g : Good r n) (on : OkS n) : Pyn 5 r := by
  obtain ⟨W, D, ts, Ws, ds, rfl, _, _, _, _, pW, pD⟩ := good_parts g
  refine pyn_up fun x hx => ?_
  simp at hx
  rcases hx with rfl | rfl | rfl
  · exact on
  · exact pW
  · exact pD
theorem cut_one (x : Dat) (xs : List Dat) : cutD (x :: xs) none (some 1) = [x] := by
  unfold cutD
  have e : HT.sIx (x :: xs).length (x :: xs).length (some 1) = min 1 (x :: xs).length := HT.sIx_nat _ _ 1
  rw [e]
  show List.take (min 1 (x :: xs).length - 0) ((x :: xs).drop 0) = [x]
  have : min 1 (x :: xs).length = 1 := by simp
  rw [this]
  rfl
/-! ### the tables -/
def someL : List Dat := [.lst [.str "k"], .tup [.str "K"], .tup [.str "k", .str "X", .int 1, .int 2, .int 3, .int 4], .tup [.str "k", .bl true], .tup [.str "k", .str "xY"], .tup [.str "k", .int 1000000000], .tup [.str "k", .lst []], .tup []]
def oddW : List Dat := [.lst [.str "some", .tup [.str "k"]], .tup [.str "some", .tup [.str "k"], .int 1], .tup [.str "any", .tup [.str "k"]], .tup [.int 5, .tup [.str "k"]], .non, .tup [.str "some"], .str "some"]
def oddD : List Dat := [.tup [.str "take", .int 1], .tup [.str "take", .int (-1)], .tup [.str "put", .lst [.str "k"]], .tup [.str "put", .tup [.str "k", .str "Q"]], .tup [.str "give", .int 0], .lst [.str "take", .int 0], .tup [.str "take", .int 0, .int 0]]
def oddE : List Dat := [.tup [.str "take", .bl true], .tup [.str "take", .int 4], .tup [.str "take", .non], .tup [.str "put", .tup [.str "K"]], .tup [.int 7, .int 0], .non, .tup [.str "put"]]
theorem okS_lit : ∀ z ∈ (["k", "K", "X", "xY", "some", "any", "none", "take", "put", "Q", "give", "A"] : List Str), z.length ≤ 100 ∧ ∀ c ∈ z.cps.toList, c < 1114112 := by decide +kernel
end K3
end

section
set_option Elab.async false
set_option linter.all false
set_option maxRecDepth 100000
set_option maxHeartbeats 4000000
/-! K3F: rules made wrong are none. -/
namespace K3
open PySem Mir L2 Cm PG LA
def okSB (z : Str) : Bool := decide (z.length ≤ 100) && z.cps.toList.all fun c => decide (c < 1114112)
mutual
def pynB : Nat → Dat → Bool
  | _, .str z => okSB z
  | _, .non => true
  | _, .bl _ => true
  | _, .int _ => true
  | n + 1, .tup xs => pynBs n xs
  | n + 1, .lst xs => pynBs n xs
  | _, _ => false
def pynBs : Nat → List Dat → Bool
  | _, [] => true
  | n, x :: xs => pynB n x && pynBs n xs
end
theorem okSB_of {z : Str} (h : okSB z = true) : OkS z := by
  unfold okSB at h
  rw [Bool.and_eq_true] at h
  exact ⟨of_decide_eq_true h.1, fun c hc => of_decide_eq_true (List.all_eq_true.mp h.2 c hc)⟩
mutual
theorem pynB_of : ∀ (n : Nat) (d : Dat), pynB n d = true → Pyn n d
  | n, .str z, h => by
    have h : okSB z = true := by cases n <;> exact h
    cases n <;> exact okSB_of h
  | n, .non, _ => by cases n <;> trivial
  | n, .bl _, _ => by cases n <;> trivial
  | n, .int _, _ => by cases n <;> trivial
  | n, .ref _, h => by cases n <;> cases h
  | n, .exn _, h => by cases n <;> cases h
  | n, .dct _ _ _, h => by cases n <;> cases h
  | 0, .tup _, h => by cases h
  | 0, .lst _, h => by cases h
  | n + 1, .tup xs, h => pynBs_of n xs h
  | n + 1, .lst xs, h => pynBs_of n xs h
theorem pynBs_of : ∀ (n : Nat) (ds : List Dat), pynBs n ds = true → ∀ d ∈ ds, Pyn n d
  | n, [], _, d, hd => nomatch hd
  | n, x :: xs, h, d, hd => by
    have h : (pynB n x && pynBs n xs) = true := h
    rw [Bool.and_eq_true] at h
    have hx := pynB_of n x h.1
    have hs := pynBs_of n xs h.2
    rcases List.mem_cons.mp hd with e | hd
    · rw [e]; exact hx
    · exact hs d hd
end
theorem someL_bad : ∀ d ∈ someL, isPattern d = false ∧ Pyn 2 d := by
  have k : (someL.all fun d => !isPattern d && pynB 2 d) = true := by decide +kernel
  intro d hd
  have := List.all_eq_true.mp k d hd
  rw [Bool.and_eq_true, Bool.not_eq_true'] at this
  exact ⟨this.1, pynB_of 2 d this.2⟩
theorem oddW_bad : ∀ d ∈ oddW, isWant d = false ∧ Pyn 3 d := by
  have k : (oddW.all fun d => !isWant d && pynB 3 d) = true := by decide +kernel
  intro d hd
  have := List.all_eq_true.mp k d hd
  rw [Bool.and_eq_true, Bool.not_eq_true'] at this
  exact ⟨this.1, pynB_of 3 d this.2⟩
def noneW : Dat := .tup [.str "none", .tup [.str "k", .str "Q"]]
theorem odd_pyn : ∀ d, d ∈ oddD ∨ d ∈ oddE → Pyn 3 d := by
  have k : ((oddD ++ oddE).all fun d => pynB 3 d) = true := by decide +kernel
  intro d hd
  exact pynB_of 3 d (List.all_eq_true.mp k d (List.mem_append.mpr hd))
theorem noneW_ok : isWant noneW = true ∧ Pyn 2 noneW ∧ isSomeW noneW = false ∧ wordsW noneW = [] := by
  have k : (isWant noneW && pynB 2 noneW && !isSomeW noneW && (wordsW noneW).isEmpty) = true := by decide +kernel
  rw [Bool.and_eq_true, Bool.and_eq_true, Bool.and_eq_true, Bool.not_eq_true'] at k
  exact ⟨k.1.1.1, pynB_of 2 _ k.1.1.2, k.1.2, List.isEmpty_iff.mp k.2⟩
theorem q_no : Dat.str "Q" ∉ terms := by
  have k : (terms.all fun t => !decide (t = Dat.str "Q")) = true := by decide +kernel
  intro h
  have := List.all_eq_true.mp k _ h
  simp at this
theorem lits : decide (("put" : Str) = "take") = false ∧ decide (("give" : Str) = "take") = false ∧ decide (("give" : Str) = "put") = false ∧ isPattern (.lst [.str "k"]) = false ∧ isPattern (.tup [.str "K"]) = false ∧ isWord (.str "Q") = true := by decide +kernel
theorem odd_bad {ts : List Dat} (pt : ∀ t ∈ ts, t ∈ terms) : ∀ d, d ∈ oddD ∨ d ∈ oddE → isDeed [.tup [.str "some", .tup (.str "k" :: ts)], noneW, .tup [.str "some", .tup (.str "k" :: ts)]] d = false := by
  have nt : ¬ (("put" : Str) = "take") := of_decide_eq_false lits.1
  have ng : ¬ (("give" : Str) = "take") := of_decide_eq_false lits.2.1
  have ng2 := lits.2.2.1
  have tk : ∀ ws x, isDeed ws (.tup [.str "take", x]) = takeOk ws x := fun ws x => by rw [isDeed_eq, if_pos rfl]
  have pu : ∀ ws x, isDeed ws (.tup [.str "put", x]) = (isPattern x && putOk ws x) := fun ws x => by rw [isDeed_eq, if_neg nt, decide_eq_true rfl, Bool.true_and]
  intro d hd
  rcases hd with hd | hd
  · simp [oddD] at hd
    rcases hd with rfl | rfl | rfl | rfl | rfl | rfl | rfl
    · rw [tk]
      have e : takeOk [.tup [.str "some", .tup (.str "k" :: ts)], noneW, .tup [.str "some", .tup (.str "k" :: ts)]] (.int 1) = (decide (0 ≤ (1 : Int) ∧ (1 : Int) < 3) && isSomeW noneW) := rfl
      rw [e, noneW_ok.2.2.1, Bool.and_false]
    · rw [tk]; exact takeOk_no fun h => absurd h.1 (by decide)
    · rw [pu, lits.2.2.2.1]; rfl
    · rw [pu]
      have e : putOk [.tup [.str "some", .tup (.str "k" :: ts)], noneW, .tup [.str "some", .tup (.str "k" :: ts)]] (.tup [.str "k", .str "Q"]) = false := by
        show (([Dat.str "Q"].filter isWord).all fun t => decide (t ∈ PG.wordsOf _)) = false
        have ef : [Dat.str "Q"].filter isWord = [Dat.str "Q"] := by simp [lits.2.2.2.2.2]
        rw [ef]
        have nm : Dat.str "Q" ∉ PG.wordsOf [.tup [.str "some", .tup (.str "k" :: ts)], noneW, .tup [.str "some", .tup (.str "k" :: ts)]] := by
          unfold PG.wordsOf
          rw [List.flatMap_cons, List.flatMap_cons, List.flatMap_cons, noneW_ok.2.2.2, wordsW_eq, if_pos rfl]
          intro h
          simp at h
          exact q_no (pt _ h.1)
        simp [nm]
      rw [e, Bool.and_false]
    · rw [isDeed_eq, if_neg ng, ng2]; rfl
    · rfl
    · rfl
  · simp [oddE] at hd
    rcases hd with rfl | rfl | rfl | rfl | rfl | rfl | rfl
    · rw [tk]; rfl
    · rw [tk]; exact takeOk_no fun h => absurd h.2 (show ¬ ((4 : Int) < 3) by decide)
    · rw [tk]; rfl
    · rw [pu, lits.2.2.2.2.1]; rfl
    · rfl
    · rfl
    · rfl
theorem noRule_W {n : Str} {W D : Dat} (h : areWants W = false) : isRule (.tup [.str n, W, D]) = false := by
  show (isNameS n && (areWants W && deedsOk W D)) = false
  rw [h]
  simp
theorem noRule_D {n : Str} {W D : Dat} {ws ds : List Dat} (e1 : seqD W = some ws) (e2 : seqD D = some ds) {d : Dat} (hd : d ∈ ds) (h : isDeed ws d = false) : isRule (.tup [.str n, W, D]) = false := by
  show (isNameS n && (areWants W && deedsOk W D)) = false
  have : deedsOk W D = false := by
    unfold deedsOk
    rw [e1, e2]
    simp only
    have : ds.all (isDeed ws) = false := List.all_eq_false.mpr ⟨d, hd, by rw [h]; exact Bool.false_ne_true⟩
    rw [this, Bool.and_false]
  rw [this]
  simp
theorem noWants {W : Dat} {ws : List Dat} (e : seqD W = some ws) {w : Dat} (hw : w ∈ ws) (h : isWant w = false) : areWants W = false := by
  rw [areWants_eq e]
  have : ws.all isWant = false := List.all_eq_false.mpr ⟨w, hw, by rw [h]; exact Bool.false_ne_true⟩
  rw [this]
  simp
end K3
end

section
set_option Elab.async false
set_option linter.all false
set_option maxRecDepth 100000
set_option maxHeartbeats 4000000
/-! K3G: the law's wrong rules; refusing. -/
namespace K3
open PySem Mir L2 Cm PG LA
theorem sl_one {W : Dat} {w : Dat} {ws : List Dat} (e : seqD W = some (w :: ws)) (h : Hm) : ∃ S, seqD S = some [w] ∧ slD W none (some 1) h = .val S h := by
  cases W with
  | tup xs => cases e; exact ⟨.tup [w], rfl, by show Res.val (Dat.tup (cutD (w :: ws) none (some 1))) h = _; rw [cut_one]⟩
  | lst xs => cases e; exact ⟨.lst [w], rfl, by show Res.val (Dat.lst (cutD (w :: ws) none (some 1))) h = _; rw [cut_one]⟩
  | _ => cases e
theorem sl_lst (w : Dat) (ws : List Dat) (h : Hm) : slD (.lst (w :: ws)) none (some 1) h = .val (.lst [w]) h := by
  show Res.val (Dat.lst (cutD (w :: ws) none (some 1))) h = _
  rw [cut_one]
theorem eq_wrong {r : Dat} {n : Str} (g : Good r n) (on : OkS n) (way : Int) (h0 : 0 ≤ way) (h30 : way < 30) (h : Hm) : ∃ r', f__law_wrong [r, .int way] h = .val r' h ∧ isRule r' = false ∧ Pyn 5 r' := by
  obtain ⟨W, D, ts, Ws, ds, rfl, eW, eD, pt, w0, pW, pD⟩ := good_parts g
  have pw0 := pyn_wan w0
  generalize hw : Dat.tup [.str "some", .tup (.str "k" :: ts)] = w at *
  have sW := sd_seq (seqD_src eW h).2
  have sl := sl_lst w Ws h
  have z3 : 3 ≤ sizeLine := by decide
  have z2 : 2 ≤ sizeLine := by decide
  have l1 : ∀ (xs : List Dat) (h : Hm), Mir.listOf (.lst xs) h = .val xs h := fun _ _ => rfl
  have m1 : seqD (.lst [w, noneW, w]) = some [w, noneW, w] := rfl
  have en : (Dat.tup [.str (Str.ofString "none"), .tup [.str (Str.ofString "k"), .str (Str.ofString "Q")]]) = noneW := rfl
  by_cases c8 : way < 8
  · obtain ⟨d, hd, ed⟩ := at_in someL h0 (by show way < 8; exact c8)
    obtain ⟨b1, b2⟩ := someL_bad d hd
    have ix := sd_ix (lst_sd (xs := someL) (h := h)) ed
    have T : someL = [.lst [.str (Str.ofString "k")], .tup [.str (Str.ofString "K")], .tup [.str (Str.ofString "k"), .str (Str.ofString "X"), .int 1, .int 2, .int 3, .int 4], .tup [.str (Str.ofString "k"), .bl true], .tup [.str (Str.ofString "k"), .str (Str.ofString "xY")], .tup [.str (Str.ofString "k"), .int 1000000000], .tup [.str (Str.ofString "k"), .lst []], .tup []] := rfl
    rw [T] at ix
    have nw : isWant (.tup [.str "some", d]) = false := by
      show ((decide (("some" : Str) = "some") || decide (("some" : Str) = "none")) && isPattern d) = false
      rw [b1, Bool.and_false]
    refine ⟨.tup [.str n, .lst [w, .tup [.str "some", d]], .lst []], ?_, noRule_W (noWants (w := .tup [.str "some", d]) rfl (by simp) nw), ?_⟩
    · simp [-ixSq, -slD, -Mir.seqOf, -Mir.listOf, f__law_wrong, m__law_wrong, c8, sW, sl, ix, z3, z2, l1]
    · intro x hx
      simp at hx
      rcases hx with rfl | rfl | rfl
      · exact on
      · intro y hy
        simp at hy
        rcases hy with rfl | rfl
        · exact pyn_up pw0
        · intro z hz
          simp at hz
          rcases hz with rfl | rfl
          · exact some_okS.1
          · exact b2
      · exact fun _ hy => nomatch hy
  · by_cases c22 : 22 < way
    · obtain ⟨d, hd, ed⟩ := at_in oddW (i := way - 23) (by omega) (by show way - 23 < 7; omega)
      obtain ⟨b1, b2⟩ := oddW_bad d hd
      have ix := sd_ix (lst_sd (xs := oddW) (h := h)) ed
      have T : oddW = [.lst [.str (Str.ofString "some"), .tup [.str (Str.ofString "k")]], .tup [.str (Str.ofString "some"), .tup [.str (Str.ofString "k")], .int 1], .tup [.str (Str.ofString "any"), .tup [.str (Str.ofString "k")]], .tup [.int 5, .tup [.str (Str.ofString "k")]], .non, .tup [.str (Str.ofString "some")], .str (Str.ofString "some")] := rfl
      rw [T] at ix
      refine ⟨.tup [.str n, .lst [w, d], .lst []], ?_, noRule_W (noWants (w := d) rfl (by simp) b1), ?_⟩
      · simp [-ixSq, -slD, -Mir.seqOf, -Mir.listOf, f__law_wrong, m__law_wrong, c8, c22, sW, sl, ix, z3, z2, l1]
      · intro x hx
        simp at hx
        rcases hx with rfl | rfl | rfl
        · exact on
        · intro y hy
          simp at hy
          rcases hy with rfl | rfl
          · exact pyn_up pw0
          · exact b2
        · exact fun _ hy => nomatch hy
    · by_cases c15 : way < 15
      · have b3 := fun d hd => odd_bad pt d hd
        rw [hw] at b3
        have key : ∀ d, (d ∈ oddD ∨ d ∈ oddE) → isRule (.tup [.str n, .lst [w, noneW, w], .lst [d]]) = false ∧ Pyn 5 (.tup [.str n, .lst [w, noneW, w], .lst [d]]) := fun d hd => by
          refine ⟨noRule_D m1 (ds := [d]) rfl (by simp) (b3 d hd), ?_⟩
          intro x hx
          simp at hx
          rcases hx with rfl | rfl | rfl
          · exact on
          · intro y hy
            simp at hy
            rcases hy with rfl | rfl | rfl
            · exact pyn_up pw0
            · exact pyn_up noneW_ok.2.1
            · exact pyn_up pw0
          · intro y hy
            simp at hy
            subst hy
            exact odd_pyn _ hd
        have ml := mod_in (n.length : Int) 2 (by decide)
        have nl : n.length ≤ sizeLine := len_line on
        have e1 := eqJ ((n.length : Int) % 2) 1 h
        have zz : 1 + 1 + 1 ≤ sizeLine := by decide
        by_cases q : (n.length : Int) % 2 = 1
        · rw [decide_eq_true q] at e1
          obtain ⟨d, hd, ed⟩ := at_in oddE (i := way - 8) (by omega) (by show way - 8 < 7; omega)
          have ix := sd_ix (lst_sd (xs := oddE) (h := h)) ed
          have T : oddE = [.tup [.str (Str.ofString "take"), .bl true], .tup [.str (Str.ofString "take"), .int 4], .tup [.str (Str.ofString "take"), .non], .tup [.str (Str.ofString "put"), .tup [.str (Str.ofString "K")]], .tup [.int 7, .int 0], .non, .tup [.str (Str.ofString "put")]] := rfl
          rw [T] at ix
          refine ⟨_, ?_, key d (.inr hd)⟩
          simp [-ixSq, -slD, -Mir.seqOf, -Mir.listOf, f__law_wrong, m__law_wrong, c8, c22, c15, sW, sl, ix, z3, z2, l1, e1, nl, en, zz]
        · rw [decide_eq_false q] at e1
          obtain ⟨d, hd, ed⟩ := at_in oddD (i := way - 8) (by omega) (by show way - 8 < 7; omega)
          have ix := sd_ix (lst_sd (xs := oddD) (h := h)) ed
          have T : oddD = [.tup [.str (Str.ofString "take"), .int 1], .tup [.str (Str.ofString "take"), .int (-1)], .tup [.str (Str.ofString "put"), .lst [.str (Str.ofString "k")]], .tup [.str (Str.ofString "put"), .tup [.str (Str.ofString "k"), .str (Str.ofString "Q")]], .tup [.str (Str.ofString "give"), .int 0], .lst [.str (Str.ofString "take"), .int 0], .tup [.str (Str.ofString "take"), .int 0, .int 0]] := rfl
          rw [T] at ix
          refine ⟨_, ?_, key d (.inl hd)⟩
          simp [-ixSq, -slD, -Mir.seqOf, -Mir.listOf, f__law_wrong, m__law_wrong, c8, c22, c15, sW, sl, ix, z3, z2, l1, e1, nl, en, zz]
      · obtain ⟨S, eS, es⟩ := sl_one eW h
        have sS := sd_seq (seqD_src eS h).2
        have pS : Pyn 3 S := pyn_seq eS fun x hx => by rw [List.mem_singleton.mp hx]; exact pw0
        have tk : Pyn 2 (.tup [.str "take", .int 0]) := pynB_of 2 _ (by decide +kernel)
        let T : List Dat := [.tup [.str n, .lst [noneW], .lst []], .tup [.str n, .lst [], .lst []], .tup [.str n, .lst [w, w, w, w, w], .lst []], .tup [.str n, S, .lst [.tup [.str "take", .int 0], .tup [.str "take", .int 0], .tup [.str "take", .int 0], .tup [.str "take", .int 0], .tup [.str "take", .int 0]]],
          .tup [.str "A", W, D], .lst [.str n, W, D], .tup [.str n, W], .tup [.str n, W, .non]]
        have bad : ∀ d ∈ T, isRule d = false ∧ Pyn 5 d := fun d hd => by
          have p3 : ∀ {a b c : Dat}, Pyn 4 a → Pyn 4 b → Pyn 4 c → Pyn 5 (.tup [a, b, c]) := fun ha hb hc x hx => by
            simp at hx
            rcases hx with rfl | rfl | rfl
            · exact ha
            · exact hb
            · exact hc
          have e0 : Pyn 4 (.lst []) := fun _ hx => nomatch hx
          simp [T] at hd
          rcases hd with rfl | rfl | rfl | rfl | rfl | rfl | rfl | rfl
          · refine ⟨noRule_W ?_, p3 on (fun x hx => by rw [List.mem_singleton.mp hx]; exact pyn_up noneW_ok.2.1) e0⟩
            rw [areWants_eq (ws := [noneW]) rfl]
            have : headSome [noneW] = false := noneW_ok.2.2.1
            rw [this]; simp
          · exact ⟨noRule_W rfl, p3 on e0 e0⟩
          · refine ⟨noRule_W rfl, p3 on (fun x hx => by
              simp at hx
              subst hx
              exact pyn_up pw0) e0⟩
          · refine ⟨?_, p3 on (pyn_up pS) (fun x hx => by
              simp at hx
              subst hx
              exact pyn_up tk)⟩
            show (isNameS n && (areWants S && deedsOk S _)) = false
            have : deedsOk S (.lst [.tup [.str "take", .int 0], .tup [.str "take", .int 0], .tup [.str "take", .int 0], .tup [.str "take", .int 0], .tup [.str "take", .int 0]]) = false := by
              unfold deedsOk
              rw [eS]
              rfl
            rw [this]; simp
          · refine ⟨?_, p3 (pynB_of 4 _ (by decide +kernel)) (pyn_up pW) (pyn_up pD)⟩
            show (isNameS "A" && (areWants W && deedsOk W D)) = false
            have : isNameS "A" = false := by decide +kernel
            rw [this]; rfl
          · refine ⟨rfl, fun x hx => ?_⟩
            simp at hx
            rcases hx with rfl | rfl | rfl
            · exact on
            · exact pyn_up pW
            · exact pyn_up pD
          · refine ⟨rfl, fun x hx => ?_⟩
            simp at hx
            rcases hx with rfl | rfl
            · exact on
            · exact pyn_up pW
          · refine ⟨?_, p3 on (pyn_up pW) trivial⟩
            show (isNameS n && (areWants W && deedsOk W .non)) = false
            have : deedsOk W .non = false := by unfold deedsOk; rw [eW]; rfl
            rw [this]; simp
        obtain ⟨d, hd, ed⟩ := at_in T (i := way - 15) (by omega) (by show way - 15 < 8; omega)
        have ix := sd_ix (lst_sd (xs := T) (h := h)) ed
        refine ⟨d, ?_, bad d hd⟩
        have rp : ∀ (x : Dat) (h : Hm), repM [x] 5 h = .val [x, x, x, x, x] h := fun x h => by
          have c : (-(2 ^ 63) ≤ (5 : Int) ∧ (5 : Int) < 2 ^ 63) ∧ [x].length * (5 : Int).toNat ≤ sizeLine := ⟨⟨by decide, by decide⟩, (show 5 ≤ sizeLine by decide)⟩
          unfold repM
          rw [if_pos c]
          rfl
        have z8 : 4 + 4 ≤ sizeLine := by decide
        simp [-ixSq, -slD, -Mir.seqOf, -Mir.listOf, f__law_wrong, m__law_wrong, c8, c22, c15, sW, sl, z3, z2, l1, en, es, sS, mRep, rp]
        exact (congrArg (fun r => Res.bind (Res.bind r _) _) ix).trans rfl
end K3
end

section
set_option Elab.async false
set_option linter.all false
set_option maxRecDepth 100000
set_option maxHeartbeats 4000000
/-! K3H: refusing; need_rules by its rules. -/
namespace K3
open PySem Mir L2 Cm PG LA
theorem mh_val (a : Addr) (h : Hm) : mh__law_refused_BadRule a ((blank 4).set 2 (some (.exn a))) h = .val (.rt (.bl true)) h := by
  have e : ((blank 4).set 2 (some (.exn a)) : Env') = [none, none, some (.exn a), none] := rfl
  rw [e]
  simp [mh__law_refused_BadRule, mIsE, in4]
theorem hpar__law_refused_BadRule (a : Addr) (h : Hm) : mh__law_refused_BadRule a ((blank 4).set 2 (some (.exn a))) h = mh__law_refused_BadRule 0 ((blank 4).set 2 (some (.exn 0))) h := by
  rw [mh_val, mh_val]
def tryB : Ms := (mIfS (mCmpT cEqD (mVar 1) (mC (.int 0))) (mDrop (mCall PG.f_need_rulesc (mCons (mVar 0) (mNil)))) (mIfS (mCmpT cEqD (mVar 1) (mC (.int 1))) (mDrop (mMake "Weave" f_Weave___init__ (mCons (mVar 0) (mNil)))) (mDrop (mMake "Engine" f_Engine___init__ (mCons (mVar 0) (mNil))))))
theorem weave_exc {R S : Dat} {h : Hm} (e : PG.f_need_rulesc [R] h = .exc "BadRule" h) : f_Weave___init__ [S, R] h = .exc "BadRule" h := by
  simp [f_Weave___init__, m_Weave___init__, mSetFld, e]
theorem make_exc {R S : Dat} {h : Hm} {c : Str} {ρ : Env'} {f : List Dat → Mo Dat} {ms : Ml} (em : ms ρ h = .val [R] h) (e : f [.ref h.length, R] (h ++ [.ins c []]) = .exc "BadRule" (h ++ [.ins c []])) : mMake c f ms ρ h = .exc "BadRule" (h ++ [.ins c []]) := by
  show (ms ρ >>= fun xs => alloc (.ins c []) >>= fun s => f (s :: xs) >>= fun r => isNonM r s) h = _
  rw [mo_bind, em, rb_val, mo_bind]
  show (Res.val (Dat.ref h.length) (h ++ [.ins c []])).bind _ = _
  rw [rb_val, mo_bind, e]
  rfl
theorem eq_refused {R : Dat} {rs : List Dat} {h : Hm} (l : LD R rs h) (ok : ∀ r ∈ rs, Okn 4 r) (bad : needR rs [] = none) (s : Int) : ∃ t, f__law_refused [R, .int s] h = .val (.bl true) (h ++ t) := by
  have e : ∀ t : Hm, PG.f_need_rulesc [R] (h ++ t) = .exc "BadRule" (h ++ t) := fun t => by
    have := eq_need_rules (ld_more l t) ok
    rw [bad] at this
    exact this
  have e0 : PG.f_need_rulesc [R] h = .exc "BadRule" h := by
    have := e []
    rw [List.append_nil] at this
    exact this
  have i0 := eqJ s 0 h
  have i1 := eqJ s 1 h
  have tb : ∃ t, tryB [some R, some (.int s), none, none] h = .exc "BadRule" (h ++ t) := by
    by_cases q0 : s = 0
    · rw [decide_eq_true q0] at i0
      exact ⟨[], by rw [List.append_nil]; simp [tryB, i0, e0]⟩
    · rw [decide_eq_false q0] at i0
      have em : mCons (mVar 0) mNil [some R, some (.int s), none, none] h = .val [R] h := by simp
      by_cases q1 : s = 1
      · rw [decide_eq_true q1] at i1
        have mk := make_exc (S := R) (c := "Weave") em (weave_exc (S := .ref h.length) (e [.ins "Weave" []]))
        exact ⟨[.ins "Weave" []], by simp [-mCons, tryB, i0, i1, mk]⟩
      · rw [decide_eq_false q1] at i1
        have em2 : mCons (mVar 1) mNil [some (.ref h.length), some R] (h ++ [.ins "Engine" []]) = .val [R] (h ++ [.ins "Engine" []]) := by simp
        have e2 : PG.f_need_rulesc [R] (h ++ [.ins "Engine" []] ++ [.ins "Weave" []]) = .exc "BadRule" (h ++ [.ins "Engine" []] ++ [.ins "Weave" []]) := by
          rw [List.append_assoc]; exact e _
        have mk2 := make_exc (S := R) (c := "Weave") em2 (weave_exc (S := .ref (h ++ [Cell.ins "Engine" []]).length) e2)
        have en : f_Engine___init__ [.ref h.length, R] (h ++ [.ins "Engine" []]) = .exc "BadRule" (h ++ [.ins "Engine" []] ++ [.ins "Weave" []]) := by
          refine run_exc (mseq_exc ?_)
          show (mMake "Weave" f_Weave___init__ (mCons (mVar 1) mNil) _ >>= _) _ = _
          rw [mo_bind]
          have mk2' : mMake "Weave" f_Weave___init__ (mCons (mVar 1) mNil) (startE 2 [.ref h.length, R]) (h ++ [.ins "Engine" []]) = _ := mk2
          rw [mk2']
          rfl
        refine ⟨[.ins "Engine" [], .ins "Weave" []], ?_⟩
        have mk : mMake "Engine" f_Engine___init__ (mCons (mVar 0) mNil) [some R, some (.int s), none, none] h = .exc "BadRule" (h ++ [.ins "Engine" [], .ins "Weave" []]) := by
          show (mCons (mVar 0) mNil [some R, some (.int s), none, none] >>= fun xs => alloc (.ins "Engine" []) >>= fun s => f_Engine___init__ (s :: xs) >>= fun r => isNonM r s) h = _
          rw [mo_bind, em, rb_val, mo_bind]
          show (Res.val (Dat.ref h.length) (h ++ [.ins "Engine" []])).bind _ = _
          rw [rb_val, mo_bind, en, List.append_assoc]
          rfl
        simp [-mCons, tryB, i0, i1, mk]
  obtain ⟨t, tb⟩ := tb
  have lk : List.lookup (Str.ofString "BadRule") hs__law_refused = some mh__law_refused_BadRule := by simp [hs__law_refused, List.lookup]
  have tr : mTry 4 2 hs__law_refused tryB [some R, some (.int s), none, none] h = .val (.rt (.bl true)) (h ++ t) := by
    unfold mTry
    rw [tb]
    simp only [lk]
    rw [mo_bind, noX_val (mh_val 0 _)]
    rfl
  have em : m__law_refused = mSeq (mTry 4 2 hs__law_refused tryB) (mRet (mC (.bl false))) := rfl
  refine ⟨t, run_rt (m := m__law_refused) ?_⟩
  rw [em]
  exact mseq_rt tr
/-! ### need_rules -/
theorem needR_inv : ∀ {rs : List Dat} {fs out : List Rul}, needR rs fs = some out → fs.length ≤ 10 → (fs.map (·.1)).Nodup → ∃ ts, out = fs ++ ts ∧ rs.map ruleT = ts.map some ∧ out.length ≤ 10 ∧ (out.map (·.1)).Nodup
  | [], fs, out, e, l, nd => by
    cases e
    exact ⟨[], by simp, rfl, l, nd⟩
  | r :: rs, fs, out, e, l, nd => by
    unfold needR at e
    split at e
    · cases e
    · rename_i c
      split at e
      · rename_i t et
        split at e
        · cases e
        · rename_i m
          obtain ⟨ts, e1, e2, e3, e4⟩ := needR_inv e (by rw [List.length_append]; show fs.length + 1 ≤ 10; omega) (by
            rw [List.map_append, List.nodup_append]
            refine ⟨nd, by simp, fun a ha b hb q => ?_⟩
            have : b = t.1 := by simpa using hb
            subst q this
            exact m ha)
          exact ⟨t :: ts, by rw [e1, List.append_assoc]; rfl, by rw [List.map_cons, List.map_cons, et, e2], e3, e4⟩
      · cases e
theorem needR_good : ∀ {rs : List Dat} {fs ts : List Rul}, rs.map ruleT = ts.map some → fs.length + ts.length ≤ 10 → ((fs ++ ts).map (·.1)).Nodup → needR rs fs = some (fs ++ ts)
  | [], fs, ts, e, _, _ => by
    have : ts = [] := by cases ts with
      | nil => rfl
      | cons t ts => cases e
    subst this
    rw [List.append_nil]
    rfl
  | r :: rs, fs, [], e, _, _ => by cases e
  | r :: rs, fs, t :: ts, e, l, nd => by
    rw [List.map_cons, List.map_cons] at e
    injection e with e1 e2
    have l : fs.length + (ts.length + 1) ≤ 10 := l
    have m : t.1 ∉ fs.map (·.1) := fun q => by
      rw [List.map_append, List.nodup_append] at nd
      exact nd.2.2 _ q _ (by simp) rfl
    unfold needR
    rw [if_neg (by omega), e1]
    simp only
    rw [if_neg m, needR_good (fs := fs ++ [t]) e2 (by rw [List.length_append]; show fs.length + 1 + ts.length ≤ 10; omega) (by rw [List.append_assoc]; exact nd), List.append_assoc]
    rfl
end K3
end

section
set_option Elab.async false
set_option linter.all false
set_option maxRecDepth 100000
set_option maxHeartbeats 4000000
/-! K3I: the law. -/
namespace K3
open PySem Mir L2 Cm PG LA
def st0 : Ms := (mSet 1 (mCall LA.f__law_at (mCons (mVar 0) (mCons (mC (.int 0)) (mNil)))))
def st1 : Ms := (mSet 2 (mBin aAdd (mC (.int 1)) (mBin aMod (mCall LA.f__law_at (mCons (mVar 0) (mCons (mC (.int 1)) (mNil)))) (mC (.int 4)))))
def st2 : Ms := (mIfS (mCmpT cEqD (mBin aMod (mBin aDiv (mCall LA.f__law_at (mCons (mVar 0) (mCons (mC (.int 1)) (mNil)))) (mC (.int 4))) (mC (.int 5))) (mC (.int 1))) (mSet 2 (mBin aAdd (mC (.int 9)) (mBin aMod (mBin aDiv (mCall LA.f__law_at (mCons (mVar 0) (mCons (mC (.int 1)) (mNil)))) (mC (.int 20))) (mC (.int 3))))) (mNext))
def st3 : Ms := (mSetC 3 (mLc (mSrcA rng1 (mCons (mVar 2) (mNil))) [9] (bName 9) mYes (mCall f__law_rule (mCons (mVar 1) (mCons (mVar 9) (mCons (mBin aAdd (mBin aMod (mBin aMul (mCall LA.f__law_at (mCons (mVar 0) (mCons (mBin aAdd (mC (.int 4)) (mBin aMod (mVar 9) (mC (.int 6)))) (mNil)))) (mC (.int 48271))) (mC (.int 10007))) (mVar 9)) (mNil)))))))
def st4 : Ms := (mSet 4 (mBin aMod (mBin aMod (mBin aMul (mCall LA.f__law_at (mCons (mVar 0) (mCons (mC (.int 2)) (mNil)))) (mC (.int 48271))) (mC (.int 10007))) (mC (.int 38))))
def st5 : Ms := (mIfS (mCmpT cEqD (mVar 2) (mC (.int 11))) (mSet 4 (mC (.int 37))) (mNext))
def st6 : Ms := (mSet 5 (mBin aMod (mCall LA.f__law_at (mCons (mVar 0) (mCons (mC (.int 3)) (mNil)))) (mVar 2)))
def st7 : Ms := (mSet 6 (mCmp cLt (mVar 2) (mC (.int 11))))
def st8 : Ms := (mIfS (mCmpT cLt (mVar 4) (mC (.int 30))) (mSeq (mPutL (mVar 3) (mVar 5) (mCall f__law_wrong (mCons (mIx (mVar 3) (mVar 5)) (mCons (mVar 4) (mNil))))) (mSet 6 (mC (.bl false)))) (mIfS (mAndT (mCmpT cLt (mVar 4) (mC (.int 32))) (mCmpT cGt (mVar 2) (mC (.int 1)))) (mSeq (mSet 10 (mBin aMod (mBin aAdd (mBin aAdd (mVar 5) (mC (.int 1))) (mBin aMod (mBin aDiv (mCall LA.f__law_at (mCons (mVar 0) (mCons (mC (.int 3)) (mNil)))) (mVar 2)) (mBin aSub (mVar 2) (mC (.int 1))))) (mVar 2))) (mSeq (mPutL (mVar 3) (mVar 5) (mTup (mCons (mIx (mIx (mVar 3) (mVar 10)) (mC (.int 0))) (mCons (mIx (mIx (mVar 3) (mVar 5)) (mC (.int 1))) (mCons (mIx (mIx (mVar 3) (mVar 5)) (mC (.int 2))) (mNil)))))) (mSet 6 (mC (.bl false))))) (mNext)))
def st9 : Ms := (mSet 7 (mFz (mListD (mVar 3))))
def st10 : Ms := (mIfS (mCmpT cNeD (mFz (mSized (mCons (mC (.int 10)) (mCons (mC (.int 4)) (mCons (mC (.int 4)) (mNil)))))) (mFz (mSized (mCons (mC (.int 10)) (mCons (mC (.int 4)) (mCons (mC (.int 4)) (mNil))))))) (mRet (mC (.bl false))) (mNext))
def st11 : Ms := (mIfS (mNotT (mTest (mVar 6))) (mRet (mAndV (mCall f__law_refused (mCons (mVar 3) (mCons (mBin aMod (mCall LA.f__law_at (mCons (mVar 0) (mCons (mC (.int 3)) (mNil)))) (mC (.int 3))) (mNil)))) (mCmp cEqD (mVar 3) (mVar 7)))) (mNext))
def st12 : Ms := (mSet 8 (mCall PG.f_need_rulesc (mCons (mVar 3) (mNil))))
def st13 : Ms := (mIfS (mOrT (mNotT (mTest (mUn (isD "list") (mVar 8)))) (mCmpT cNeD (mVar 3) (mVar 7))) (mRet (mC (.bl false))) (mNext))
def st14 : Ms := (mRet (mCmp cEqD (mVar 8) (mFz (mLc (mSrc (mVar 3)) [11] (bName 11) mYes (mTup (mCons (mIx (mVar 11) (mC (.int 0))) (mCons (mUn tupD (mIx (mVar 11) (mC (.int 1)))) (mCons (mUn tupD (mIx (mVar 11) (mC (.int 2)))) (mNil)))))))))
theorem st_all : m_law = mSeq st0 (mSeq st1 (mSeq st2 (mSeq st3 (mSeq st4 (mSeq st5 (mSeq st6 (mSeq st7 (mSeq st8 (mSeq st9 (mSeq st10 (mSeq st11 (mSeq st12 (mSeq st13 (st14)))))))))))))) := rfl

/-- rules of these names -/
def GoodL (rs : List Dat) (nm : Nat → Str) : Prop := ∀ (k : Nat) (r : Dat), rs[k]? = some r → Nonempty (Good r (nm k)) ∧ isNameS (nm k) = true ∧ OkS (nm k)
theorem goodL_ok {rs : List Dat} {nm : Nat → Str} (g : GoodL rs nm) : ∀ r ∈ rs, Okn 4 r ∧ Pyn 5 r ∧ ∃ t, ruleT r = some t := fun r hr => by
  obtain ⟨k, hk⟩ := List.getElem?_of_mem hr
  obtain ⟨⟨g⟩, n1, n2⟩ := g k r hk
  obtain ⟨a, b, c⟩ := good_ok g n2 n1
  exact ⟨b, good_pyn g n2, _, c⟩
theorem goodL_name {rs : List Dat} {nm : Nat → Str} (g : GoodL rs nm) {ts : List Rul} (e : rs.map ruleT = ts.map some) : ∀ k, k < rs.length → (ts.map (·.1))[k]? = some (nm k) := fun k hk => by
  obtain ⟨⟨gd⟩, n1, n2⟩ := g k _ (List.getElem?_eq_getElem hk)
  obtain ⟨_, _, c⟩ := good_ok gd n2 n1
  have e1 : (rs.map ruleT)[k]? = (ts.map some)[k]? := by rw [e]
  rw [List.getElem?_map, List.getElem?_map, List.getElem?_eq_getElem hk] at e1
  rw [List.getElem?_map]
  cases q : ts[k]? with
  | none => rw [q] at e1; cases e1
  | some t =>
    rw [q] at e1
    have e1 : some (ruleT rs[k]) = some (some t) := e1
    rw [c] at e1
    cases e1
    rfl
theorem map_len {rs : List Dat} {ts : List Rul} (e : rs.map ruleT = ts.map some) : rs.length = ts.length := by
  have := congrArg List.length e
  simpa using this
/-- two of one name are refused -/
theorem dup_bad {rs : List Dat} {nm : Nat → Str} (g : GoodL rs nm) {i j : Nat} (hi : i < rs.length) (hj : j < rs.length) (ne : i ≠ j) (e : nm i = nm j) : needR rs [] = none := by
  cases q : needR rs [] with
  | none => rfl
  | some out =>
    obtain ⟨ts, e1, e2, e3, e4⟩ := needR_inv q (Nat.zero_le _) List.nodup_nil
    have e1 : out = ts := e1
    subst e1
    have a := goodL_name g e2 i hi
    have b := goodL_name g e2 j hj
    rw [← e] at b
    exact absurd ((List.getElem?_inj (by rw [List.length_map, ← map_len e2]; exact hi) e4).mp (a.trans b.symm)) ne
theorem many_bad {rs : List Dat} (h : 10 < rs.length) : needR rs [] = none := by
  cases q : needR rs [] with
  | none => rfl
  | some out =>
    obtain ⟨ts, e1, e2, e3, e4⟩ := needR_inv q (Nat.zero_le _) List.nodup_nil
    have e1 : out = ts := e1
    subst e1
    have := map_len e2
    omega
theorem one_bad {rs : List Dat} {r : Dat} (hr : r ∈ rs) (h : isRule r = false) : needR rs [] = none := by
  cases q : needR rs [] with
  | none => rfl
  | some out =>
    obtain ⟨ts, e1, e2, e3, e4⟩ := needR_inv q (Nat.zero_le _) List.nodup_nil
    have : none ∈ rs.map ruleT := List.mem_map.mpr ⟨r, hr, ruleT_none h⟩
    rw [e2] at this
    obtain ⟨t, _, z⟩ := List.mem_map.mp this
    cases z
theorem pyn_le {n m : Nat} (h : n ≤ m) {d : Dat} (p : Pyn n d) : Pyn m d := by
  induction h with
  | refl => exact p
  | step _ ih => exact pyn_up ih
/-- a list and its copy -/
theorem eq_kept {rs : List Dat} (p : ∀ r ∈ rs, Pyn 5 r) (h : Hm) (e : h[0]? = some (.lst rs)) : cEqD (.ref 0) (.lst rs) h = .val true h ∧ cNeD (.ref 0) (.lst rs) h = .val false h := by
  obtain ⟨q, e1, e2⟩ := pyn_py h 29 (.lst rs) (fun x hx => pyn_le (by decide) (p x hx))
  have e3 : toPy h 30 (.ref 0) = some q := by
    have : toPy h 30 (.ref 0) = toPy h 30 (.lst rs) := by simp [toPy, e]
    rw [this]; exact e1
  have := eq_py e3 e1
  rw [e2] at this
  exact this
theorem eq_self {d : Dat} (p : Pyn 29 d) (h : Hm) : cEqD d d h = .val true h := by
  obtain ⟨q, e1, e2⟩ := pyn_py h 29 d p
  have := (eq_py e1 e1).1
  rw [e2] at this
  exact this
noncomputable def rul (b k c : Int) : Dat := (eq_rule b k c []).choose
theorem rul_good (b k c : Int) : Nonempty (Good (rul b k c) (name b k)) ∧ f__law_rule [.int b, .int k, .int c] [] = .val (rul b k c) [] := (eq_rule b k c []).choose_spec
/-- what follows the making of the rules: refused -/
theorem end_bad (ns : List Int) (b c w p : Option Dat) (k : Option Dat) (o : Option Dat) {rs : List Dat} (ok : ∀ r ∈ rs, Okn 4 r ∧ Pyn 5 r) (bad : needR rs [] = none) :
    ∃ h', (mSeq st9 (mSeq st10 (mSeq st11 (mSeq st12 (mSeq st13 st14))))) [some (.lst (ns.map Dat.int)), b, c, some (.ref 0), w, p, some (.bl false), none, none, k, o, none] [.lst rs] = .val (.rt (.bl true)) h' := by
  have s9 : st9 [some (.lst (ns.map Dat.int)), b, c, some (.ref 0), w, p, some (.bl false), none, none, k, o, none] [.lst rs] = .val (.nx [some (.lst (ns.map Dat.int)), b, c, some (.ref 0), w, p, some (.bl false), some (.lst rs), none, k, o, none]) [.lst rs] := by
    have l1 : Mir.seqOf (.ref 0) [.lst rs] = .val rs [.lst rs] := rfl
    simp [-Mir.seqOf, st9, l1]
  have ne : cNeD (.lst [.int 10, .int 4, .int 4]) (.lst [.int 10, .int 4, .int 4]) [.lst rs] = .val false [.lst rs] := by
    obtain ⟨q, e1, e2⟩ := pyn_py [.lst rs] 29 (.lst [.int 10, .int 4, .int 4]) (pynB_of 29 _ (by decide +kernel))
    have := (eq_py e1 e1).2
    rw [e2] at this
    exact this
  have z3 : 3 ≤ sizeLine := by decide
  have s10 : st10 [some (.lst (ns.map Dat.int)), b, c, some (.ref 0), w, p, some (.bl false), some (.lst rs), none, k, o, none] [.lst rs] = .val (.nx [some (.lst (ns.map Dat.int)), b, c, some (.ref 0), w, p, some (.bl false), some (.lst rs), none, k, o, none]) [.lst rs] := by
    simp [st10, z3, ne]
  have ea := eq_at ns (k := 3) (by decide) [.lst rs]
  obtain ⟨t, er⟩ := eq_refused (R := .ref 0) (h := [.lst rs]) (.inr ⟨0, rfl, rfl⟩) (fun r hr => (ok r hr).1) bad (lawAt ns 3 % 3)
  have ek := (eq_kept (fun r hr => (ok r hr).2) ([.lst rs] ++ t) rfl).1
  have s11 : st11 [some (.lst (ns.map Dat.int)), b, c, some (.ref 0), w, p, some (.bl false), some (.lst rs), none, k, o, none] [.lst rs] = .val (.rt (.bl true)) ([.lst rs] ++ t) := by
    generalize [Cell.lst rs] ++ t = H at er ek ⊢
    simp [st11, ea, er, ek]
  exact ⟨_, mseq_step s9 (mseq_step s10 (mseq_rt s11))⟩
/-- and accepted -/
theorem end_good (ns : List Int) (b c w p : Option Dat) (k : Option Dat) (o : Option Dat) {rs : List Dat} {nm : Nat → Str} (g : GoodL rs nm) (l : rs.length ≤ 10) (inj : ∀ i j, i < rs.length → j < rs.length → nm i = nm j → i = j) :
    ∃ h', (mSeq st9 (mSeq st10 (mSeq st11 (mSeq st12 (mSeq st13 st14))))) [some (.lst (ns.map Dat.int)), b, c, some (.ref 0), w, p, some (.bl true), none, none, k, o, none] [.lst rs] = .val (.rt (.bl true)) h' := by
  have ok := goodL_ok g
  have s9 : st9 [some (.lst (ns.map Dat.int)), b, c, some (.ref 0), w, p, some (.bl true), none, none, k, o, none] [.lst rs] = .val (.nx [some (.lst (ns.map Dat.int)), b, c, some (.ref 0), w, p, some (.bl true), some (.lst rs), none, k, o, none]) [.lst rs] := by
    have l1 : Mir.seqOf (.ref 0) [.lst rs] = .val rs [.lst rs] := rfl
    simp [-Mir.seqOf, st9, l1]
  have ne : cNeD (.lst [.int 10, .int 4, .int 4]) (.lst [.int 10, .int 4, .int 4]) [.lst rs] = .val false [.lst rs] := by
    obtain ⟨q, e1, e2⟩ := pyn_py [.lst rs] 29 (.lst [.int 10, .int 4, .int 4]) (pynB_of 29 _ (by decide +kernel))
    have := (eq_py e1 e1).2
    rw [e2] at this
    exact this
  have z3 : 3 ≤ sizeLine := by decide
  have s10 : st10 [some (.lst (ns.map Dat.int)), b, c, some (.ref 0), w, p, some (.bl true), some (.lst rs), none, k, o, none] [.lst rs] = .val (.nx [some (.lst (ns.map Dat.int)), b, c, some (.ref 0), w, p, some (.bl true), some (.lst rs), none, k, o, none]) [.lst rs] := by
    simp [st10, z3, ne]
  have s11 : st11 [some (.lst (ns.map Dat.int)), b, c, some (.ref 0), w, p, some (.bl true), some (.lst rs), none, k, o, none] [.lst rs] = .val (.nx [some (.lst (ns.map Dat.int)), b, c, some (.ref 0), w, p, some (.bl true), some (.lst rs), none, k, o, none]) [.lst rs] := by
    simp [st11]
  -- each rule as it comes
  have each : ∀ r ∈ rs, ∃ n W D ws ds, r = .tup [.str n, W, D] ∧ seqD W = some ws ∧ seqD D = some ds ∧ ruleT r = some (n, ws, ds) ∧ Pyn 4 (ruleD (n, ws, ds)) := fun r hr => by
    obtain ⟨i, hi⟩ := List.getElem?_of_mem hr
    obtain ⟨⟨gd⟩, n1, n2⟩ := g i r hi
    have cc := (good_ok gd n2 n1).2.2
    obtain ⟨W, D, ts, Ws, ds, eq, eW, eD, pt, lt, pw, lw, pd, ld⟩ := gd
    refine ⟨_, W, D, _, ds, eq, eW, eD, cc, fun x hx => ?_⟩
    simp at hx
    rcases hx with rfl | rfl | rfl
    · exact n2
    · intro w hw
      rcases List.mem_cons.mp hw with rfl | hw
      · exact pyn_wan ⟨_, _, rfl, .inl rfl, ts, rfl, pt, lt⟩
      · exact pyn_wan (pw w hw)
    · exact fun d hd => pyn_dee pt (pd d hd)
  let T : Dat → Rul := fun r => (ruleT r).getD ("", [], [])
  have eT : rs.map ruleT = (rs.map T).map some := by
    rw [List.map_map]
    refine List.map_congr_left fun r hr => ?_
    obtain ⟨n, W, D, ws, ds, _, _, _, e, _⟩ := each r hr
    show ruleT r = some ((ruleT r).getD _)
    rw [e]
    rfl
  have nd : ((rs.map T).map (·.1)).Nodup := by
    have gn := goodL_name g eT
    have ll : ((rs.map T).map (·.1)).length = rs.length := by simp
    rw [List.nodup_iff_pairwise_ne, List.pairwise_iff_getElem]
    intro i j hi hj hij e
    have a := gn i (by rw [← ll]; exact hi)
    have b := gn j (by rw [← ll]; exact hj)
    rw [List.getElem?_eq_getElem hi] at a
    rw [List.getElem?_eq_getElem hj] at b
    have e2 : nm i = nm j := by
      have a := Option.some.inj a
      have b := Option.some.inj b
      rw [← a, ← b, e]
    have := inj i j (by rw [← ll]; exact hi) (by rw [← ll]; exact hj) e2
    omega
  have nr : needR rs [] = some (rs.map T) := by
    have := needR_good (fs := []) eT (by rw [List.length_map]; show 0 + rs.length ≤ 10; omega) (by simpa using nd)
    simpa using this
  have en := eq_need_rules (R := .ref 0) (h := [.lst rs]) (.inr ⟨0, rfl, rfl⟩) (fun r hr => (ok r hr).1)
  rw [nr] at en
  have en : PG.f_need_rulesc [.ref 0] [.lst rs] = .val (.lst ((rs.map T).map ruleD)) [.lst rs] := en
  generalize hO : (rs.map T).map ruleD = O at en
  have pO : Pyn 29 (.lst O) := fun x hx => by
    rw [← hO] at hx
    obtain ⟨t, ht, rfl⟩ := List.mem_map.mp hx
    obtain ⟨r, hr, rfl⟩ := List.mem_map.mp ht
    obtain ⟨n, W, D, ws, ds, _, _, _, e, py⟩ := each r hr
    have : T r = (n, ws, ds) := by show (ruleT r).getD _ = _; rw [e]; rfl
    rw [this]
    exact pyn_le (by decide) py
  have s12 : st12 [some (.lst (ns.map Dat.int)), b, c, some (.ref 0), w, p, some (.bl true), some (.lst rs), none, k, o, none] [.lst rs] = .val (.nx [some (.lst (ns.map Dat.int)), b, c, some (.ref 0), w, p, some (.bl true), some (.lst rs), some (.lst O), k, o, none]) [.lst rs] := by
    simp [st12, en]
  have ek := (eq_kept (fun r hr => (ok r hr).2.1) [.lst rs] rfl).2
  have s13 : st13 [some (.lst (ns.map Dat.int)), b, c, some (.ref 0), w, p, some (.bl true), some (.lst rs), some (.lst O), k, o, none] [.lst rs] = .val (.nx [some (.lst (ns.map Dat.int)), b, c, some (.ref 0), w, p, some (.bl true), some (.lst rs), some (.lst O), k, o, none]) [.lst rs] := by
    simp [st13, ek]
  have sc : srcD (.ref 0) [.lst rs] = .val ⟨rs, some (0, .lst rs)⟩ [.lst rs] := rfl
  have lc := lc_allG (src := ⟨rs, some (0, .lst rs)⟩) (bd := bName 11) (e := (mTup (mCons (mIx (mVar 11) (mC (.int 0))) (mCons (mUn tupD (mIx (mVar 11) (mC (.int 1)))) (mCons (mUn tupD (mIx (mVar 11) (mC (.int 2)))) (mNil))))))
    (ρ0 := [some (.lst (ns.map Dat.int)), b, c, some (.ref 0), w, p, some (.bl true), some (.lst rs), some (.lst O), k, o, none]) (h := [.lst rs]) (by show decide (_ = _) = true; simp) (fun r => ruleD (T r)) rs fun r hr => ⟨_, rfl, by
      obtain ⟨n, W, D, ws, ds, e, e1, e2, e3, _⟩ := each r hr
      have : T r = (n, ws, ds) := by show (ruleT r).getD _ = _; rw [e3]; rfl
      rw [this]
      subst e
      have ix0 : ixSq (.tup [.str n, W, D]) (.int 0) [.lst rs] = .val (.str n) [.lst rs] := sd_ix tup_sd (at0 _ _)
      have ix1 : ixSq (.tup [.str n, W, D]) (.int 1) [.lst rs] = .val W [.lst rs] := sd_ix tup_sd (at1 _ _ _)
      have ix2 : ixSq (.tup [.str n, W, D]) (.int 2) [.lst rs] = .val D [.lst rs] := sd_ix tup_sd rfl
      have tW := sd_tup (seqD_src e1 [.lst rs]).2
      have tD := sd_tup (seqD_src e2 [.lst rs]).2
      simp [-ixSq, -tupD, ix0, ix1, ix2, tW, tD, z3]
      rfl⟩
  have hO' : rs.map (fun r => ruleD (T r)) = O := by rw [← hO, List.map_map]; rfl
  rw [hO'] at lc
  have es := eq_self pO [.lst rs]
  have s14 : st14 [some (.lst (ns.map Dat.int)), b, c, some (.ref 0), w, p, some (.bl true), some (.lst rs), some (.lst O), k, o, none] [.lst rs] = .val (.rt (.bl true)) [.lst rs] := by
    simp [-srcD, st14, sc, lc, es]
  exact ⟨_, mseq_step s9 (mseq_step s10 (mseq_step s11 (mseq_step s12 (mseq_step s13 s14))))⟩
end K3
end

section
set_option Elab.async false
set_option linter.all false
set_option maxRecDepth 100000
set_option maxHeartbeats 4000000
/-! K3J: the law holds. -/
namespace K3
open PySem Mir L2 Cm PG LA
def cellOf3 (ns : List Int) (j : Int) : Int := lawAt ns (4 + j % 6) * 48271 % 10007 + j
noncomputable def rulesOf (ns : List Int) (b : Int) (cnt : Nat) : List Dat := (List.range cnt).map fun (j : Nat) => rul b (j : Int) (cellOf3 ns (j : Int))
theorem rules_len (ns : List Int) (b : Int) (cnt : Nat) : (rulesOf ns b cnt).length = cnt := by simp [rulesOf]
theorem rules_at (ns : List Int) (b : Int) {cnt k : Nat} (h : k < cnt) : (rulesOf ns b cnt)[k]? = some (rul b (k : Int) (cellOf3 ns (k : Int))) := by
  unfold rulesOf
  rw [List.getElem?_map, List.getElem?_range h]
  rfl
theorem rules_good (ns : List Int) (b : Int) (cnt : Nat) : GoodL (rulesOf ns b cnt) (fun k => name b (k : Int)) := fun k r e => by
  have hk : k < cnt := by
    have := (List.getElem?_eq_some_iff.mp e).1
    rw [rules_len] at this
    exact this
  rw [rules_at ns b hk] at e
  cases e
  exact ⟨(rul_good b k _).1, name_is b k, name_ok b k⟩
theorem step3 (ns : List Int) (b : Int) (cnt : Nat) (hc : cnt ≤ 11) :
    st3 [some (.lst (ns.map Dat.int)), some (.int b), some (.int (cnt : Int)), none, none, none, none, none, none, none, none, none] [] = .val (.nx [some (.lst (ns.map Dat.int)), some (.int b), some (.int (cnt : Int)), some (.ref 0), none, none, none, none, none, none, none, none]) [.lst (rulesOf ns b cnt)] := by
  have z1 : i62 (cnt : Int) = true := decide_eq_true ⟨by omega, by omega⟩
  have z2 : cnt ≤ sizeLine := Nat.le_trans hc (by decide)
  have lc := lc_all (src := ⟨rngD 0 cnt, none⟩) rfl (bd := bName 9) (e := (mCall f__law_rule (mCons (mVar 1) (mCons (mVar 9) (mCons (mBin aAdd (mBin aMod (mBin aMul (mCall LA.f__law_at (mCons (mVar 0) (mCons (mBin aAdd (mC (.int 4)) (mBin aMod (mVar 9) (mC (.int 6)))) (mNil)))) (mC (.int 48271))) (mC (.int 10007))) (mVar 9)) (mNil))))))
    (ρ0 := [some (.lst (ns.map Dat.int)), some (.int b), some (.int (cnt : Int)), none, none, none, none, none, none, none, none, none]) (h := []) (fun d => match d with | .int j => rul b j (cellOf3 ns j) | _ => .non) (rngD 0 cnt) fun d hd => ⟨_, rfl, by
      unfold rngD at hd
      obtain ⟨j, hj, rfl⟩ := List.mem_map.mp hd
      have m6 := mod_in (0 + (j : Int)) 6 (by decide)
      have ea := eq_at ns (k := 4 + (0 + (j : Int)) % 6) (by omega) []
      have ml := mulS2 (lawAt ns (4 + (0 + (j : Int)) % 6)) 48271 ⟨by decide, by decide⟩
      have er := (rul_good b (0 + (j : Int)) (cellOf3 ns (0 + (j : Int)))).2
      show _ = Res.val (rul b (0 + (j : Int)) (cellOf3 ns (0 + (j : Int)))) []
      unfold cellOf3 at er ⊢
      rw [Int.zero_add] at ea ml er ⊢
      simp [ea, ml, er]⟩
  have lm : (rngD 0 cnt).map (fun d => match d with | .int j => rul b j (cellOf3 ns j) | _ => Dat.non) = rulesOf ns b cnt := by
    unfold rngD rulesOf
    rw [List.map_map]
    refine List.map_congr_left fun j _ => ?_
    show rul b (0 + (j : Int)) (cellOf3 ns (0 + (j : Int))) = _
    rw [Int.zero_add]
  rw [lm] at lc
  simp [st3, z1, z2, lc]
theorem set_at {rs : List Dat} {i : Int} (h0 : 0 ≤ i) (h1 : i < rs.length) (r : Dat) : putLM (.ref 0) (.int i) r [.lst rs] = .val () [.lst (rs.set i.toNat r)] := by
  have e : ixN rs.length i = some i.toNat := by
    unfold ixN
    rw [if_pos h0, if_pos h1]
  have l : lref (.ref 0) [.lst rs] = .val (0, rs) [.lst rs] := rfl
  show (lref (.ref 0) >>= fun c => intOf (.int i) >>= fun i => putLC c i r) [.lst rs] = _
  rw [mo_bind, l, rb_val]
  show putLC (0, rs) i r [.lst rs] = _
  unfold putLC
  rw [e]
  rfl
/-- the rules as they are handed in: all good of unlike names, or refused -/
theorem step8 (ns : List Int) (b : Int) {cnt : Nat} (h1 : 1 ≤ cnt) (h11 : cnt ≤ 11) (way : Int) (w0 : 0 ≤ way) (w37 : cnt = 11 → way = 37) :
    ∃ (g : Bool) (o : Option Dat) (rs : List Dat), (∀ r ∈ rs, Okn 4 r ∧ Pyn 5 r) ∧
      ((g = false ∧ needR rs [] = none) ∨ (g = true ∧ rs = rulesOf ns b cnt ∧ cnt ≤ 10)) ∧
      st8 [some (.lst (ns.map Dat.int)), some (.int b), some (.int (cnt : Int)), some (.ref 0), some (.int way), some (.int (lawAt ns 3 % (cnt : Int))), some (.bl (decide ((cnt : Int) < 11))), none, none, none, none, none] [.lst (rulesOf ns b cnt)] =
        .val (.nx [some (.lst (ns.map Dat.int)), some (.int b), some (.int (cnt : Int)), some (.ref 0), some (.int way), some (.int (lawAt ns 3 % (cnt : Int))), some (.bl g), none, none, none, o, none]) [.lst rs] := by
  have mp := mod_in (lawAt ns 3) (cnt : Int) (by omega)
  have gl := rules_good ns b cnt
  have ok := goodL_ok gl
  have rl := rules_len ns b cnt
  obtain ⟨p, hp⟩ : ∃ p : Nat, lawAt ns 3 % (cnt : Int) = (p : Int) := ⟨(lawAt ns 3 % (cnt : Int)).toNat, by omega⟩
  have pc : p < cnt := by omega
  rw [hp]
  have pe := rules_at ns b pc
  have ix := sd_ix (T := .ref 0) (h := [.lst (rulesOf ns b cnt)]) (.inr (.inr ⟨0, rfl, rfl⟩)) (at_nat (i := (p : Int)) (by omega) (by rw [Int.toNat_natCast]; exact pe))
  obtain ⟨⟨gd⟩, _, _⟩ := gl p _ pe
  by_cases c30 : way < 30
  · obtain ⟨r', e1, e2, e3⟩ := eq_wrong gd (name_ok b p) way w0 c30 [.lst (rulesOf ns b cnt)]
    have st := set_at (rs := rulesOf ns b cnt) (i := (p : Int)) (by omega) (by rw [rl]; omega) r'
    rw [Int.toNat_natCast] at st
    refine ⟨false, none, (rulesOf ns b cnt).set p r', fun r hr => ?_, .inl ⟨rfl, one_bad (r := r') (List.mem_set (by rw [rl]; exact pc) r') e2⟩, ?_⟩
    · rcases List.mem_or_eq_of_mem_set hr with h | rfl
      · exact ⟨(ok r h).1, (ok r h).2.1⟩
      · exact ⟨pyn_okn 4 e3, e3⟩
    · simp [-ixSq, st8, c30, mPutL, ix, e1, st]
  · by_cases c32 : way < 32 ∧ (1 : Int) < (cnt : Int)
    · have mo := mod_in (lawAt ns 3 / (cnt : Int)) ((cnt : Int) - 1) (by omega)
      have mq := mod_in ((p : Int) + 1 + lawAt ns 3 / (cnt : Int) % ((cnt : Int) - 1)) (cnt : Int) (by omega)
      obtain ⟨q, hq⟩ : ∃ q : Nat, ((p : Int) + 1 + lawAt ns 3 / (cnt : Int) % ((cnt : Int) - 1)) % (cnt : Int) = (q : Int) := ⟨(((p : Int) + 1 + lawAt ns 3 / (cnt : Int) % ((cnt : Int) - 1)) % (cnt : Int)).toNat, by omega⟩
      have qc : q < cnt := by omega
      have ne : p ≠ q := by
        intro e
        generalize hx : lawAt ns 3 / (cnt : Int) % ((cnt : Int) - 1) = x at *
        by_cases lt : (p : Int) + 1 + x < (cnt : Int)
        · rw [Int.emod_eq_of_lt (by omega) lt] at hq
          omega
        · have : ((p : Int) + 1 + x) % (cnt : Int) = (p : Int) + 1 + x - (cnt : Int) := by
            rw [← Int.sub_emod_right ((p : Int) + 1 + x) (cnt : Int)]
            exact Int.emod_eq_of_lt (by omega) (by omega)
          rw [this] at hq
          omega
      have qe := rules_at ns b qc
      have ixq := sd_ix (T := .ref 0) (h := [.lst (rulesOf ns b cnt)]) (.inr (.inr ⟨0, rfl, rfl⟩)) (at_nat (i := (q : Int)) (by omega) (by rw [Int.toNat_natCast]; exact qe))
      obtain ⟨⟨gq⟩, _, _⟩ := gl q _ qe
      have w30 : 30 ≤ way := by omega
      obtain ⟨W, D, ts, Ws, ds, eq, eW, eD, pt, lt, pw, lw, pd, ld⟩ := gd
      obtain ⟨W2, D2, ts2, Ws2, ds2, eq2, _⟩ := gq
      rw [eq] at ix
      rw [eq2] at ixq
      have i0 : ixSq (.tup [.str (name b q), W2, D2]) (.int 0) [.lst (rulesOf ns b cnt)] = .val (.str (name b q)) [.lst (rulesOf ns b cnt)] := sd_ix tup_sd (at0 _ _)
      have i1 : ixSq (.tup [.str (name b p), W, D]) (.int 1) [.lst (rulesOf ns b cnt)] = .val W [.lst (rulesOf ns b cnt)] := sd_ix tup_sd (at1 _ _ _)
      have i2 : ixSq (.tup [.str (name b p), W, D]) (.int 2) [.lst (rulesOf ns b cnt)] = .val D [.lst (rulesOf ns b cnt)] := sd_ix tup_sd rfl
      have gn : Good (.tup [.str (name b q), W, D]) (name b q) := ⟨W, D, ts, Ws, ds, rfl, eW, eD, pt, lt, pw, lw, pd, ld⟩
      have st := set_at (rs := rulesOf ns b cnt) (i := (p : Int)) (by omega) (by rw [rl]; omega) (.tup [.str (name b q), W, D])
      rw [Int.toNat_natCast] at st
      have gl2 : GoodL ((rulesOf ns b cnt).set p (.tup [.str (name b q), W, D])) (fun k => if k = p then name b q else name b k) := fun k r e => by
        by_cases z : k = p
        · subst z
          rw [List.getElem?_set_self (by rw [rl]; exact pc)] at e
          cases e
          simp only [if_true]
          exact ⟨⟨gn⟩, name_is b q, name_ok b q⟩
        · rw [List.getElem?_set_ne (Ne.symm z)] at e
          simp only [if_neg z]
          exact gl k r e
      have ok2 := goodL_ok gl2
      refine ⟨false, some (.int (q : Int)), _, fun r hr => ⟨(ok2 r hr).1, (ok2 r hr).2.1⟩, .inl ⟨rfl, dup_bad gl2 (i := p) (j := q) (by rw [List.length_set, rl]; exact pc) (by rw [List.length_set, rl]; exact qc) ne ?_⟩, ?_⟩
      · simp only [if_true, if_neg (Ne.symm ne)]
      · have ea := eq_at ns (k := 3) (by decide) [.lst (rulesOf ns b cnt)]
        have p0 : (0 : Int) < (cnt : Int) := by omega
        have p1 : (cnt : Int) < 1073741824 := by omega
        have p2 : (0 : Int) < (cnt : Int) - 1 := by omega
        have z3 : 3 ≤ sizeLine := by decide
        have p0n : 0 < cnt := by omega
        have c1n : 1 < cnt := by omega
        simp [-ixSq, st8, c30, c32.1, c32.2, ea, p0n, p1, p2, hq, mPutL, ix, ixq, i0, i1, i2, z3, st]
    · have gd : (if way < 32 then (1 : Int) < (cnt : Int) else False) = False := by
        by_cases z : way < 32
        · rw [if_pos z]; exact eq_false fun q => c32 ⟨z, q⟩
        · rw [if_neg z]
      refine ⟨decide ((cnt : Int) < 11), none, rulesOf ns b cnt, fun r hr => ⟨(ok r hr).1, (ok r hr).2.1⟩, ?_, ?_⟩
      · by_cases z : cnt = 11
        · exact .inl ⟨decide_eq_false (by omega), many_bad (by rw [rl]; omega)⟩
        · exact .inr ⟨decide_eq_true (by omega), rfl, by omega⟩
      · by_cases z : way < 32
        · have c1 : ¬ (1 : Int) < (cnt : Int) := fun q => c32 ⟨z, q⟩
          simp [st8, c30, z, c1]
        · simp [st8, c30, z]
theorem law_true : ∀ ns : List Int, ns.length ≤ 63 → ∃ h', f_law [.lst (ns.map Dat.int)] [] = .val (.bl true) h' := by
  intro ns _
  have e0 := eq_at ns (k := 0) (by decide) []
  have e1 := eq_at ns (k := 1) (by decide) []
  have m1 := mod_in (lawAt ns 1) 4 (by decide)
  have m2 := mod_in (lawAt ns 1 / 20) 3 (by decide)
  have q1 := eqJ (lawAt ns 1 / 4 % 5) 1 []
  have s0 : st0 [some (.lst (ns.map Dat.int)), none, none, none, none, none, none, none, none, none, none, none] [] = .val (.nx [some (.lst (ns.map Dat.int)), some (.int (lawAt ns 0)), none, none, none, none, none, none, none, none, none, none]) [] := by simp [st0, e0]
  have s1 : st1 [some (.lst (ns.map Dat.int)), some (.int (lawAt ns 0)), none, none, none, none, none, none, none, none, none, none] [] = .val (.nx [some (.lst (ns.map Dat.int)), some (.int (lawAt ns 0)), some (.int (1 + lawAt ns 1 % 4)), none, none, none, none, none, none, none, none, none]) [] := by simp [st1, e1]
  obtain ⟨cnt, h1, h11, s2⟩ : ∃ cnt : Nat, 1 ≤ cnt ∧ cnt ≤ 11 ∧ st2 [some (.lst (ns.map Dat.int)), some (.int (lawAt ns 0)), some (.int (1 + lawAt ns 1 % 4)), none, none, none, none, none, none, none, none, none] [] = .val (.nx [some (.lst (ns.map Dat.int)), some (.int (lawAt ns 0)), some (.int (cnt : Int)), none, none, none, none, none, none, none, none, none]) [] := by
    by_cases c : lawAt ns 1 / 4 % 5 = 1
    · rw [decide_eq_true c] at q1
      refine ⟨(9 + lawAt ns 1 / 20 % 3).toNat, by omega, by omega, ?_⟩
      have : (((9 + lawAt ns 1 / 20 % 3).toNat : Nat) : Int) = 9 + lawAt ns 1 / 20 % 3 := by omega
      rw [this]
      simp [st2, e1, q1]
    · rw [decide_eq_false c] at q1
      refine ⟨(1 + lawAt ns 1 % 4).toNat, by omega, by omega, ?_⟩
      have : (((1 + lawAt ns 1 % 4).toNat : Nat) : Int) = 1 + lawAt ns 1 % 4 := by omega
      rw [this]
      simp [st2, e1, q1]
  have s3 := step3 ns (lawAt ns 0) cnt h11
  have e2 := eq_at ns (k := 2) (by decide) [.lst (rulesOf ns (lawAt ns 0) cnt)]
  have e3 := eq_at ns (k := 3) (by decide) [.lst (rulesOf ns (lawAt ns 0) cnt)]
  have ml := mulS2 (lawAt ns 2) 48271 ⟨by decide, by decide⟩
  have mw := mod_in (lawAt ns 2 * 48271 % 10007) 38 (by decide)
  have s4 : st4 [some (.lst (ns.map Dat.int)), some (.int (lawAt ns 0)), some (.int (cnt : Int)), some (.ref 0), none, none, none, none, none, none, none, none] [.lst (rulesOf ns (lawAt ns 0) cnt)] = .val (.nx [some (.lst (ns.map Dat.int)), some (.int (lawAt ns 0)), some (.int (cnt : Int)), some (.ref 0), some (.int (lawAt ns 2 * 48271 % 10007 % 38)), none, none, none, none, none, none, none]) [.lst (rulesOf ns (lawAt ns 0) cnt)] := by
    simp [st4, e2, ml]
  have q11 := eqJ (cnt : Int) 11 [.lst (rulesOf ns (lawAt ns 0) cnt)]
  obtain ⟨way, w0, w37, s5⟩ : ∃ way : Int, 0 ≤ way ∧ (cnt = 11 → way = 37) ∧ st5 [some (.lst (ns.map Dat.int)), some (.int (lawAt ns 0)), some (.int (cnt : Int)), some (.ref 0), some (.int (lawAt ns 2 * 48271 % 10007 % 38)), none, none, none, none, none, none, none] [.lst (rulesOf ns (lawAt ns 0) cnt)] = .val (.nx [some (.lst (ns.map Dat.int)), some (.int (lawAt ns 0)), some (.int (cnt : Int)), some (.ref 0), some (.int way), none, none, none, none, none, none, none]) [.lst (rulesOf ns (lawAt ns 0) cnt)] := by
    by_cases c : cnt = 11
    · rw [decide_eq_true (by omega)] at q11
      exact ⟨37, by decide, fun _ => rfl, by simp [st5, q11]⟩
    · rw [decide_eq_false (by omega)] at q11
      exact ⟨_, mw.1, fun z => absurd z c, by simp [st5, q11]⟩
  have p0 : 0 < cnt := by omega
  have s6 : st6 [some (.lst (ns.map Dat.int)), some (.int (lawAt ns 0)), some (.int (cnt : Int)), some (.ref 0), some (.int way), none, none, none, none, none, none, none] [.lst (rulesOf ns (lawAt ns 0) cnt)] = .val (.nx [some (.lst (ns.map Dat.int)), some (.int (lawAt ns 0)), some (.int (cnt : Int)), some (.ref 0), some (.int way), some (.int (lawAt ns 3 % (cnt : Int))), none, none, none, none, none, none]) [.lst (rulesOf ns (lawAt ns 0) cnt)] := by
    simp [st6, e3, p0]
  have s7 : st7 [some (.lst (ns.map Dat.int)), some (.int (lawAt ns 0)), some (.int (cnt : Int)), some (.ref 0), some (.int way), some (.int (lawAt ns 3 % (cnt : Int))), none, none, none, none, none, none] [.lst (rulesOf ns (lawAt ns 0) cnt)] = .val (.nx [some (.lst (ns.map Dat.int)), some (.int (lawAt ns 0)), some (.int (cnt : Int)), some (.ref 0), some (.int way), some (.int (lawAt ns 3 % (cnt : Int))), some (.bl (decide ((cnt : Int) < 11))), none, none, none, none, none]) [.lst (rulesOf ns (lawAt ns 0) cnt)] := by
    simp [st7]
  obtain ⟨g, o, rs, ok, alt, s8⟩ := step8 ns (lawAt ns 0) h1 h11 way w0 w37
  have fin : ∃ h', (mSeq st9 (mSeq st10 (mSeq st11 (mSeq st12 (mSeq st13 st14))))) [some (.lst (ns.map Dat.int)), some (.int (lawAt ns 0)), some (.int (cnt : Int)), some (.ref 0), some (.int way), some (.int (lawAt ns 3 % (cnt : Int))), some (.bl g), none, none, none, o, none] [.lst rs] = .val (.rt (.bl true)) h' := by
    rcases alt with ⟨rfl, bad⟩ | ⟨rfl, rfl, l10⟩
    · exact end_bad ns _ _ _ _ _ _ ok bad
    · have rl := rules_len ns (lawAt ns 0) cnt
      exact end_good ns _ _ _ _ _ _ (rules_good ns (lawAt ns 0) cnt) (by rw [rl]; exact l10) fun i j hi hj e => by
        rw [rl] at hi hj
        have := name_inj (b := lawAt ns 0) (k := (i : Int)) (l := (j : Int)) ⟨by omega, by omega⟩ ⟨by omega, by omega⟩ e
        omega
  obtain ⟨h', fe⟩ := fin
  refine ⟨h', run_rt (m := m_law) ?_⟩
  rw [st_all]
  exact mseq_step s0 (mseq_step s1 (mseq_step s2 (mseq_step s3 (mseq_step s4 (mseq_step s5 (mseq_step s6 (mseq_step s7 (mseq_step s8 fe))))))))
end K3
end

section
set_option Elab.async false
set_option linter.all false
set_option maxRecDepth 100000
namespace K3
open PySem PySem.Spec
open PyProof.Rows L2 Mir

def top (i : Nat) : Stmt := PySem.Challenge.pw_matchweave_k03_rules_refused.main.body.getD i (.Pass ⟨0, 0, 0, 0⟩)
abbrev s__law_at : Stmt := top 45
abbrev s__law_pattern : Stmt := top 47
abbrev s__law_wants : Stmt := top 48
abbrev s__law_deeds : Stmt := top 49
abbrev s__law_name : Stmt := top 46
abbrev s__law_rule : Stmt := top 50
abbrev s__law_wrong : Stmt := top 51
abbrev s_is_name : Stmt := top 16
abbrev s_is_row : Stmt := top 19
abbrev s_is_whole : Stmt := top 15
abbrev s_is_value : Stmt := top 18
abbrev s_is_word : Stmt := top 17
abbrev s_is_pattern : Stmt := top 21
abbrev s_is_want : Stmt := top 27
abbrev s_are_wants : Stmt := top 30
abbrev s_words_of : Stmt := top 28
abbrev s_is_deed : Stmt := top 29
abbrev s_is_rule : Stmt := top 31
abbrev s_need_rules : Stmt := top 32
abbrev s_Weave___init__ : Stmt := inClass (top 41) 0
abbrev s_Engine___init__ : Stmt := inClass (top 43) 0
abbrev s__law_refused : Stmt := top 52
abbrev s_law : Stmt := top 53
structure Ad where
  a__law_at : Addr
  fd__law_at : FuncData
  a__law_pattern : Addr
  fd__law_pattern : FuncData
  a__law_wants : Addr
  fd__law_wants : FuncData
  a__law_deeds : Addr
  fd__law_deeds : FuncData
  a__law_name : Addr
  fd__law_name : FuncData
  a__law_rule : Addr
  fd__law_rule : FuncData
  a__law_wrong : Addr
  fd__law_wrong : FuncData
  a_is_name : Addr
  fd_is_name : FuncData
  a_is_row : Addr
  fd_is_row : FuncData
  a_is_whole : Addr
  fd_is_whole : FuncData
  a_is_value : Addr
  fd_is_value : FuncData
  a_is_word : Addr
  fd_is_word : FuncData
  a_is_pattern : Addr
  fd_is_pattern : FuncData
  a_is_want : Addr
  fd_is_want : FuncData
  a_are_wants : Addr
  fd_are_wants : FuncData
  a_words_of : Addr
  fd_words_of : FuncData
  a_is_deed : Addr
  fd_is_deed : FuncData
  a_is_rule : Addr
  fd_is_rule : FuncData
  a_need_rules : Addr
  fd_need_rules : FuncData
  a_Weave___init__ : Addr
  fd_Weave___init__ : FuncData
  a_Engine___init__ : Addr
  fd_Engine___init__ : FuncData
  a__law_refused : Addr
  fd__law_refused : FuncData
  a_law : Addr
  fd_law : FuncData
  c_BadRule : Addr
  c_BadThing : Addr
  c_Engine : Addr
  c_NoCount : Addr
  c_NoRule : Addr
  c_NotThere : Addr
  c_There : Addr
  c_Weave : Addr
  c_WeaveError : Addr
structure Txt (K : PySem.W.Frag) (mg : Str → Option Value) (A : Ad) : Prop where
  b_ValueError : mg "ValueError" = none
  b_all : mg "all" = none
  b_bool : mg "bool" = none
  b_int : mg "int" = none
  b_isinstance : mg "isinstance" = none
  b_len : mg "len" = none
  b_list : mg "list" = none
  b_range : mg "range" = none
  b_str : mg "str" = none
  b_tuple : mg "tuple" = none
  v_GREAT : ∃ t, mg "GREAT" = some (.str "ABCDEFGHIJKLMNOPQRSTUVWXYZ" t)
  v_MOST_DEEDS : ∃ t, mg "MOST_DEEDS" = some (.int (4) t)
  v_MOST_LETTERS : ∃ t, mg "MOST_LETTERS" = some (.int (8) t)
  v_MOST_NUMBER : ∃ t, mg "MOST_NUMBER" = some (.int (999999999) t)
  v_MOST_RULES : ∃ t, mg "MOST_RULES" = some (.int (10) t)
  v_MOST_VALUES : ∃ t, mg "MOST_VALUES" = some (.int (4) t)
  v_MOST_WANTS : ∃ t, mg "MOST_WANTS" = some (.int (4) t)
  v_SMALL : ∃ t, mg "SMALL" = some (.str "abcdefghijklmnopqrstuvwxyz" t)
  F__law_at : Fun K "_law_at" "_law_at" s__law_at A.a__law_at A.fd__law_at
  g__law_at : mg "_law_at" = some (.ref A.a__law_at)
  B__law_at : Binds K A.fd__law_at ["_law_script", "_law_k"] []
  F__law_pattern : Fun K "_law_pattern" "_law_pattern" s__law_pattern A.a__law_pattern A.fd__law_pattern
  g__law_pattern : mg "_law_pattern" = some (.ref A.a__law_pattern)
  B__law_pattern : Binds K A.fd__law_pattern ["_law_cell"] []
  F__law_wants : Fun K "_law_wants" "_law_wants" s__law_wants A.a__law_wants A.fd__law_wants
  g__law_wants : mg "_law_wants" = some (.ref A.a__law_wants)
  B__law_wants : Binds K A.fd__law_wants ["_law_cell"] []
  F__law_deeds : Fun K "_law_deeds" "_law_deeds" s__law_deeds A.a__law_deeds A.fd__law_deeds
  g__law_deeds : mg "_law_deeds" = some (.ref A.a__law_deeds)
  B__law_deeds : Binds K A.fd__law_deeds ["_law_wants_here", "_law_cell"] []
  F__law_name : Fun K "_law_name" "_law_name" s__law_name A.a__law_name A.fd__law_name
  g__law_name : mg "_law_name" = some (.ref A.a__law_name)
  B__law_name : Binds K A.fd__law_name ["_law_base", "_law_k"] []
  F__law_rule : Fun K "_law_rule" "_law_rule" s__law_rule A.a__law_rule A.fd__law_rule
  g__law_rule : mg "_law_rule" = some (.ref A.a__law_rule)
  B__law_rule : Binds K A.fd__law_rule ["_law_base", "_law_k", "_law_cell"] []
  F__law_wrong : Fun K "_law_wrong" "_law_wrong" s__law_wrong A.a__law_wrong A.fd__law_wrong
  g__law_wrong : mg "_law_wrong" = some (.ref A.a__law_wrong)
  B__law_wrong : Binds K A.fd__law_wrong ["_law_rule_here", "_law_way"] []
  F_is_name : Fun K "is_name" "is_name" s_is_name A.a_is_name A.fd_is_name
  g_is_name : mg "is_name" = some (.ref A.a_is_name)
  B_is_name : Binds K A.fd_is_name ["thing"] []
  F_is_row : Fun K "is_row" "is_row" s_is_row A.a_is_row A.fd_is_row
  g_is_row : mg "is_row" = some (.ref A.a_is_row)
  B_is_row : Binds K A.fd_is_row ["thing"] []
  F_is_whole : Fun K "is_whole" "is_whole" s_is_whole A.a_is_whole A.fd_is_whole
  g_is_whole : mg "is_whole" = some (.ref A.a_is_whole)
  B_is_whole : Binds K A.fd_is_whole ["thing"] []
  F_is_value : Fun K "is_value" "is_value" s_is_value A.a_is_value A.fd_is_value
  g_is_value : mg "is_value" = some (.ref A.a_is_value)
  B_is_value : Binds K A.fd_is_value ["thing"] []
  F_is_word : Fun K "is_word" "is_word" s_is_word A.a_is_word A.fd_is_word
  g_is_word : mg "is_word" = some (.ref A.a_is_word)
  B_is_word : Binds K A.fd_is_word ["thing"] []
  F_is_pattern : Fun K "is_pattern" "is_pattern" s_is_pattern A.a_is_pattern A.fd_is_pattern
  g_is_pattern : mg "is_pattern" = some (.ref A.a_is_pattern)
  B_is_pattern : Binds K A.fd_is_pattern ["thing"] []
  F_is_want : Fun K "is_want" "is_want" s_is_want A.a_is_want A.fd_is_want
  g_is_want : mg "is_want" = some (.ref A.a_is_want)
  B_is_want : Binds K A.fd_is_want ["thing"] []
  F_are_wants : Fun K "are_wants" "are_wants" s_are_wants A.a_are_wants A.fd_are_wants
  g_are_wants : mg "are_wants" = some (.ref A.a_are_wants)
  B_are_wants : Binds K A.fd_are_wants ["thing"] []
  F_words_of : Fun K "words_of" "words_of" s_words_of A.a_words_of A.fd_words_of
  g_words_of : mg "words_of" = some (.ref A.a_words_of)
  B_words_of : Binds K A.fd_words_of ["wants"] []
  F_is_deed : Fun K "is_deed" "is_deed" s_is_deed A.a_is_deed A.fd_is_deed
  g_is_deed : mg "is_deed" = some (.ref A.a_is_deed)
  B_is_deed : Binds K A.fd_is_deed ["thing", "wants"] []
  F_is_rule : Fun K "is_rule" "is_rule" s_is_rule A.a_is_rule A.fd_is_rule
  g_is_rule : mg "is_rule" = some (.ref A.a_is_rule)
  B_is_rule : Binds K A.fd_is_rule ["thing"] []
  F_need_rules : Fun K "need_rules" "need_rules" s_need_rules A.a_need_rules A.fd_need_rules
  g_need_rules : mg "need_rules" = some (.ref A.a_need_rules)
  B_need_rules : Binds K A.fd_need_rules ["rules"] []
  F_Weave___init__ : Fun K "__init__" "Weave.__init__" s_Weave___init__ A.a_Weave___init__ A.fd_Weave___init__
  B_Weave___init__ : Binds K A.fd_Weave___init__ ["self", "rules"] []
  F_Engine___init__ : Fun K "__init__" "Engine.__init__" s_Engine___init__ A.a_Engine___init__ A.fd_Engine___init__
  B_Engine___init__ : Binds K A.fd_Engine___init__ ["self", "rules"] []
  F__law_refused : Fun K "_law_refused" "_law_refused" s__law_refused A.a__law_refused A.fd__law_refused
  g__law_refused : mg "_law_refused" = some (.ref A.a__law_refused)
  B__law_refused : Binds K A.fd__law_refused ["_law_rules", "_law_sort"] []
  F_law : Fun K "law" "law" s_law A.a_law A.fd_law
  g_law : mg "law" = some (.ref A.a_law)
  B_law : Binds K A.fd_law ["_law_script"] []
  c_BadRule : mg "BadRule" = some (.ref A.c_BadRule)
  c_BadThing : mg "BadThing" = some (.ref A.c_BadThing)
  c_Engine : mg "Engine" = some (.ref A.c_Engine)
  c_NoCount : mg "NoCount" = some (.ref A.c_NoCount)
  c_NoRule : mg "NoRule" = some (.ref A.c_NoRule)
  c_NotThere : mg "NotThere" = some (.ref A.c_NotThere)
  c_There : mg "There" = some (.ref A.c_There)
  c_Weave : mg "Weave" = some (.ref A.c_Weave)
  c_WeaveError : mg "WeaveError" = some (.ref A.c_WeaveError)
  cl_Engine : Cls K A.c_Engine
  cl_Weave : Cls K A.c_Weave
  n_Engine_weave : NoAttr K A.c_Engine "weave"
  n_Weave_rules : NoAttr K A.c_Weave "rules"
  mk_Engine : Mk K A.c_Engine A.a_Engine___init__
  mk_Weave : Mk K A.c_Weave A.a_Weave___init__
  x_BadRule : PySem.W.excIn K A.c_BadRule [.type "ValueError", .type "Exception", .type "BaseException", .type "object"] "ValueError.__new__" = true
  k_BadRule : PySem.W.keepIn K (.ref A.c_BadRule) = true
  s_BadRule : PySem.W.subIn K (.ref A.c_BadRule) (.type "BaseException") = some true
  t_BadRule : PySem.W.typeIn K (.ref A.c_BadRule) = some (.type "type")
  exm_BadRule : PySem.W.exmOne K (.ref A.c_BadRule) (.ref A.c_WeaveError) = some true
  ec_BadRule : ExcC K A.c_BadRule
  kit_BadRule__BadRule : PySem.W.kitOne K (.ref A.c_BadRule) (.ref A.c_BadRule) = some true
  kit_BadRule__BadThing : PySem.W.kitOne K (.ref A.c_BadRule) (.ref A.c_BadThing) = some false
  kit_BadRule__NoCount : PySem.W.kitOne K (.ref A.c_BadRule) (.ref A.c_NoCount) = some false
  kit_BadRule__NoRule : PySem.W.kitOne K (.ref A.c_BadRule) (.ref A.c_NoRule) = some false
  kit_BadRule__NotThere : PySem.W.kitOne K (.ref A.c_BadRule) (.ref A.c_NotThere) = some false
  kit_BadRule__There : PySem.W.kitOne K (.ref A.c_BadRule) (.ref A.c_There) = some false
  kit_BadRule__ValueError : PySem.W.kitOne K (.ref A.c_BadRule) (.type "ValueError") = some true
section
variable {P : Program} {w : World} {K : PySem.W.Frag} {mg : Str → Option Value} {base : Heap} {A : Ad}
theorem sc__law_at : FnScope ["_law_script", "_law_k"] ["_law_script", "_law_k"] (defScope s__law_at) := ⟨rfl, rfl, rfl, by decide +kernel, rfl, by decide +kernel, by decide +kernel⟩
theorem ok__law_at (T : Txt K mg A) : FnOk P w K mg base (L2.CX P w) 2 A.a__law_at A.fd__law_at ["_law_script", "_law_k"] (spM ⟨P, w, K, mg⟩ 2 LA.f__law_at) := fn_mir (N := ["_law_script", "_law_k"]) (ps := ["_law_script", "_law_k"]) (k := 1) T.F__law_at sc__law_at (by decide) (m := LA.m__law_at) fun cdv _ outer s H E hr => mss_cons (ms_if (mt_lt (me_var 1 (pv 1)) (me_len T.b_len (me_var 0 (pv 0)))) (mss_one (ms_ret (me_ix (me_var 0 (pv 0)) (me_var 1 (pv 1))))) (mss_nil)) (mss_one (ms_ret (me_int)))
theorem sc__law_pattern : FnScope ["_law_cell", "_law_terms", "_law_j"] ["_law_cell"] (defScope s__law_pattern) := ⟨rfl, rfl, rfl, by decide +kernel, rfl, by decide +kernel, by decide +kernel⟩
theorem ok__law_pattern (T : Txt K mg A) : FnOk P w K mg base (L2.CX P w) 2 A.a__law_pattern A.fd__law_pattern ["_law_cell"] (spM ⟨P, w, K, mg⟩ 1 f__law_pattern) := fn_mir (N := ["_law_cell", "_law_terms", "_law_j"]) (ps := ["_law_cell"]) (k := 1) T.F__law_pattern sc__law_pattern (by decide) (m := m__law_pattern) fun cdv _ outer s H E hr => mss_cons (ms_set (i := 1) sc__law_pattern.nd (me_fz (ml_lst (ma_cons (me_str) (ma_cons (me_int) (ma_cons (me_str) (ma_cons (me_str) (ma_cons (me_str) (ma_cons (me_neg (me_int)) (ma_cons (me_str) (ma_nil))))))))))) (mss_one (ms_ret (me_tupD T.b_tuple (me_fz (ml_cat (me_fz (ml_lst (ma_cons (me_str) (ma_nil)))) (me_fz (ml_lc rfl sc__law_pattern.nd (mi_range1 (by rfl) T.b_range (ma_cons (me_mod (me_div (me_var 0 (pv 0)) (me_int)) (me_int)) (ma_nil))) (blkOk_by (own := [("_law_j", 2)]) rfl) (fun _ _ _ _ _ => mg_name (i := 2) sc__law_pattern.nd) (fun _ _ _ _ _ => mts_nil) (fun _ _ _ _ _ => me_ix (me_var 1 (pv 1)) (me_mod (me_add (me_var 0 (pv 0)) (me_mul (me_int) (me_var 2 (pv 2)))) (me_int))) (by decide))))))))
theorem sc__law_wants : FnScope ["_law_cell", "_law_wants_here", "_law_k"] ["_law_cell"] (defScope s__law_wants) := ⟨rfl, rfl, rfl, by decide +kernel, rfl, by decide +kernel, by decide +kernel⟩
theorem ok__law_wants (T : Txt K mg A) : FnOk P w K mg base (L2.CX P w) 3 A.a__law_wants A.fd__law_wants ["_law_cell"] (spM ⟨P, w, K, mg⟩ 1 f__law_wants) := fn_mir (N := ["_law_cell", "_law_wants_here", "_law_k"]) (ps := ["_law_cell"]) (k := 2) T.F__law_wants sc__law_wants (by decide) (m := m__law_wants) fun cdv _ outer s H E hr => mss_cons (ms_set (i := 1) sc__law_wants.nd (me_cell (ml_lst (ma_cons (me_tup (ma_cons (me_str) (ma_cons (me_call (ok__law_pattern T) rfl (by exact hr.mono (by decide)) (by rfl) T.g__law_pattern T.F__law_pattern.kp T.B__law_pattern (takes_of rfl rfl rfl rfl) (ma_cons (me_var 0 (pv 0)) (ma_nil)) (len_cons (len_nil))) (ma_nil)))) (ma_nil))))) (mss_cons (ms_for (passes_of rfl) rfl (mi_range1 (by rfl) T.b_range (ma_cons (me_mod (me_div (me_var 0 (pv 0)) (me_int)) (me_int)) (ma_nil))) (mg_name (i := 2) sc__law_wants.nd) (mss_one (ms_expr (me_append (me_var 1 (pv 1)) (me_tup (ma_cons (me_ix (me_fz (ml_lst (ma_cons (me_str) (ma_cons (me_str) (ma_nil))))) (me_mod (me_div (me_var 0 (pv 0)) (me_add (me_int) (me_var 2 (pv 2)))) (me_int))) (ma_cons (me_call (ok__law_pattern T) rfl (by exact hr.mono (by decide)) (by rfl) T.g__law_pattern T.F__law_pattern.kp T.B__law_pattern (takes_of rfl rfl rfl rfl) (ma_cons (me_div (me_var 0 (pv 0)) (me_add (me_var 2 (pv 2)) (me_int))) (ma_nil)) (len_cons (len_nil))) (ma_nil)))))))) (mss_one (ms_ret (me_var 1 (pv 1)))))
theorem ok__law_wantsc (T : Txt K mg A) : FnOk P w K mg base (L2.CX P w) 3 A.a__law_wants A.fd__law_wants ["_law_cell"] (spM ⟨P, w, K, mg⟩ 1 f__law_wantsc) := fn_close rfl (ok__law_wants T)
theorem sc__law_deeds : FnScope ["_law_wants_here", "_law_cell", "_law_words", "_law_deeds_here", "_law_k", "_law_term"] ["_law_wants_here", "_law_cell"] (defScope s__law_deeds) := ⟨rfl, rfl, rfl, by decide +kernel, rfl, by decide +kernel, by decide +kernel⟩
theorem ok__law_deeds (T : Txt K mg A) : FnOk P w K mg base (L2.CX P w) 2 A.a__law_deeds A.fd__law_deeds ["_law_wants_here", "_law_cell"] (spM ⟨P, w, K, mg⟩ 2 f__law_deeds) := fn_mir (N := ["_law_wants_here", "_law_cell", "_law_words", "_law_deeds_here", "_law_k", "_law_term"]) (ps := ["_law_wants_here", "_law_cell"]) (k := 1) T.F__law_deeds sc__law_deeds (by decide) (m := m__law_deeds) fun cdv _ outer s H E hr => mss_cons (ms_setLcF (i := 2) rfl sc__law_deeds.nd rfl rfl (sw_true rfl rfl rfl rfl) (mi_seq (me_slice (me_ix (me_ix (me_var 0 (pv 0)) (me_int)) (me_int)) (mo_some (me_int)) (mo_none))) (blkOk_by (own := [("_law_term", 5)]) rfl) (fun _ _ _ _ _ => mg_name (i := 5) sc__law_deeds.nd) (fun _ _ _ _ _ => mts_one (mt_bool (mw_and (mt_val (me_isD (T := "str") T.b_isinstance T.b_str rfl (by decide) (me_var 5 (pv 5)))) (mw_and1 (mt_ne (by have q := hu64 hr; exact q) (me_var 5 (pv 5)) (me_lower (me_var 5 (pv 5)))))))) (fun _ _ _ _ _ => me_var 5 (pv 5)) (by decide)) (mss_cons (ms_set (i := 3) sc__law_deeds.nd (me_cell (ml_lst (ma_nil)))) (mss_cons (ms_for (passes_of rfl) rfl (mi_range1 (by rfl) T.b_range (ma_cons (me_mod (me_var 1 (pv 1)) (me_int)) (ma_nil))) (mg_name (i := 4) sc__law_deeds.nd) (mss_one (ms_if (mt_eq (by have q := hu64 hr; exact q) (me_mod (me_div (me_var 1 (pv 1)) (me_add (me_int) (me_var 4 (pv 4)))) (me_int)) (me_int)) (mss_one (ms_expr (me_append (me_var 3 (pv 3)) (me_tup (ma_cons (me_str) (ma_cons (me_int) (ma_nil))))))) (mss_one (ms_expr (me_append (me_var 3 (pv 3)) (me_tup (ma_cons (me_str) (ma_cons (me_tupD T.b_tuple (me_fz (ml_cat (me_fz (ml_lst (ma_cons (me_str) (ma_nil)))) (me_slice (me_fz (ml_cat (me_var 2 (pv 2)) (me_fz (ml_lst (ma_cons (me_int) (ma_cons (me_str) (ma_nil))))))) (mo_none) (mo_some (me_mod (me_div (me_var 1 (pv 1)) (me_add (me_int) (me_var 4 (pv 4)))) (me_int))))))) (ma_nil)))))))))) (mss_one (ms_ret (me_var 3 (pv 3))))))
theorem ok__law_deedsc (T : Txt K mg A) : FnOk P w K mg base (L2.CX P w) 2 A.a__law_deeds A.fd__law_deeds ["_law_wants_here", "_law_cell"] (spM ⟨P, w, K, mg⟩ 2 f__law_deedsc) := fn_close rfl (ok__law_deeds T)
theorem sc__law_name : FnScope ["_law_base", "_law_k", "_law_letters", "_law_size", "_law_at_here", "_law_word", "_law_letter", "_law_j"] ["_law_base", "_law_k"] (defScope s__law_name) := ⟨rfl, rfl, rfl, by decide +kernel, rfl, by decide +kernel, by decide +kernel⟩
theorem ok__law_name (T : Txt K mg A) : FnOk P w K mg base (L2.CX P w) 2 A.a__law_name A.fd__law_name ["_law_base", "_law_k"] (spM ⟨P, w, K, mg⟩ 2 LA.f__law_name) := fn_mir (N := ["_law_base", "_law_k", "_law_letters", "_law_size", "_law_at_here", "_law_word", "_law_letter", "_law_j"]) (ps := ["_law_base", "_law_k"]) (k := 1) T.F__law_name sc__law_name (by decide) (m := LA.m__law_name) fun cdv _ outer s H E hr => mss_cons (ms_set (i := 2) sc__law_name.nd (me_str)) (mss_cons (ms_set (i := 3) sc__law_name.nd (me_add (me_int) (me_mod (me_var 0 (pv 0)) (me_int)))) (mss_cons (ms_set (i := 4) sc__law_name.nd (me_mod (me_div (me_var 0 (pv 0)) (me_int)) (me_add (me_var 3 (pv 3)) (me_int)))) (mss_cons (ms_set (i := 5) sc__law_name.nd (me_join (me_str) (me_fz (ml_lc rfl sc__law_name.nd (mi_range1 (by rfl) T.b_range (ma_cons (me_var 3 (pv 3)) (ma_nil))) (blkOk_by (own := [("_law_j", 7)]) rfl) (fun _ _ _ _ _ => mg_name (i := 7) sc__law_name.nd) (fun _ _ _ _ _ => mts_nil) (fun _ _ _ _ _ => me_ix (me_var 2 (pv 2)) (me_mod (me_add (me_div (me_var 0 (pv 0)) (me_int)) (me_mul (me_int) (me_var 7 (pv 7)))) (me_int))) (by decide))))) (mss_cons (ms_set (i := 6) sc__law_name.nd (me_ix (me_var 2 (pv 2)) (me_mod (me_add (me_add (me_div (me_var 0 (pv 0)) (me_int)) (me_int)) (me_mul (me_int) (me_var 1 (pv 1)))) (me_int)))) (mss_one (ms_ret (me_add (me_add (me_slice (me_var 5 (pv 5)) (mo_none) (mo_some (me_var 4 (pv 4)))) (me_var 6 (pv 6))) (me_slice (me_var 5 (pv 5)) (mo_some (me_var 4 (pv 4))) (mo_none)))))))))
theorem sc__law_rule : FnScope ["_law_base", "_law_k", "_law_cell", "_law_wants_here", "_law_deeds_here"] ["_law_base", "_law_k", "_law_cell"] (defScope s__law_rule) := ⟨rfl, rfl, rfl, by decide +kernel, rfl, by decide +kernel, by decide +kernel⟩
theorem ok__law_rule (T : Txt K mg A) : FnOk P w K mg base (L2.CX P w) 4 A.a__law_rule A.fd__law_rule ["_law_base", "_law_k", "_law_cell"] (spM ⟨P, w, K, mg⟩ 3 f__law_rule) := fn_mir (N := ["_law_base", "_law_k", "_law_cell", "_law_wants_here", "_law_deeds_here"]) (ps := ["_law_base", "_law_k", "_law_cell"]) (k := 3) T.F__law_rule sc__law_rule (by decide) (m := m__law_rule) fun cdv _ outer s H E hr => mss_cons (ms_set (i := 3) sc__law_rule.nd (me_call (ok__law_wantsc T) rfl (by exact hr.mono (by decide)) (by rfl) T.g__law_wants T.F__law_wants.kp T.B__law_wants (takes_of rfl rfl rfl rfl) (ma_cons (me_var 2 (pv 2)) (ma_nil)) (len_cons (len_nil)))) (mss_cons (ms_set (i := 4) sc__law_rule.nd (me_call (ok__law_deedsc T) rfl (by exact hr.mono (by decide)) (by rfl) T.g__law_deeds T.F__law_deeds.kp T.B__law_deeds (takes_of rfl rfl rfl rfl) (ma_cons (me_var 3 (pv 3)) (ma_cons (me_div (me_var 2 (pv 2)) (me_int)) (ma_nil))) (len_cons (len_cons (len_nil))))) (mss_cons (ms_if (mt_eq (by have q := hu64 hr; exact q) (me_mod (me_var 2 (pv 2)) (me_int)) (me_int)) (mss_one (ms_ret (me_tup (ma_cons (me_call (ok__law_name T) rfl (by exact hr.mono (by decide)) (by rfl) T.g__law_name T.F__law_name.kp T.B__law_name (takes_of rfl rfl rfl rfl) (ma_cons (me_var 0 (pv 0)) (ma_cons (me_var 1 (pv 1)) (ma_nil))) (len_cons (len_cons (len_nil)))) (ma_cons (me_tupD T.b_tuple (me_var 3 (pv 3))) (ma_cons (me_fz (ml_listD T.b_list (me_var 4 (pv 4)))) (ma_nil))))))) (mss_nil)) (mss_one (ms_ret (me_tup (ma_cons (me_call (ok__law_name T) rfl (by exact hr.mono (by decide)) (by rfl) T.g__law_name T.F__law_name.kp T.B__law_name (takes_of rfl rfl rfl rfl) (ma_cons (me_var 0 (pv 0)) (ma_cons (me_var 1 (pv 1)) (ma_nil))) (len_cons (len_cons (len_nil)))) (ma_cons (me_fz (ml_listD T.b_list (me_var 3 (pv 3)))) (ma_cons (me_tupD T.b_tuple (me_var 4 (pv 4))) (ma_nil)))))))))
theorem sc__law_wrong : FnScope ["_law_rule_here", "_law_way", "_law_none", "_law_some", "_law_more", "_law_name_here", "_law_wants_here", "_law_deeds_here", "_law_odd"] ["_law_rule_here", "_law_way"] (defScope s__law_wrong) := ⟨rfl, rfl, rfl, by decide +kernel, rfl, by decide +kernel, by decide +kernel⟩
theorem ok__law_wrong (T : Txt K mg A) : FnOk P w K mg base (L2.CX P w) 2 A.a__law_wrong A.fd__law_wrong ["_law_rule_here", "_law_way"] (spM ⟨P, w, K, mg⟩ 2 f__law_wrong) := fn_mir (N := ["_law_rule_here", "_law_way", "_law_none", "_law_some", "_law_more", "_law_name_here", "_law_wants_here", "_law_deeds_here", "_law_odd"]) (ps := ["_law_rule_here", "_law_way"]) (k := 1) T.F__law_wrong sc__law_wrong (by decide) (m := m__law_wrong) fun cdv _ outer s H E hr => mss_cons (ms_asg (me_var 0 (pv 0)) (mg_tup3 (i := 5) (j := 6) (l := 7) rfl sc__law_wrong.nd)) (mss_cons (ms_set (i := 2) sc__law_wrong.nd (me_tup (ma_cons (me_str) (ma_cons (me_tup (ma_cons (me_str) (ma_cons (me_str) (ma_nil)))) (ma_nil))))) (mss_cons (ms_set (i := 3) sc__law_wrong.nd (me_fz (ml_lst (ma_cons (me_fz (ml_lst (ma_cons (me_str) (ma_nil)))) (ma_cons (me_tup (ma_cons (me_str) (ma_nil))) (ma_cons (me_tup (ma_cons (me_str) (ma_cons (me_str) (ma_cons (me_int) (ma_cons (me_int) (ma_cons (me_int) (ma_cons (me_int) (ma_nil)))))))) (ma_cons (me_tup (ma_cons (me_str) (ma_cons (me_bl) (ma_nil)))) (ma_cons (me_tup (ma_cons (me_str) (ma_cons (me_str) (ma_nil)))) (ma_cons (me_tup (ma_cons (me_str) (ma_cons (me_powc (i := 10) (j := 9) (k := 1000000000) (by decide +kernel) (by decide +kernel)) (ma_nil)))) (ma_cons (me_tup (ma_cons (me_str) (ma_cons (me_fz (ml_lst (ma_nil))) (ma_nil)))) (ma_cons (me_tup (ma_nil)) (ma_nil)))))))))))) (mss_cons (ms_if (mt_lt (me_var 1 (pv 1)) (me_int)) (mss_one (ms_ret (me_tup (ma_cons (me_var 5 (pv 5)) (ma_cons (me_fz (ml_cat (me_slice (me_fz (ml_listD T.b_list (me_var 6 (pv 6)))) (mo_none) (mo_some (me_int))) (me_fz (ml_lst (ma_cons (me_tup (ma_cons (me_str) (ma_cons (me_ix (me_var 3 (pv 3)) (me_var 1 (pv 1))) (ma_nil)))) (ma_nil)))))) (ma_cons (me_fz (ml_lst (ma_nil))) (ma_nil))))))) (mss_nil)) (mss_cons (ms_if (mt_gt (me_var 1 (pv 1)) (me_int)) (mss_cons (ms_set (i := 8) sc__law_wrong.nd (me_fz (ml_lst (ma_cons (me_fz (ml_lst (ma_cons (me_str) (ma_cons (me_tup (ma_cons (me_str) (ma_nil))) (ma_nil))))) (ma_cons (me_tup (ma_cons (me_str) (ma_cons (me_tup (ma_cons (me_str) (ma_nil))) (ma_cons (me_int) (ma_nil))))) (ma_cons (me_tup (ma_cons (me_str) (ma_cons (me_tup (ma_cons (me_str) (ma_nil))) (ma_nil)))) (ma_cons (me_tup (ma_cons (me_int) (ma_cons (me_tup (ma_cons (me_str) (ma_nil))) (ma_nil)))) (ma_cons (me_non) (ma_cons (me_tup (ma_cons (me_str) (ma_nil))) (ma_cons (me_str) (ma_nil))))))))))) (mss_one (ms_ret (me_tup (ma_cons (me_var 5 (pv 5)) (ma_cons (me_fz (ml_cat (me_slice (me_fz (ml_listD T.b_list (me_var 6 (pv 6)))) (mo_none) (mo_some (me_int))) (me_fz (ml_lst (ma_cons (me_ix (me_var 8 (pv 8)) (me_sub (me_var 1 (pv 1)) (me_int))) (ma_nil)))))) (ma_cons (me_fz (ml_lst (ma_nil))) (ma_nil)))))))) (mss_nil)) (mss_cons (ms_if (mt_lt (me_var 1 (pv 1)) (me_int)) (mss_cons (ms_set (i := 8) sc__law_wrong.nd (me_fz (ml_lst (ma_cons (me_tup (ma_cons (me_str) (ma_cons (me_int) (ma_nil)))) (ma_cons (me_tup (ma_cons (me_str) (ma_cons (me_neg (me_int)) (ma_nil)))) (ma_cons (me_tup (ma_cons (me_str) (ma_cons (me_fz (ml_lst (ma_cons (me_str) (ma_nil)))) (ma_nil)))) (ma_cons (me_tup (ma_cons (me_str) (ma_cons (me_tup (ma_cons (me_str) (ma_cons (me_str) (ma_nil)))) (ma_nil)))) (ma_cons (me_tup (ma_cons (me_str) (ma_cons (me_int) (ma_nil)))) (ma_cons (me_fz (ml_lst (ma_cons (me_str) (ma_cons (me_int) (ma_nil))))) (ma_cons (me_tup (ma_cons (me_str) (ma_cons (me_int) (ma_cons (me_int) (ma_nil))))) (ma_nil))))))))))) (mss_cons (ms_if (mt_eq (by have q := hu64 hr; exact q) (me_mod (me_len T.b_len (me_var 5 (pv 5))) (me_int)) (me_int)) (mss_one (ms_set (i := 8) sc__law_wrong.nd (me_fz (ml_lst (ma_cons (me_tup (ma_cons (me_str) (ma_cons (me_bl) (ma_nil)))) (ma_cons (me_tup (ma_cons (me_str) (ma_cons (me_int) (ma_nil)))) (ma_cons (me_tup (ma_cons (me_str) (ma_cons (me_non) (ma_nil)))) (ma_cons (me_tup (ma_cons (me_str) (ma_cons (me_tup (ma_cons (me_str) (ma_nil))) (ma_nil)))) (ma_cons (me_tup (ma_cons (me_int) (ma_cons (me_int) (ma_nil)))) (ma_cons (me_non) (ma_cons (me_tup (ma_cons (me_str) (ma_nil))) (ma_nil)))))))))))) (mss_nil)) (mss_one (ms_ret (me_tup (ma_cons (me_var 5 (pv 5)) (ma_cons (me_fz (ml_cat (me_fz (ml_cat (me_slice (me_fz (ml_listD T.b_list (me_var 6 (pv 6)))) (mo_none) (mo_some (me_int))) (me_fz (ml_lst (ma_cons (me_var 2 (pv 2)) (ma_nil)))))) (me_slice (me_fz (ml_listD T.b_list (me_var 6 (pv 6)))) (mo_none) (mo_some (me_int))))) (ma_cons (me_fz (ml_lst (ma_cons (me_ix (me_var 8 (pv 8)) (me_sub (me_var 1 (pv 1)) (me_int))) (ma_nil)))) (ma_nil))))))))) (mss_nil)) (mss_cons (ms_set (i := 4) sc__law_wrong.nd (me_fz (ml_lst (ma_cons (me_tup (ma_cons (me_var 5 (pv 5)) (ma_cons (me_fz (ml_lst (ma_cons (me_var 2 (pv 2)) (ma_nil)))) (ma_cons (me_fz (ml_lst (ma_nil))) (ma_nil))))) (ma_cons (me_tup (ma_cons (me_var 5 (pv 5)) (ma_cons (me_fz (ml_lst (ma_nil))) (ma_cons (me_fz (ml_lst (ma_nil))) (ma_nil))))) (ma_cons (me_tup (ma_cons (me_var 5 (pv 5)) (ma_cons (me_fz (ml_rep (ml_listD T.b_list (me_slice (me_var 6 (pv 6)) (mo_none) (mo_some (me_int)))))) (ma_cons (me_fz (ml_lst (ma_nil))) (ma_nil))))) (ma_cons (me_tup (ma_cons (me_var 5 (pv 5)) (ma_cons (me_slice (me_var 6 (pv 6)) (mo_none) (mo_some (me_int))) (ma_cons (me_fz (ml_rep (ml_lst (ma_cons (me_tup (ma_cons (me_str) (ma_cons (me_int) (ma_nil)))) (ma_nil))))) (ma_nil))))) (ma_nil)))))))) (mss_cons (ms_set (i := 4) sc__law_wrong.nd (me_fz (ml_cat (me_var 4 (pv 4)) (me_fz (ml_lst (ma_cons (me_tup (ma_cons (me_str) (ma_cons (me_var 6 (pv 6)) (ma_cons (me_var 7 (pv 7)) (ma_nil))))) (ma_cons (me_fz (ml_lst (ma_cons (me_var 5 (pv 5)) (ma_cons (me_var 6 (pv 6)) (ma_cons (me_var 7 (pv 7)) (ma_nil)))))) (ma_cons (me_tup (ma_cons (me_var 5 (pv 5)) (ma_cons (me_var 6 (pv 6)) (ma_nil)))) (ma_cons (me_tup (ma_cons (me_var 5 (pv 5)) (ma_cons (me_var 6 (pv 6)) (ma_cons (me_non) (ma_nil))))) (ma_nil)))))))))) (mss_one (ms_ret (me_ix (me_var 4 (pv 4)) (me_sub (me_var 1 (pv 1)) (me_int))))))))))))
theorem sc_is_name : FnScope ["thing", "sign"] ["thing"] (defScope s_is_name) := ⟨rfl, rfl, rfl, by decide +kernel, rfl, by decide +kernel, by decide +kernel⟩
theorem ok_is_name (T : Txt K mg A) : FnOk P w K mg base (L2.CX P w) 2 A.a_is_name A.fd_is_name ["thing"] (spM ⟨P, w, K, mg⟩ 1 PG.f_is_name) := fn_mir (N := ["thing", "sign"]) (ps := ["thing"]) (k := 1) T.F_is_name sc_is_name (by decide) (m := PG.m_is_name) fun cdv _ outer s H E hr => mss_cons (ms_if (mt_bool (mw_or (mt_not (mt_val (me_isD (T := "str") T.b_isinstance T.b_str rfl (by decide) (me_var 0 (pv 0))))) (mw_or1 (mt_not (mt_chain op_le op_le (me_int) (me_len T.b_len (me_var 0 (pv 0))) (me_globI (T.v_MOST_LETTERS.choose_spec))))))) (mss_one (ms_ret (me_bl))) (mss_nil)) (mss_one (ms_ret (me_all rfl T.b_all (me_fz (ml_lc rfl sc_is_name.nd (mi_seq (me_var 0 (pv 0))) (blkOk_by (own := [("sign", 1)]) rfl) (fun _ _ _ _ _ => mg_name (i := 1) sc_is_name.nd) (fun _ _ _ _ _ => mts_nil) (fun _ _ _ _ _ => me_inT (me_var 1 (pv 1)) (me_globS (T.v_SMALL.choose_spec))) (by decide))))))
theorem sc_is_row : FnScope ["thing"] ["thing"] (defScope s_is_row) := ⟨rfl, rfl, rfl, by decide +kernel, rfl, by decide +kernel, by decide +kernel⟩
theorem ok_is_row (T : Txt K mg A) : FnOk P w K mg base (L2.CX P w) 3 A.a_is_row A.fd_is_row ["thing"] (spM ⟨P, w, K, mg⟩ 1 PG.f_is_row) := fn_mir (N := ["thing"]) (ps := ["thing"]) (k := 2) T.F_is_row sc_is_row (by decide) (m := PG.m_is_row) fun cdv _ outer s H E hr => mss_one (ms_ret (me_and (me_isD (T := "tuple") T.b_isinstance T.b_tuple rfl (by decide) (me_var 0 (pv 0))) (me_and (me_chain op_le op_le (me_int) (me_len T.b_len (me_var 0 (pv 0))) (me_add (me_int) (me_globI (T.v_MOST_VALUES.choose_spec)))) (me_one (me_call (ok_is_name T) rfl (by exact hr.mono (by decide)) (by rfl) T.g_is_name T.F_is_name.kp T.B_is_name (takes_of rfl rfl rfl rfl) (ma_cons (me_ix (me_var 0 (pv 0)) (me_int)) (ma_nil)) (len_cons (len_nil)))))))
theorem sc_is_whole : FnScope ["thing"] ["thing"] (defScope s_is_whole) := ⟨rfl, rfl, rfl, by decide +kernel, rfl, by decide +kernel, by decide +kernel⟩
theorem ok_is_whole (T : Txt K mg A) : FnOk P w K mg base (L2.CX P w) 2 A.a_is_whole A.fd_is_whole ["thing"] (spM ⟨P, w, K, mg⟩ 1 PG.f_is_whole) := fn_mir (N := ["thing"]) (ps := ["thing"]) (k := 1) T.F_is_whole sc_is_whole (by decide) (m := PG.m_is_whole) fun cdv _ outer s H E hr => mss_one (ms_ret (me_and (me_isD (T := "int") T.b_isinstance T.b_int rfl (by decide) (me_var 0 (pv 0))) (me_one (me_not (me_isD (T := "bool") T.b_isinstance T.b_bool rfl (by decide) (me_var 0 (pv 0)))))))
theorem sc_is_value : FnScope ["thing"] ["thing"] (defScope s_is_value) := ⟨rfl, rfl, rfl, by decide +kernel, rfl, by decide +kernel, by decide +kernel⟩
theorem ok_is_value (T : Txt K mg A) : FnOk P w K mg base (L2.CX P w) 3 A.a_is_value A.fd_is_value ["thing"] (spM ⟨P, w, K, mg⟩ 1 PG.f_is_value) := fn_mir (N := ["thing"]) (ps := ["thing"]) (k := 2) T.F_is_value sc_is_value (by decide) (m := PG.m_is_value) fun cdv _ outer s H E hr => mss_one (ms_ret (me_or (me_call (ok_is_name T) rfl (by exact hr.mono (by decide)) (by rfl) T.g_is_name T.F_is_name.kp T.B_is_name (takes_of rfl rfl rfl rfl) (ma_cons (me_var 0 (pv 0)) (ma_nil)) (len_cons (len_nil))) (me_one (me_and (me_call (ok_is_whole T) rfl (by exact hr.mono (by decide)) (by rfl) T.g_is_whole T.F_is_whole.kp T.B_is_whole (takes_of rfl rfl rfl rfl) (ma_cons (me_var 0 (pv 0)) (ma_nil)) (len_cons (len_nil))) (me_one (me_chain op_le op_le (me_neg (me_globI (T.v_MOST_NUMBER.choose_spec))) (me_var 0 (pv 0)) (me_globI (T.v_MOST_NUMBER.choose_spec))))))))
theorem sc_is_word : FnScope ["thing", "sign"] ["thing"] (defScope s_is_word) := ⟨rfl, rfl, rfl, by decide +kernel, rfl, by decide +kernel, by decide +kernel⟩
theorem ok_is_word (T : Txt K mg A) : FnOk P w K mg base (L2.CX P w) 2 A.a_is_word A.fd_is_word ["thing"] (spM ⟨P, w, K, mg⟩ 1 PG.f_is_word) := fn_mir (N := ["thing", "sign"]) (ps := ["thing"]) (k := 1) T.F_is_word sc_is_word (by decide) (m := PG.m_is_word) fun cdv _ outer s H E hr => mss_cons (ms_if (mt_bool (mw_or (mt_not (mt_val (me_isD (T := "str") T.b_isinstance T.b_str rfl (by decide) (me_var 0 (pv 0))))) (mw_or1 (mt_not (mt_chain op_le op_le (me_int) (me_len T.b_len (me_var 0 (pv 0))) (me_globI (T.v_MOST_LETTERS.choose_spec))))))) (mss_one (ms_ret (me_bl))) (mss_nil)) (mss_one (ms_ret (me_and (me_inT (me_ix (me_var 0 (pv 0)) (me_int)) (me_globS (T.v_GREAT.choose_spec))) (me_one (me_all rfl T.b_all (me_fz (ml_lc rfl sc_is_word.nd (mi_seq (me_slice (me_var 0 (pv 0)) (mo_some (me_int)) (mo_none))) (blkOk_by (own := [("sign", 1)]) rfl) (fun _ _ _ _ _ => mg_name (i := 1) sc_is_word.nd) (fun _ _ _ _ _ => mts_nil) (fun _ _ _ _ _ => me_inT (me_var 1 (pv 1)) (me_globS (T.v_SMALL.choose_spec))) (by decide))))))))
theorem sc_is_pattern : FnScope ["thing", "one"] ["thing"] (defScope s_is_pattern) := ⟨rfl, rfl, rfl, by decide +kernel, rfl, by decide +kernel, by decide +kernel⟩
theorem ok_is_pattern (T : Txt K mg A) : FnOk P w K mg base (L2.CX P w) 4 A.a_is_pattern A.fd_is_pattern ["thing"] (spM ⟨P, w, K, mg⟩ 1 PG.f_is_pattern) := fn_mir (N := ["thing", "one"]) (ps := ["thing"]) (k := 3) T.F_is_pattern sc_is_pattern (by decide) (m := PG.m_is_pattern) fun cdv _ outer s H E hr => mss_one (ms_ret (me_and (me_call (ok_is_row T) rfl (by exact hr.mono (by decide)) (by rfl) T.g_is_row T.F_is_row.kp T.B_is_row (takes_of rfl rfl rfl rfl) (ma_cons (me_var 0 (pv 0)) (ma_nil)) (len_cons (len_nil))) (me_one (me_all rfl T.b_all (me_fz (ml_lc rfl sc_is_pattern.nd (mi_seq (me_slice (me_var 0 (pv 0)) (mo_some (me_int)) (mo_none))) (blkOk_by (own := [("one", 1)]) rfl) (fun _ _ _ _ _ => mg_name (i := 1) sc_is_pattern.nd) (fun _ _ _ _ _ => mts_nil) (fun _ _ _ _ _ => me_or (me_call (ok_is_value T) rfl (by exact hr.mono (by decide)) (by rfl) T.g_is_value T.F_is_value.kp T.B_is_value takes0 (ma_cons (me_var 1 (pv 1)) (ma_nil)) (len_cons (len_nil))) (me_one (me_call (ok_is_word T) rfl (by exact hr.mono (by decide)) (by rfl) T.g_is_word T.F_is_word.kp T.B_is_word takes0 (ma_cons (me_var 1 (pv 1)) (ma_nil)) (len_cons (len_nil))))) (by decide)))))))
theorem sc_is_want : FnScope ["thing"] ["thing"] (defScope s_is_want) := ⟨rfl, rfl, rfl, by decide +kernel, rfl, by decide +kernel, by decide +kernel⟩
theorem ok_is_want (T : Txt K mg A) : FnOk P w K mg base (L2.CX P w) 5 A.a_is_want A.fd_is_want ["thing"] (spM ⟨P, w, K, mg⟩ 1 PG.f_is_want) := fn_mir (N := ["thing"]) (ps := ["thing"]) (k := 4) T.F_is_want sc_is_want (by decide) (m := PG.m_is_want) fun cdv _ outer s H E hr => mss_cons (ms_if (mt_bool (mw_or (mt_not (mt_val (me_isD (T := "tuple") T.b_isinstance T.b_tuple rfl (by decide) (me_var 0 (pv 0))))) (mw_or (mt_ne (by have q := hu64 hr; exact q) (me_len T.b_len (me_var 0 (pv 0))) (me_int)) (mw_or1 (mt_not (mt_val (me_isD (T := "str") T.b_isinstance T.b_str rfl (by decide) (me_ix (me_var 0 (pv 0)) (me_int))))))))) (mss_one (ms_ret (me_bl))) (mss_nil)) (mss_one (ms_ret (me_and (me_in (by have q := hu65 hr; exact q) (me_ix (me_var 0 (pv 0)) (me_int)) (me_tup (ma_cons (me_str) (ma_cons (me_str) (ma_nil))))) (me_one (me_call (ok_is_pattern T) rfl (by exact hr.mono (by decide)) (by rfl) T.g_is_pattern T.F_is_pattern.kp T.B_is_pattern (takes_of rfl rfl rfl rfl) (ma_cons (me_ix (me_var 0 (pv 0)) (me_int)) (ma_nil)) (len_cons (len_nil)))))))
theorem sc_are_wants : FnScope ["thing", "want"] ["thing"] (defScope s_are_wants) := ⟨rfl, rfl, rfl, by decide +kernel, rfl, by decide +kernel, by decide +kernel⟩
theorem ok_are_wants (T : Txt K mg A) : FnOk P w K mg base (L2.CX P w) 6 A.a_are_wants A.fd_are_wants ["thing"] (spM ⟨P, w, K, mg⟩ 1 PG.f_are_wants) := fn_mir (N := ["thing", "want"]) (ps := ["thing"]) (k := 5) T.F_are_wants sc_are_wants (by decide) (m := PG.m_are_wants) fun cdv _ outer s H E hr => mss_cons (ms_if (mt_bool (mw_or (mt_not (mt_val (me_isD2 (T1 := "list") (T2 := "tuple") T.b_isinstance T.b_list rfl (by decide) T.b_tuple rfl (by decide) (me_var 0 (pv 0))))) (mw_or1 (mt_not (mt_chain op_le op_le (me_int) (me_len T.b_len (me_var 0 (pv 0))) (me_globI (T.v_MOST_WANTS.choose_spec))))))) (mss_one (ms_ret (me_bl))) (mss_nil)) (mss_one (ms_ret (me_and (me_all rfl T.b_all (me_fz (ml_lc rfl sc_are_wants.nd (mi_seq (me_var 0 (pv 0))) (blkOk_by (own := [("want", 1)]) rfl) (fun _ _ _ _ _ => mg_name (i := 1) sc_are_wants.nd) (fun _ _ _ _ _ => mts_nil) (fun _ _ _ _ _ => me_call (ok_is_want T) rfl (by exact hr.mono (by decide)) (by rfl) T.g_is_want T.F_is_want.kp T.B_is_want takes0 (ma_cons (me_var 1 (pv 1)) (ma_nil)) (len_cons (len_nil))) (by decide)))) (me_one (me_eq (by have q := hu64 hr; exact q) (me_ix (me_ix (me_var 0 (pv 0)) (me_int)) (me_int)) (me_str))))))
theorem sc_words_of : FnScope ["wants", "found", "sort", "pattern", "term"] ["wants"] (defScope s_words_of) := ⟨rfl, rfl, rfl, by decide +kernel, rfl, by decide +kernel, by decide +kernel⟩
theorem ok_words_of (T : Txt K mg A) : FnOk P w K mg base (L2.CX P w) 3 A.a_words_of A.fd_words_of ["wants"] (spM ⟨P, w, K, mg⟩ 1 PG.f_words_of) := fn_mir (N := ["wants", "found", "sort", "pattern", "term"]) (ps := ["wants"]) (k := 2) T.F_words_of sc_words_of (by decide) (m := PG.m_words_of) fun cdv _ outer s H E hr => mss_cons (ms_set (i := 1) sc_words_of.nd (me_newD)) (mss_cons (ms_for (passes_of rfl) rfl (mi_seq (me_var 0 (pv 0))) (mg_tup2 (i := 2) (j := 3) rfl sc_words_of.nd) (mss_one (ms_if (mt_eq (by have q := hu64 hr; exact q) (me_var 2 (pv 2)) (me_str)) (mss_one (ms_for (passes_of rfl) rfl (mi_seq (me_slice (me_var 3 (pv 3)) (mo_some (me_int)) (mo_none))) (mg_name (i := 4) sc_words_of.nd) (mss_one (ms_if (mt_val (me_call (ok_is_word T) rfl (by exact hr.mono (by decide)) (by rfl) T.g_is_word T.F_is_word.kp T.B_is_word (takes_of rfl rfl rfl rfl) (ma_cons (me_var 4 (pv 4)) (ma_nil)) (len_cons (len_nil)))) (mss_one (ms_putD (me_var 1 (pv 1)) (me_var 4 (pv 4)) (me_bl))) (mss_nil))))) (mss_nil)))) (mss_one (ms_ret (me_var 1 (pv 1)))))
theorem ok_words_ofc (T : Txt K mg A) : FnOk P w K mg base (L2.CX P w) 3 A.a_words_of A.fd_words_of ["wants"] (spM ⟨P, w, K, mg⟩ 1 PG.f_words_ofc) := fn_close rfl (ok_words_of T)
theorem sc_is_deed : FnScope ["thing", "wants", "known", "term"] ["thing", "wants"] (defScope s_is_deed) := ⟨rfl, rfl, rfl, by decide +kernel, rfl, by decide +kernel, by decide +kernel⟩
theorem ok_is_deed (T : Txt K mg A) : FnOk P w K mg base (L2.CX P w) 5 A.a_is_deed A.fd_is_deed ["thing", "wants"] (spM ⟨P, w, K, mg⟩ 2 PG.f_is_deed) := fn_mir (N := ["thing", "wants", "known", "term"]) (ps := ["thing", "wants"]) (k := 4) T.F_is_deed sc_is_deed (by decide) (m := PG.m_is_deed) fun cdv _ outer s H E hr => mss_cons (ms_if (mt_bool (mw_or (mt_not (mt_val (me_isD (T := "tuple") T.b_isinstance T.b_tuple rfl (by decide) (me_var 0 (pv 0))))) (mw_or (mt_ne (by have q := hu64 hr; exact q) (me_len T.b_len (me_var 0 (pv 0))) (me_int)) (mw_or1 (mt_not (mt_val (me_isD (T := "str") T.b_isinstance T.b_str rfl (by decide) (me_ix (me_var 0 (pv 0)) (me_int))))))))) (mss_one (ms_ret (me_bl))) (mss_nil)) (mss_cons (ms_if (mt_eq (by have q := hu64 hr; exact q) (me_ix (me_var 0 (pv 0)) (me_int)) (me_str)) (mss_one (ms_ret (me_and (me_call (ok_is_whole T) rfl (by exact hr.mono (by decide)) (by rfl) T.g_is_whole T.F_is_whole.kp T.B_is_whole (takes_of rfl rfl rfl rfl) (ma_cons (me_ix (me_var 0 (pv 0)) (me_int)) (ma_nil)) (len_cons (len_nil))) (me_and (me_chain op_le op_lt (me_int) (me_ix (me_var 0 (pv 0)) (me_int)) (me_len T.b_len (me_var 1 (pv 1)))) (me_one (me_eq (by have q := hu64 hr; exact q) (me_ix (me_ix (me_var 1 (pv 1)) (me_ix (me_var 0 (pv 0)) (me_int))) (me_int)) (me_str))))))) (mss_nil)) (mss_cons (ms_if (mt_bool (mw_or (mt_ne (by have q := hu64 hr; exact q) (me_ix (me_var 0 (pv 0)) (me_int)) (me_str)) (mw_or1 (mt_not (mt_val (me_call (ok_is_pattern T) rfl (by exact hr.mono (by decide)) (by rfl) T.g_is_pattern T.F_is_pattern.kp T.B_is_pattern (takes_of rfl rfl rfl rfl) (ma_cons (me_ix (me_var 0 (pv 0)) (me_int)) (ma_nil)) (len_cons (len_nil)))))))) (mss_one (ms_ret (me_bl))) (mss_nil)) (mss_cons (ms_set (i := 2) sc_is_deed.nd (me_call (ok_words_ofc T) rfl (by exact hr.mono (by decide)) (by rfl) T.g_words_of T.F_words_of.kp T.B_words_of (takes_of rfl rfl rfl rfl) (ma_cons (me_var 1 (pv 1)) (ma_nil)) (len_cons (len_nil)))) (mss_one (ms_ret (me_all rfl T.b_all (me_fz (ml_lc rfl sc_is_deed.nd (mi_seq (me_slice (me_ix (me_var 0 (pv 0)) (me_int)) (mo_some (me_int)) (mo_none))) (blkOk_by (own := [("term", 3)]) rfl) (fun _ _ _ _ _ => mg_name (i := 3) sc_is_deed.nd) (fun _ _ _ _ _ => mts_one (mt_val (me_call (ok_is_word T) rfl (by exact hr.mono (by decide)) (by rfl) T.g_is_word T.F_is_word.kp T.B_is_word takes0 (ma_cons (me_var 3 (pv 3)) (ma_nil)) (len_cons (len_nil))))) (fun _ _ _ _ _ => me_inD (me_var 3 (pv 3)) (me_var 2 (pv 2))) (by decide)))))))))
theorem sc_is_rule : FnScope ["thing", "deed"] ["thing"] (defScope s_is_rule) := ⟨rfl, rfl, rfl, by decide +kernel, rfl, by decide +kernel, by decide +kernel⟩
theorem ok_is_rule (T : Txt K mg A) : FnOk P w K mg base (L2.CX P w) 7 A.a_is_rule A.fd_is_rule ["thing"] (spM ⟨P, w, K, mg⟩ 1 PG.f_is_rule) := fn_mir (N := ["thing", "deed"]) (ps := ["thing"]) (k := 6) T.F_is_rule sc_is_rule (by decide) (m := PG.m_is_rule) fun cdv _ outer s H E hr => mss_cons (ms_if (mt_bool (mw_or (mt_not (mt_val (me_isD (T := "tuple") T.b_isinstance T.b_tuple rfl (by decide) (me_var 0 (pv 0))))) (mw_or (mt_ne (by have q := hu64 hr; exact q) (me_len T.b_len (me_var 0 (pv 0))) (me_int)) (mw_or (mt_not (mt_val (me_call (ok_is_name T) rfl (by exact hr.mono (by decide)) (by rfl) T.g_is_name T.F_is_name.kp T.B_is_name (takes_of rfl rfl rfl rfl) (ma_cons (me_ix (me_var 0 (pv 0)) (me_int)) (ma_nil)) (len_cons (len_nil))))) (mw_or1 (mt_not (mt_val (me_call (ok_are_wants T) rfl (by exact hr.mono (by decide)) (by rfl) T.g_are_wants T.F_are_wants.kp T.B_are_wants (takes_of rfl rfl rfl rfl) (ma_cons (me_ix (me_var 0 (pv 0)) (me_int)) (ma_nil)) (len_cons (len_nil)))))))))) (mss_one (ms_ret (me_bl))) (mss_nil)) (mss_cons (ms_if (mt_bool (mw_or (mt_not (mt_val (me_isD2 (T1 := "list") (T2 := "tuple") T.b_isinstance T.b_list rfl (by decide) T.b_tuple rfl (by decide) (me_ix (me_var 0 (pv 0)) (me_int))))) (mw_or1 (mt_gt (me_len T.b_len (me_ix (me_var 0 (pv 0)) (me_int))) (me_globI (T.v_MOST_DEEDS.choose_spec)))))) (mss_one (ms_ret (me_bl))) (mss_nil)) (mss_one (ms_ret (me_all rfl T.b_all (me_fz (ml_lc rfl sc_is_rule.nd (mi_seq (me_ix (me_var 0 (pv 0)) (me_int))) (blkOk_by (own := [("deed", 1)]) rfl) (fun _ _ _ _ _ => mg_name (i := 1) sc_is_rule.nd) (fun _ _ _ _ _ => mts_nil) (fun _ _ _ _ _ => me_call (ok_is_deed T) rfl (by exact hr.mono (by decide)) (by rfl) T.g_is_deed T.F_is_deed.kp T.B_is_deed takes0 (ma_cons (me_var 1 (pv 1)) (ma_cons (me_ix (me_var 0 (pv 0)) (me_int)) (ma_nil))) (len_cons (len_cons (len_nil)))) (by decide)))))))
theorem sc_need_rules : FnScope ["rules", "found", "rule", "one"] ["rules"] (defScope s_need_rules) := ⟨rfl, rfl, rfl, by decide +kernel, rfl, by decide +kernel, by decide +kernel⟩
theorem ok_need_rules (T : Txt K mg A) : FnOk P w K mg base (L2.CX P w) 8 A.a_need_rules A.fd_need_rules ["rules"] (spM ⟨P, w, K, mg⟩ 1 PG.f_need_rules) := fn_mir (N := ["rules", "found", "rule", "one"]) (ps := ["rules"]) (k := 7) T.F_need_rules sc_need_rules (by decide) (m := PG.m_need_rules) fun cdv _ outer s H E hr => mss_cons (ms_set (i := 1) sc_need_rules.nd (me_cell (ml_lst (ma_nil)))) (mss_cons (ms_for (passes_of rfl) rfl (mi_seq (me_var 0 (pv 0))) (mg_name (i := 2) sc_need_rules.nd) (mss_cons (ms_if (mt_bool (mw_or (mt_eq (by have q := hu64 hr; exact q) (me_len T.b_len (me_var 1 (pv 1))) (me_globI (T.v_MOST_RULES.choose_spec))) (mw_or (mt_not (mt_val (me_call (ok_is_rule T) rfl (by exact hr.mono (by decide)) (by rfl) T.g_is_rule T.F_is_rule.kp T.B_is_rule (takes_of rfl rfl rfl rfl) (ma_cons (me_var 2 (pv 2)) (ma_nil)) (len_cons (len_nil))))) (mw_or1 (mt_in (by have q := hu65 hr; exact q) (me_ix (me_var 2 (pv 2)) (me_int)) (me_fz (ml_lc rfl sc_need_rules.nd (mi_seq (me_var 1 (pv 1))) (blkOk_by (own := [("one", 3)]) rfl) (fun _ _ _ _ _ => mg_name (i := 3) sc_need_rules.nd) (fun _ _ _ _ _ => mts_nil) (fun _ _ _ _ _ => me_ix (me_var 3 (pv 3)) (me_int)) (by decide)))))))) (mss_one (ms_raise rfl (takes_of rfl rfl rfl rfl) (pmk_own PySem.F.excBase_ValueError T.x_BadRule T.c_BadRule T.k_BadRule (raises_own T.s_BadRule T.t_BadRule) rfl) T.c_BadRule)) (mss_nil)) (mss_one (ms_expr (me_append (me_var 1 (pv 1)) (me_tup (ma_cons (me_ix (me_var 2 (pv 2)) (me_int)) (ma_cons (me_tupD T.b_tuple (me_ix (me_var 2 (pv 2)) (me_int))) (ma_cons (me_tupD T.b_tuple (me_ix (me_var 2 (pv 2)) (me_int))) (ma_nil)))))))))) (mss_one (ms_ret (me_var 1 (pv 1)))))
theorem ok_need_rulesc (T : Txt K mg A) : FnOk P w K mg base (L2.CX P w) 8 A.a_need_rules A.fd_need_rules ["rules"] (spM ⟨P, w, K, mg⟩ 1 PG.f_need_rulesc) := fn_close rfl (ok_need_rules T)
theorem sc_Weave___init__ : FnScope ["self", "rules", "rule"] ["self", "rules"] (defScope s_Weave___init__) := ⟨rfl, rfl, rfl, by decide +kernel, rfl, by decide +kernel, by decide +kernel⟩
theorem ok_Weave___init__ (T : Txt K mg A) : FnOk P w K mg base (L2.CX P w) 9 A.a_Weave___init__ A.fd_Weave___init__ ["self", "rules"] (spM ⟨P, w, K, mg⟩ 2 f_Weave___init__) := fn_mir (N := ["self", "rules", "rule"]) (ps := ["self", "rules"]) (k := 8) T.F_Weave___init__ sc_Weave___init__ (by decide) (m := m_Weave___init__) fun cdv _ outer s H E hr => mss_cons (ms_setFld ⟨T.c_Weave, T.cl_Weave⟩ T.n_Weave_rules (me_var 0 (pv 0)) (me_call (ok_need_rulesc T) rfl (by exact hr.mono (by decide)) (by rfl) T.g_need_rules T.F_need_rules.kp T.B_need_rules (takes_of rfl rfl rfl rfl) (ma_cons (me_var 1 (pv 1)) (ma_nil)) (len_cons (len_nil)))) (mss_bad)
theorem sc_Engine___init__ : FnScope ["self", "rules"] ["self", "rules"] (defScope s_Engine___init__) := ⟨rfl, rfl, rfl, by decide +kernel, rfl, by decide +kernel, by decide +kernel⟩
theorem ok_Engine___init__ (T : Txt K mg A) : FnOk P w K mg base (L2.CX P w) 11 A.a_Engine___init__ A.fd_Engine___init__ ["self", "rules"] (spM ⟨P, w, K, mg⟩ 2 f_Engine___init__) := fn_mir (N := ["self", "rules"]) (ps := ["self", "rules"]) (k := 10) T.F_Engine___init__ sc_Engine___init__ (by decide) (m := m_Engine___init__) fun cdv _ outer s H E hr => mss_cons (ms_setFld ⟨T.c_Engine, T.cl_Engine⟩ T.n_Engine_weave (me_var 0 (pv 0)) (me_make T.c_Weave T.mk_Weave (ok_Weave___init__ T) (by exact hr.mono (by decide)) (by rfl) T.B_Weave___init__ (takes_of rfl rfl rfl rfl) (ma_cons (me_var 1 (pv 1)) (ma_nil)) (len_cons (len_nil)))) (mss_bad)
theorem sc__law_refused : FnScope ["_law_rules", "_law_sort", "e", "_law_others"] ["_law_rules", "_law_sort"] (defScope s__law_refused) := ⟨rfl, rfl, rfl, by decide +kernel, rfl, by decide +kernel, by decide +kernel⟩
theorem ok__law_refused (T : Txt K mg A) : FnOk P w K mg base (L2.CX P w) 13 A.a__law_refused A.fd__law_refused ["_law_rules", "_law_sort"] (spM ⟨P, w, K, mg⟩ 2 f__law_refused) := fn_mir (N := ["_law_rules", "_law_sort", "e", "_law_others"]) (ps := ["_law_rules", "_law_sort"]) (k := 12) T.F__law_refused sc__law_refused (by decide) (m := m__law_refused) fun cdv _ outer s H E hr => mss_cons (ms_try (m := (mIfS (mCmpT cEqD (mVar 1) (mC (.int 0))) (mDrop (mCall PG.f_need_rulesc (mCons (mVar 0) (mNil)))) (mIfS (mCmpT cEqD (mVar 1) (mC (.int 1))) (mDrop (mMake "Weave" f_Weave___init__ (mCons (mVar 0) (mNil)))) (mDrop (mMake "Engine" f_Engine___init__ (mCons (mVar 0) (mNil))))))) (hms := hs__law_refused) (i := 2) (l := 4) rfl rfl rfl sc__law_refused.nd rfl rfl (names_of rfl (by decide) T.c_WeaveError) (takes_of rfl rfl rfl rfl) (fun W pn xe tk hp => mss_one (ms_if (mt_eq (by have q := hu64 hr; exact q) (me_var 1 (pv 1)) (me_int)) (mss_one (ms_expr (me_call (ok_need_rulesc T) rfl (by exact hr.mono (by decide)) (by rfl) T.g_need_rules T.F_need_rules.kp T.B_need_rules tk (ma_cons (me_var 0 (pv 0)) (ma_nil)) (len_cons (len_nil))))) (mss_one (ms_if (mt_eq (by have q := hu64 hr; exact q) (me_var 1 (pv 1)) (me_int)) (mss_one (ms_expr (me_make T.c_Weave T.mk_Weave (ok_Weave___init__ T) (by exact hr.mono (by decide)) (by rfl) T.B_Weave___init__ tk (ma_cons (me_var 0 (pv 0)) (ma_nil)) (len_cons (len_nil))))) (mss_one (ms_expr (me_make T.c_Engine T.mk_Engine (ok_Engine___init__ T) (by exact hr.mono (by decide)) (by rfl) T.B_Engine___init__ tk (ma_cons (me_var 0 (pv 0)) (ma_nil)) (len_cons (len_nil))))))))) (tc_cons ⟨A.c_BadRule, T.c_BadRule, fun a oe pn hz hf => mss_cons (ms_set (i := 3) sc__law_refused.nd (me_fz (ml_lst (ma_cons (me_isE T.ec_BadRule hz hf (pv 2) T.b_isinstance T.c_BadThing T.kit_BadRule__BadThing) (ma_cons (me_isE T.ec_BadRule hz hf (pv 2) T.b_isinstance T.c_There T.kit_BadRule__There) (ma_cons (me_isE T.ec_BadRule hz hf (pv 2) T.b_isinstance T.c_NotThere T.kit_BadRule__NotThere) (ma_cons (me_isE T.ec_BadRule hz hf (pv 2) T.b_isinstance T.c_NoCount T.kit_BadRule__NoCount) (ma_nil)))))))) (mss_cons (ms_if (mt_bool (mw_or (mt_in (by have q := hu65 hr; exact q) (me_bl) (me_var 3 (pv 3))) (mw_or (mt_val (me_isE T.ec_BadRule hz hf (pv 2) T.b_isinstance T.c_NoRule T.kit_BadRule__NoRule)) (mw_or1 (mt_not (mt_val (me_isEB T.ec_BadRule hz hf (pv 2) T.b_isinstance T.b_ValueError rfl T.kit_BadRule__ValueError))))))) (mss_one (ms_ret (me_bl))) (mss_nil)) (mss_one (ms_ret (me_isE T.ec_BadRule hz hf (pv 2) T.b_isinstance T.c_BadRule T.kit_BadRule__BadRule)))), T.exm_BadRule, hpar__law_refused_BadRule⟩ (tc_nil))) (mss_one (ms_ret (me_bl)))
theorem sc_law : FnScope ["_law_script", "_law_base", "_law_count", "_law_rules", "_law_way", "_law_place", "_law_good", "_law_kept", "_law_found", "_law_k", "_law_other", "_law_rule_here"] ["_law_script"] (defScope s_law) := ⟨rfl, rfl, rfl, by decide +kernel, rfl, by decide +kernel, by decide +kernel⟩
theorem ok_law (T : Txt K mg A) : FnOk P w K mg base (L2.CX P w) 14 A.a_law A.fd_law ["_law_script"] (spM ⟨P, w, K, mg⟩ 1 f_law) := fn_mir (N := ["_law_script", "_law_base", "_law_count", "_law_rules", "_law_way", "_law_place", "_law_good", "_law_kept", "_law_found", "_law_k", "_law_other", "_law_rule_here"]) (ps := ["_law_script"]) (k := 13) T.F_law sc_law (by decide) (m := m_law) fun cdv _ outer s H E hr => mss_cons (ms_set (i := 1) sc_law.nd (me_call (ok__law_at T) rfl (by exact hr.mono (by decide)) (by rfl) T.g__law_at T.F__law_at.kp T.B__law_at (takes_of rfl rfl rfl rfl) (ma_cons (me_var 0 (pv 0)) (ma_cons (me_int) (ma_nil))) (len_cons (len_cons (len_nil))))) (mss_cons (ms_set (i := 2) sc_law.nd (me_add (me_int) (me_mod (me_call (ok__law_at T) rfl (by exact hr.mono (by decide)) (by rfl) T.g__law_at T.F__law_at.kp T.B__law_at (takes_of rfl rfl rfl rfl) (ma_cons (me_var 0 (pv 0)) (ma_cons (me_int) (ma_nil))) (len_cons (len_cons (len_nil)))) (me_int)))) (mss_cons (ms_if (mt_eq (by have q := hu64 hr; exact q) (me_mod (me_div (me_call (ok__law_at T) rfl (by exact hr.mono (by decide)) (by rfl) T.g__law_at T.F__law_at.kp T.B__law_at (takes_of rfl rfl rfl rfl) (ma_cons (me_var 0 (pv 0)) (ma_cons (me_int) (ma_nil))) (len_cons (len_cons (len_nil)))) (me_int)) (me_int)) (me_int)) (mss_one (ms_set (i := 2) sc_law.nd (me_add (me_int) (me_mod (me_div (me_call (ok__law_at T) rfl (by exact hr.mono (by decide)) (by rfl) T.g__law_at T.F__law_at.kp T.B__law_at (takes_of rfl rfl rfl rfl) (ma_cons (me_var 0 (pv 0)) (ma_cons (me_int) (ma_nil))) (len_cons (len_cons (len_nil)))) (me_int)) (me_int))))) (mss_nil)) (mss_cons (ms_setLcC (i := 3) rfl sc_law.nd rfl rfl (sw_true rfl rfl rfl rfl) (mi_range1 (by rfl) T.b_range (ma_cons (me_var 2 (pv 2)) (ma_nil))) (blkOk_by (own := [("_law_k", 9)]) rfl) (fun _ _ _ _ _ => mg_name (i := 9) sc_law.nd) (fun _ _ _ _ _ => mts_nil) (fun _ _ _ _ _ => me_call (ok__law_rule T) rfl (by exact hr.mono (by decide)) (by rfl) T.g__law_rule T.F__law_rule.kp T.B__law_rule takes0 (ma_cons (me_var 1 (pv 1)) (ma_cons (me_var 9 (pv 9)) (ma_cons (me_add (me_mod (me_mul (me_call (ok__law_at T) rfl (by exact hr.mono (by decide)) (by rfl) T.g__law_at T.F__law_at.kp T.B__law_at takes0 (ma_cons (me_var 0 (pv 0)) (ma_cons (me_add (me_int) (me_mod (me_var 9 (pv 9)) (me_int))) (ma_nil))) (len_cons (len_cons (len_nil)))) (me_int)) (me_int)) (me_var 9 (pv 9))) (ma_nil)))) (len_cons (len_cons (len_cons (len_nil))))) (by decide)) (mss_cons (ms_set (i := 4) sc_law.nd (me_mod (me_mod (me_mul (me_call (ok__law_at T) rfl (by exact hr.mono (by decide)) (by rfl) T.g__law_at T.F__law_at.kp T.B__law_at (takes_of rfl rfl rfl rfl) (ma_cons (me_var 0 (pv 0)) (ma_cons (me_int) (ma_nil))) (len_cons (len_cons (len_nil)))) (me_int)) (me_int)) (me_int))) (mss_cons (ms_if (mt_eq (by have q := hu64 hr; exact q) (me_var 2 (pv 2)) (me_int)) (mss_one (ms_set (i := 4) sc_law.nd (me_int))) (mss_nil)) (mss_cons (ms_set (i := 5) sc_law.nd (me_mod (me_call (ok__law_at T) rfl (by exact hr.mono (by decide)) (by rfl) T.g__law_at T.F__law_at.kp T.B__law_at (takes_of rfl rfl rfl rfl) (ma_cons (me_var 0 (pv 0)) (ma_cons (me_int) (ma_nil))) (len_cons (len_cons (len_nil)))) (me_var 2 (pv 2)))) (mss_cons (ms_set (i := 6) sc_law.nd (me_lt (me_var 2 (pv 2)) (me_int))) (mss_cons (ms_if (mt_lt (me_var 4 (pv 4)) (me_int)) (mss_cons (ms_putL (me_var 3 (pv 3)) (me_var 5 (pv 5)) (me_call (ok__law_wrong T) rfl (by exact hr.mono (by decide)) (by rfl) T.g__law_wrong T.F__law_wrong.kp T.B__law_wrong (takes_of rfl rfl rfl rfl) (ma_cons (me_ix (me_var 3 (pv 3)) (me_var 5 (pv 5))) (ma_cons (me_var 4 (pv 4)) (ma_nil))) (len_cons (len_cons (len_nil))))) (mss_one (ms_set (i := 6) sc_law.nd (me_bl)))) (mss_one (ms_if (mt_bool (mw_and (mt_lt (me_var 4 (pv 4)) (me_int)) (mw_and1 (mt_gt (me_var 2 (pv 2)) (me_int))))) (mss_cons (ms_set (i := 10) sc_law.nd (me_mod (me_add (me_add (me_var 5 (pv 5)) (me_int)) (me_mod (me_div (me_call (ok__law_at T) rfl (by exact hr.mono (by decide)) (by rfl) T.g__law_at T.F__law_at.kp T.B__law_at (takes_of rfl rfl rfl rfl) (ma_cons (me_var 0 (pv 0)) (ma_cons (me_int) (ma_nil))) (len_cons (len_cons (len_nil)))) (me_var 2 (pv 2))) (me_sub (me_var 2 (pv 2)) (me_int)))) (me_var 2 (pv 2)))) (mss_cons (ms_putL (me_var 3 (pv 3)) (me_var 5 (pv 5)) (me_tup (ma_cons (me_ix (me_ix (me_var 3 (pv 3)) (me_var 10 (pv 10))) (me_int)) (ma_cons (me_ix (me_ix (me_var 3 (pv 3)) (me_var 5 (pv 5))) (me_int)) (ma_cons (me_ix (me_ix (me_var 3 (pv 3)) (me_var 5 (pv 5))) (me_int)) (ma_nil)))))) (mss_one (ms_set (i := 6) sc_law.nd (me_bl))))) (mss_nil)))) (mss_cons (ms_set (i := 7) sc_law.nd (me_fz (ml_listD T.b_list (me_var 3 (pv 3))))) (mss_cons (ms_if (mt_ne (by have q := hu64 hr; exact q) (me_fz (ml_lst (ma_cons (me_globI (T.v_MOST_RULES.choose_spec)) (ma_cons (me_globI (T.v_MOST_WANTS.choose_spec)) (ma_cons (me_globI (T.v_MOST_DEEDS.choose_spec)) (ma_nil)))))) (me_fz (ml_lst (ma_cons (me_int) (ma_cons (me_int) (ma_cons (me_int) (ma_nil))))))) (mss_one (ms_ret (me_bl))) (mss_nil)) (mss_cons (ms_if (mt_not (mt_val (me_var 6 (pv 6)))) (mss_one (ms_ret (me_and (me_call (ok__law_refused T) rfl (by exact hr.mono (by decide)) (by rfl) T.g__law_refused T.F__law_refused.kp T.B__law_refused (takes_of rfl rfl rfl rfl) (ma_cons (me_var 3 (pv 3)) (ma_cons (me_mod (me_call (ok__law_at T) rfl (by exact hr.mono (by decide)) (by rfl) T.g__law_at T.F__law_at.kp T.B__law_at (takes_of rfl rfl rfl rfl) (ma_cons (me_var 0 (pv 0)) (ma_cons (me_int) (ma_nil))) (len_cons (len_cons (len_nil)))) (me_int)) (ma_nil))) (len_cons (len_cons (len_nil)))) (me_one (me_eq (by have q := hu64 hr; exact q) (me_var 3 (pv 3)) (me_var 7 (pv 7))))))) (mss_nil)) (mss_cons (ms_set (i := 8) sc_law.nd (me_call (ok_need_rulesc T) rfl (by exact hr.mono (by decide)) (by rfl) T.g_need_rules T.F_need_rules.kp T.B_need_rules (takes_of rfl rfl rfl rfl) (ma_cons (me_var 3 (pv 3)) (ma_nil)) (len_cons (len_nil)))) (mss_cons (ms_if (mt_bool (mw_or (mt_not (mt_val (me_isD (T := "list") T.b_isinstance T.b_list rfl (by decide) (me_var 8 (pv 8))))) (mw_or1 (mt_ne (by have q := hu64 hr; exact q) (me_var 3 (pv 3)) (me_var 7 (pv 7)))))) (mss_one (ms_ret (me_bl))) (mss_nil)) (mss_one (ms_ret (me_eq (by have q := hu64 hr; exact q) (me_var 8 (pv 8)) (me_fz (ml_lc rfl sc_law.nd (mi_seq (me_var 3 (pv 3))) (blkOk_by (own := [("_law_rule_here", 11)]) rfl) (fun _ _ _ _ _ => mg_name (i := 11) sc_law.nd) (fun _ _ _ _ _ => mts_nil) (fun _ _ _ _ _ => me_tup (ma_cons (me_ix (me_var 11 (pv 11)) (me_int)) (ma_cons (me_tupD T.b_tuple (me_ix (me_var 11 (pv 11)) (me_int))) (ma_cons (me_tupD T.b_tuple (me_ix (me_var 11 (pv 11)) (me_int))) (ma_nil))))) (by decide)))))))))))))))))))
end
theorem all_mk {l : PySem.W.OpenLaw} {w : World} {K : PySem.W.Frag} {h : Heap} {mg : Str → Option Value} {fa : Addr} (X : K.In h) (G : h.Ns mainGlobals mg) (hfa : mg "law" = some (.ref fa))
    {c_BadRule c_BadThing c_Engine c_NoCount c_NoRule c_NotThere c_There c_Weave c_WeaveError : Addr}
    {fn__law_at : Addr} {oc__law_at kV__law_at dc__law_at pm__law_at cd__law_at ct__law_at : Value} {od__law_at an__law_at : Option Addr} {sl__law_at : Array (Option Value)}
    {fn__law_pattern : Addr} {oc__law_pattern kV__law_pattern dc__law_pattern pm__law_pattern cd__law_pattern ct__law_pattern : Value} {od__law_pattern an__law_pattern : Option Addr} {sl__law_pattern : Array (Option Value)}
    {fn__law_wants : Addr} {oc__law_wants kV__law_wants dc__law_wants pm__law_wants cd__law_wants ct__law_wants : Value} {od__law_wants an__law_wants : Option Addr} {sl__law_wants : Array (Option Value)}
    {fn__law_deeds : Addr} {oc__law_deeds kV__law_deeds dc__law_deeds pm__law_deeds cd__law_deeds ct__law_deeds : Value} {od__law_deeds an__law_deeds : Option Addr} {sl__law_deeds : Array (Option Value)}
    {fn__law_name : Addr} {oc__law_name kV__law_name dc__law_name pm__law_name cd__law_name ct__law_name : Value} {od__law_name an__law_name : Option Addr} {sl__law_name : Array (Option Value)}
    {fn__law_rule : Addr} {oc__law_rule kV__law_rule dc__law_rule pm__law_rule cd__law_rule ct__law_rule : Value} {od__law_rule an__law_rule : Option Addr} {sl__law_rule : Array (Option Value)}
    {fn__law_wrong : Addr} {oc__law_wrong kV__law_wrong dc__law_wrong pm__law_wrong cd__law_wrong ct__law_wrong : Value} {od__law_wrong an__law_wrong : Option Addr} {sl__law_wrong : Array (Option Value)}
    {fn_is_name : Addr} {oc_is_name kV_is_name dc_is_name pm_is_name cd_is_name ct_is_name : Value} {od_is_name an_is_name : Option Addr} {sl_is_name : Array (Option Value)}
    {fn_is_row : Addr} {oc_is_row kV_is_row dc_is_row pm_is_row cd_is_row ct_is_row : Value} {od_is_row an_is_row : Option Addr} {sl_is_row : Array (Option Value)}
    {fn_is_whole : Addr} {oc_is_whole kV_is_whole dc_is_whole pm_is_whole cd_is_whole ct_is_whole : Value} {od_is_whole an_is_whole : Option Addr} {sl_is_whole : Array (Option Value)}
    {fn_is_value : Addr} {oc_is_value kV_is_value dc_is_value pm_is_value cd_is_value ct_is_value : Value} {od_is_value an_is_value : Option Addr} {sl_is_value : Array (Option Value)}
    {fn_is_word : Addr} {oc_is_word kV_is_word dc_is_word pm_is_word cd_is_word ct_is_word : Value} {od_is_word an_is_word : Option Addr} {sl_is_word : Array (Option Value)}
    {fn_is_pattern : Addr} {oc_is_pattern kV_is_pattern dc_is_pattern pm_is_pattern cd_is_pattern ct_is_pattern : Value} {od_is_pattern an_is_pattern : Option Addr} {sl_is_pattern : Array (Option Value)}
    {fn_is_want : Addr} {oc_is_want kV_is_want dc_is_want pm_is_want cd_is_want ct_is_want : Value} {od_is_want an_is_want : Option Addr} {sl_is_want : Array (Option Value)}
    {fn_are_wants : Addr} {oc_are_wants kV_are_wants dc_are_wants pm_are_wants cd_are_wants ct_are_wants : Value} {od_are_wants an_are_wants : Option Addr} {sl_are_wants : Array (Option Value)}
    {fn_words_of : Addr} {oc_words_of kV_words_of dc_words_of pm_words_of cd_words_of ct_words_of : Value} {od_words_of an_words_of : Option Addr} {sl_words_of : Array (Option Value)}
    {fn_is_deed : Addr} {oc_is_deed kV_is_deed dc_is_deed pm_is_deed cd_is_deed ct_is_deed : Value} {od_is_deed an_is_deed : Option Addr} {sl_is_deed : Array (Option Value)}
    {fn_is_rule : Addr} {oc_is_rule kV_is_rule dc_is_rule pm_is_rule cd_is_rule ct_is_rule : Value} {od_is_rule an_is_rule : Option Addr} {sl_is_rule : Array (Option Value)}
    {fn_need_rules : Addr} {oc_need_rules kV_need_rules dc_need_rules pm_need_rules cd_need_rules ct_need_rules : Value} {od_need_rules an_need_rules : Option Addr} {sl_need_rules : Array (Option Value)}
    {fn_Weave___init__ : Addr} {oc_Weave___init__ kV_Weave___init__ dc_Weave___init__ pm_Weave___init__ cd_Weave___init__ ct_Weave___init__ : Value} {od_Weave___init__ an_Weave___init__ : Option Addr} {sl_Weave___init__ : Array (Option Value)}
    {fn_Engine___init__ : Addr} {oc_Engine___init__ kV_Engine___init__ dc_Engine___init__ pm_Engine___init__ cd_Engine___init__ ct_Engine___init__ : Value} {od_Engine___init__ an_Engine___init__ : Option Addr} {sl_Engine___init__ : Array (Option Value)}
    {fn__law_refused : Addr} {oc__law_refused kV__law_refused dc__law_refused pm__law_refused cd__law_refused ct__law_refused : Value} {od__law_refused an__law_refused : Option Addr} {sl__law_refused : Array (Option Value)}
    {fn_law : Addr} {oc_law kV_law dc_law pm_law cd_law ct_law : Value} {od_law an_law : Option Addr} {sl_law : Array (Option Value)}
    {tk_GREAT : Tok}
    {tk_MOST_DEEDS : Tok}
    {tk_MOST_LETTERS : Tok}
    {tk_MOST_NUMBER : Tok}
    {tk_MOST_RULES : Tok}
    {tk_MOST_VALUES : Tok}
    {tk_MOST_WANTS : Tok}
    {tk_SMALL : Tok}
    (a__law_at : PySem.W.nsIn K mainGlobals "_law_at" = some (some (.ref fn__law_at)))
    (l__law_at : K.lookup fn__law_at = some ⟨oc__law_at, od__law_at, .func (PySem.W.fnOf "_law_at" "_law_at" (defArgs s__law_at) (defBody s__law_at) (defScope s__law_at) .none kV__law_at dc__law_at pm__law_at an__law_at cd__law_at ct__law_at), sl__law_at⟩)
    (d__law_at : PySem.W.codeIn K cd__law_at "_law_at" = true)
    (k__law_at : PySem.W.keepIn K (.ref fn__law_at) = true)
    (a__law_pattern : PySem.W.nsIn K mainGlobals "_law_pattern" = some (some (.ref fn__law_pattern)))
    (l__law_pattern : K.lookup fn__law_pattern = some ⟨oc__law_pattern, od__law_pattern, .func (PySem.W.fnOf "_law_pattern" "_law_pattern" (defArgs s__law_pattern) (defBody s__law_pattern) (defScope s__law_pattern) .none kV__law_pattern dc__law_pattern pm__law_pattern an__law_pattern cd__law_pattern ct__law_pattern), sl__law_pattern⟩)
    (d__law_pattern : PySem.W.codeIn K cd__law_pattern "_law_pattern" = true)
    (k__law_pattern : PySem.W.keepIn K (.ref fn__law_pattern) = true)
    (a__law_wants : PySem.W.nsIn K mainGlobals "_law_wants" = some (some (.ref fn__law_wants)))
    (l__law_wants : K.lookup fn__law_wants = some ⟨oc__law_wants, od__law_wants, .func (PySem.W.fnOf "_law_wants" "_law_wants" (defArgs s__law_wants) (defBody s__law_wants) (defScope s__law_wants) .none kV__law_wants dc__law_wants pm__law_wants an__law_wants cd__law_wants ct__law_wants), sl__law_wants⟩)
    (d__law_wants : PySem.W.codeIn K cd__law_wants "_law_wants" = true)
    (k__law_wants : PySem.W.keepIn K (.ref fn__law_wants) = true)
    (a__law_deeds : PySem.W.nsIn K mainGlobals "_law_deeds" = some (some (.ref fn__law_deeds)))
    (l__law_deeds : K.lookup fn__law_deeds = some ⟨oc__law_deeds, od__law_deeds, .func (PySem.W.fnOf "_law_deeds" "_law_deeds" (defArgs s__law_deeds) (defBody s__law_deeds) (defScope s__law_deeds) .none kV__law_deeds dc__law_deeds pm__law_deeds an__law_deeds cd__law_deeds ct__law_deeds), sl__law_deeds⟩)
    (d__law_deeds : PySem.W.codeIn K cd__law_deeds "_law_deeds" = true)
    (k__law_deeds : PySem.W.keepIn K (.ref fn__law_deeds) = true)
    (a__law_name : PySem.W.nsIn K mainGlobals "_law_name" = some (some (.ref fn__law_name)))
    (l__law_name : K.lookup fn__law_name = some ⟨oc__law_name, od__law_name, .func (PySem.W.fnOf "_law_name" "_law_name" (defArgs s__law_name) (defBody s__law_name) (defScope s__law_name) .none kV__law_name dc__law_name pm__law_name an__law_name cd__law_name ct__law_name), sl__law_name⟩)
    (d__law_name : PySem.W.codeIn K cd__law_name "_law_name" = true)
    (k__law_name : PySem.W.keepIn K (.ref fn__law_name) = true)
    (a__law_rule : PySem.W.nsIn K mainGlobals "_law_rule" = some (some (.ref fn__law_rule)))
    (l__law_rule : K.lookup fn__law_rule = some ⟨oc__law_rule, od__law_rule, .func (PySem.W.fnOf "_law_rule" "_law_rule" (defArgs s__law_rule) (defBody s__law_rule) (defScope s__law_rule) .none kV__law_rule dc__law_rule pm__law_rule an__law_rule cd__law_rule ct__law_rule), sl__law_rule⟩)
    (d__law_rule : PySem.W.codeIn K cd__law_rule "_law_rule" = true)
    (k__law_rule : PySem.W.keepIn K (.ref fn__law_rule) = true)
    (a__law_wrong : PySem.W.nsIn K mainGlobals "_law_wrong" = some (some (.ref fn__law_wrong)))
    (l__law_wrong : K.lookup fn__law_wrong = some ⟨oc__law_wrong, od__law_wrong, .func (PySem.W.fnOf "_law_wrong" "_law_wrong" (defArgs s__law_wrong) (defBody s__law_wrong) (defScope s__law_wrong) .none kV__law_wrong dc__law_wrong pm__law_wrong an__law_wrong cd__law_wrong ct__law_wrong), sl__law_wrong⟩)
    (d__law_wrong : PySem.W.codeIn K cd__law_wrong "_law_wrong" = true)
    (k__law_wrong : PySem.W.keepIn K (.ref fn__law_wrong) = true)
    (a_is_name : PySem.W.nsIn K mainGlobals "is_name" = some (some (.ref fn_is_name)))
    (l_is_name : K.lookup fn_is_name = some ⟨oc_is_name, od_is_name, .func (PySem.W.fnOf "is_name" "is_name" (defArgs s_is_name) (defBody s_is_name) (defScope s_is_name) .none kV_is_name dc_is_name pm_is_name an_is_name cd_is_name ct_is_name), sl_is_name⟩)
    (d_is_name : PySem.W.codeIn K cd_is_name "is_name" = true)
    (k_is_name : PySem.W.keepIn K (.ref fn_is_name) = true)
    (a_is_row : PySem.W.nsIn K mainGlobals "is_row" = some (some (.ref fn_is_row)))
    (l_is_row : K.lookup fn_is_row = some ⟨oc_is_row, od_is_row, .func (PySem.W.fnOf "is_row" "is_row" (defArgs s_is_row) (defBody s_is_row) (defScope s_is_row) .none kV_is_row dc_is_row pm_is_row an_is_row cd_is_row ct_is_row), sl_is_row⟩)
    (d_is_row : PySem.W.codeIn K cd_is_row "is_row" = true)
    (k_is_row : PySem.W.keepIn K (.ref fn_is_row) = true)
    (a_is_whole : PySem.W.nsIn K mainGlobals "is_whole" = some (some (.ref fn_is_whole)))
    (l_is_whole : K.lookup fn_is_whole = some ⟨oc_is_whole, od_is_whole, .func (PySem.W.fnOf "is_whole" "is_whole" (defArgs s_is_whole) (defBody s_is_whole) (defScope s_is_whole) .none kV_is_whole dc_is_whole pm_is_whole an_is_whole cd_is_whole ct_is_whole), sl_is_whole⟩)
    (d_is_whole : PySem.W.codeIn K cd_is_whole "is_whole" = true)
    (k_is_whole : PySem.W.keepIn K (.ref fn_is_whole) = true)
    (a_is_value : PySem.W.nsIn K mainGlobals "is_value" = some (some (.ref fn_is_value)))
    (l_is_value : K.lookup fn_is_value = some ⟨oc_is_value, od_is_value, .func (PySem.W.fnOf "is_value" "is_value" (defArgs s_is_value) (defBody s_is_value) (defScope s_is_value) .none kV_is_value dc_is_value pm_is_value an_is_value cd_is_value ct_is_value), sl_is_value⟩)
    (d_is_value : PySem.W.codeIn K cd_is_value "is_value" = true)
    (k_is_value : PySem.W.keepIn K (.ref fn_is_value) = true)
    (a_is_word : PySem.W.nsIn K mainGlobals "is_word" = some (some (.ref fn_is_word)))
    (l_is_word : K.lookup fn_is_word = some ⟨oc_is_word, od_is_word, .func (PySem.W.fnOf "is_word" "is_word" (defArgs s_is_word) (defBody s_is_word) (defScope s_is_word) .none kV_is_word dc_is_word pm_is_word an_is_word cd_is_word ct_is_word), sl_is_word⟩)
    (d_is_word : PySem.W.codeIn K cd_is_word "is_word" = true)
    (k_is_word : PySem.W.keepIn K (.ref fn_is_word) = true)
    (a_is_pattern : PySem.W.nsIn K mainGlobals "is_pattern" = some (some (.ref fn_is_pattern)))
    (l_is_pattern : K.lookup fn_is_pattern = some ⟨oc_is_pattern, od_is_pattern, .func (PySem.W.fnOf "is_pattern" "is_pattern" (defArgs s_is_pattern) (defBody s_is_pattern) (defScope s_is_pattern) .none kV_is_pattern dc_is_pattern pm_is_pattern an_is_pattern cd_is_pattern ct_is_pattern), sl_is_pattern⟩)
    (d_is_pattern : PySem.W.codeIn K cd_is_pattern "is_pattern" = true)
    (k_is_pattern : PySem.W.keepIn K (.ref fn_is_pattern) = true)
    (a_is_want : PySem.W.nsIn K mainGlobals "is_want" = some (some (.ref fn_is_want)))
    (l_is_want : K.lookup fn_is_want = some ⟨oc_is_want, od_is_want, .func (PySem.W.fnOf "is_want" "is_want" (defArgs s_is_want) (defBody s_is_want) (defScope s_is_want) .none kV_is_want dc_is_want pm_is_want an_is_want cd_is_want ct_is_want), sl_is_want⟩)
    (d_is_want : PySem.W.codeIn K cd_is_want "is_want" = true)
    (k_is_want : PySem.W.keepIn K (.ref fn_is_want) = true)
    (a_are_wants : PySem.W.nsIn K mainGlobals "are_wants" = some (some (.ref fn_are_wants)))
    (l_are_wants : K.lookup fn_are_wants = some ⟨oc_are_wants, od_are_wants, .func (PySem.W.fnOf "are_wants" "are_wants" (defArgs s_are_wants) (defBody s_are_wants) (defScope s_are_wants) .none kV_are_wants dc_are_wants pm_are_wants an_are_wants cd_are_wants ct_are_wants), sl_are_wants⟩)
    (d_are_wants : PySem.W.codeIn K cd_are_wants "are_wants" = true)
    (k_are_wants : PySem.W.keepIn K (.ref fn_are_wants) = true)
    (a_words_of : PySem.W.nsIn K mainGlobals "words_of" = some (some (.ref fn_words_of)))
    (l_words_of : K.lookup fn_words_of = some ⟨oc_words_of, od_words_of, .func (PySem.W.fnOf "words_of" "words_of" (defArgs s_words_of) (defBody s_words_of) (defScope s_words_of) .none kV_words_of dc_words_of pm_words_of an_words_of cd_words_of ct_words_of), sl_words_of⟩)
    (d_words_of : PySem.W.codeIn K cd_words_of "words_of" = true)
    (k_words_of : PySem.W.keepIn K (.ref fn_words_of) = true)
    (a_is_deed : PySem.W.nsIn K mainGlobals "is_deed" = some (some (.ref fn_is_deed)))
    (l_is_deed : K.lookup fn_is_deed = some ⟨oc_is_deed, od_is_deed, .func (PySem.W.fnOf "is_deed" "is_deed" (defArgs s_is_deed) (defBody s_is_deed) (defScope s_is_deed) .none kV_is_deed dc_is_deed pm_is_deed an_is_deed cd_is_deed ct_is_deed), sl_is_deed⟩)
    (d_is_deed : PySem.W.codeIn K cd_is_deed "is_deed" = true)
    (k_is_deed : PySem.W.keepIn K (.ref fn_is_deed) = true)
    (a_is_rule : PySem.W.nsIn K mainGlobals "is_rule" = some (some (.ref fn_is_rule)))
    (l_is_rule : K.lookup fn_is_rule = some ⟨oc_is_rule, od_is_rule, .func (PySem.W.fnOf "is_rule" "is_rule" (defArgs s_is_rule) (defBody s_is_rule) (defScope s_is_rule) .none kV_is_rule dc_is_rule pm_is_rule an_is_rule cd_is_rule ct_is_rule), sl_is_rule⟩)
    (d_is_rule : PySem.W.codeIn K cd_is_rule "is_rule" = true)
    (k_is_rule : PySem.W.keepIn K (.ref fn_is_rule) = true)
    (a_need_rules : PySem.W.nsIn K mainGlobals "need_rules" = some (some (.ref fn_need_rules)))
    (l_need_rules : K.lookup fn_need_rules = some ⟨oc_need_rules, od_need_rules, .func (PySem.W.fnOf "need_rules" "need_rules" (defArgs s_need_rules) (defBody s_need_rules) (defScope s_need_rules) .none kV_need_rules dc_need_rules pm_need_rules an_need_rules cd_need_rules ct_need_rules), sl_need_rules⟩)
    (d_need_rules : PySem.W.codeIn K cd_need_rules "need_rules" = true)
    (k_need_rules : PySem.W.keepIn K (.ref fn_need_rules) = true)
    (a_Weave___init__ : PySem.W.findIn K (.ref c_Weave) "__init__" = some (some (.ref fn_Weave___init__)))
    (i_Weave___init__ : PySem.W.isFn K (.ref fn_Weave___init__) = true)
    (l_Weave___init__ : K.lookup fn_Weave___init__ = some ⟨oc_Weave___init__, od_Weave___init__, .func (PySem.W.fnOf "__init__" "Weave.__init__" (defArgs s_Weave___init__) (defBody s_Weave___init__) (defScope s_Weave___init__) .none kV_Weave___init__ dc_Weave___init__ pm_Weave___init__ an_Weave___init__ cd_Weave___init__ ct_Weave___init__), sl_Weave___init__⟩)
    (d_Weave___init__ : PySem.W.codeIn K cd_Weave___init__ "Weave.__init__" = true)
    (k_Weave___init__ : PySem.W.keepIn K (.ref fn_Weave___init__) = true)
    (a_Engine___init__ : PySem.W.findIn K (.ref c_Engine) "__init__" = some (some (.ref fn_Engine___init__)))
    (i_Engine___init__ : PySem.W.isFn K (.ref fn_Engine___init__) = true)
    (l_Engine___init__ : K.lookup fn_Engine___init__ = some ⟨oc_Engine___init__, od_Engine___init__, .func (PySem.W.fnOf "__init__" "Engine.__init__" (defArgs s_Engine___init__) (defBody s_Engine___init__) (defScope s_Engine___init__) .none kV_Engine___init__ dc_Engine___init__ pm_Engine___init__ an_Engine___init__ cd_Engine___init__ ct_Engine___init__), sl_Engine___init__⟩)
    (d_Engine___init__ : PySem.W.codeIn K cd_Engine___init__ "Engine.__init__" = true)
    (k_Engine___init__ : PySem.W.keepIn K (.ref fn_Engine___init__) = true)
    (a__law_refused : PySem.W.nsIn K mainGlobals "_law_refused" = some (some (.ref fn__law_refused)))
    (l__law_refused : K.lookup fn__law_refused = some ⟨oc__law_refused, od__law_refused, .func (PySem.W.fnOf "_law_refused" "_law_refused" (defArgs s__law_refused) (defBody s__law_refused) (defScope s__law_refused) .none kV__law_refused dc__law_refused pm__law_refused an__law_refused cd__law_refused ct__law_refused), sl__law_refused⟩)
    (d__law_refused : PySem.W.codeIn K cd__law_refused "_law_refused" = true)
    (k__law_refused : PySem.W.keepIn K (.ref fn__law_refused) = true)
    (a_law : PySem.W.nsIn K mainGlobals "law" = some (some (.ref fn_law)))
    (l_law : K.lookup fn_law = some ⟨oc_law, od_law, .func (PySem.W.fnOf "law" "law" (defArgs s_law) (defBody s_law) (defScope s_law) .none kV_law dc_law pm_law an_law cd_law ct_law), sl_law⟩)
    (d_law : PySem.W.codeIn K cd_law "law" = true)
    (k_law : PySem.W.keepIn K (.ref fn_law) = true)
    (b_ValueError : PySem.W.nsIn K mainGlobals "ValueError" = some none)
    (b_all : PySem.W.nsIn K mainGlobals "all" = some none)
    (b_bool : PySem.W.nsIn K mainGlobals "bool" = some none)
    (b_int : PySem.W.nsIn K mainGlobals "int" = some none)
    (b_isinstance : PySem.W.nsIn K mainGlobals "isinstance" = some none)
    (b_len : PySem.W.nsIn K mainGlobals "len" = some none)
    (b_list : PySem.W.nsIn K mainGlobals "list" = some none)
    (b_range : PySem.W.nsIn K mainGlobals "range" = some none)
    (b_str : PySem.W.nsIn K mainGlobals "str" = some none)
    (b_tuple : PySem.W.nsIn K mainGlobals "tuple" = some none)
    (v_GREAT : PySem.W.nsIn K mainGlobals "GREAT" = some (some (.str "ABCDEFGHIJKLMNOPQRSTUVWXYZ" tk_GREAT)))
    (v_MOST_DEEDS : PySem.W.nsIn K mainGlobals "MOST_DEEDS" = some (some (.int (4) tk_MOST_DEEDS)))
    (v_MOST_LETTERS : PySem.W.nsIn K mainGlobals "MOST_LETTERS" = some (some (.int (8) tk_MOST_LETTERS)))
    (v_MOST_NUMBER : PySem.W.nsIn K mainGlobals "MOST_NUMBER" = some (some (.int (999999999) tk_MOST_NUMBER)))
    (v_MOST_RULES : PySem.W.nsIn K mainGlobals "MOST_RULES" = some (some (.int (10) tk_MOST_RULES)))
    (v_MOST_VALUES : PySem.W.nsIn K mainGlobals "MOST_VALUES" = some (some (.int (4) tk_MOST_VALUES)))
    (v_MOST_WANTS : PySem.W.nsIn K mainGlobals "MOST_WANTS" = some (some (.int (4) tk_MOST_WANTS)))
    (v_SMALL : PySem.W.nsIn K mainGlobals "SMALL" = some (some (.str "abcdefghijklmnopqrstuvwxyz" tk_SMALL)))
    (g_BadRule : PySem.W.nsIn K mainGlobals "BadRule" = some (some (.ref c_BadRule)))
    (g_BadThing : PySem.W.nsIn K mainGlobals "BadThing" = some (some (.ref c_BadThing)))
    (g_Engine : PySem.W.nsIn K mainGlobals "Engine" = some (some (.ref c_Engine)))
    (g_NoCount : PySem.W.nsIn K mainGlobals "NoCount" = some (some (.ref c_NoCount)))
    (g_NoRule : PySem.W.nsIn K mainGlobals "NoRule" = some (some (.ref c_NoRule)))
    (g_NotThere : PySem.W.nsIn K mainGlobals "NotThere" = some (some (.ref c_NotThere)))
    (g_There : PySem.W.nsIn K mainGlobals "There" = some (some (.ref c_There)))
    (g_Weave : PySem.W.nsIn K mainGlobals "Weave" = some (some (.ref c_Weave)))
    (g_WeaveError : PySem.W.nsIn K mainGlobals "WeaveError" = some (some (.ref c_WeaveError)))
    (clpg_Engine : PySem.W.plainGet K c_Engine Str.empty = true)
    (clhd_Engine : PySem.W.hasDictIn K c_Engine = true)
    (clpo_Engine : PySem.W.plainOver K c_Engine = true)
    (clsa_Engine : PySem.W.findIn K (.ref c_Engine) "__setattr__" = some (some (.builtin "object.__setattr__")))
    (clpg_Weave : PySem.W.plainGet K c_Weave Str.empty = true)
    (clhd_Weave : PySem.W.hasDictIn K c_Weave = true)
    (clpo_Weave : PySem.W.plainOver K c_Weave = true)
    (clsa_Weave : PySem.W.findIn K (.ref c_Weave) "__setattr__" = some (some (.builtin "object.__setattr__")))
    (na_Engine_weave : PySem.W.findIn K (.ref c_Engine) "weave" = some none)
    (na_Weave_rules : PySem.W.findIn K (.ref c_Weave) "rules" = some none)
    (mkm_Engine : PySem.W.makesIn K c_Engine = true)
    (mkk_Engine : PySem.W.keepIn K (.ref c_Engine) = true)
    (mkm_Weave : PySem.W.makesIn K c_Weave = true)
    (mkk_Weave : PySem.W.keepIn K (.ref c_Weave) = true)
    (qx_BadRule : PySem.W.excIn K c_BadRule [.type "ValueError", .type "Exception", .type "BaseException", .type "object"] "ValueError.__new__" = true)
    (qk_BadRule : PySem.W.keepIn K (.ref c_BadRule) = true)
    (qs_BadRule : PySem.W.subIn K (.ref c_BadRule) (.type "BaseException") = some true)
    (qt_BadRule : PySem.W.typeIn K (.ref c_BadRule) = some (.type "type"))
    (qexm_BadRule : PySem.W.exmOne K (.ref c_BadRule) (.ref c_WeaveError) = some true)
    (qkit_BadRule__BadRule : PySem.W.kitOne K (.ref c_BadRule) (.ref c_BadRule) = some true)
    (qkit_BadRule__BadThing : PySem.W.kitOne K (.ref c_BadRule) (.ref c_BadThing) = some false)
    (qkit_BadRule__NoCount : PySem.W.kitOne K (.ref c_BadRule) (.ref c_NoCount) = some false)
    (qkit_BadRule__NoRule : PySem.W.kitOne K (.ref c_BadRule) (.ref c_NoRule) = some false)
    (qkit_BadRule__NotThere : PySem.W.kitOne K (.ref c_BadRule) (.ref c_NotThere) = some false)
    (qkit_BadRule__There : PySem.W.kitOne K (.ref c_BadRule) (.ref c_There) = some false)
    (qkit_BadRule__ValueError : PySem.W.kitOne K (.ref c_BadRule) (.type "ValueError") = some true)
    (ec_hg_BadRule : PySem.W.findIn K (.ref c_BadRule) "__getattribute__" = some (some (.builtin "BaseException.__getattribute__")))
    (ec_hk_BadRule : PySem.W.findIn K (.ref c_BadRule) "__getattr__" = some none)
    (ec_hs_BadRule : PySem.W.subIn K (.ref c_BadRule) (.type "BaseException") = some true)
    (ec_hd_BadRule : PySem.W.hasDictIn K c_BadRule = true)
    (ec_ha_BadRule : PySem.W.findIn K (.ref c_BadRule) "__class__" = some (some (.builtin "object.__class__")))
    (ec_hn_BadRule : PySem.W.specialIn K (.builtin "object.__class__") "__get__" = some (some (.builtin "getset_descriptor.__get__")))
    (ec_ht_BadRule : PySem.W.takesIn K (.builtin "object.__class__") = some true)
    (ec_hm_BadRule : PySem.W.mroIn K c_BadRule (.type "object") = some true) :
    ∃ fd : FuncData, (∀ (s : Shared) (v : Value), BindsTo s fd ⟨[v], []⟩ [("_law_script", v)]) ∧ ∀ base : Heap, K.In base → base.Ns mainGlobals mg → FnOk l.prog w K mg base (L2.CX l.prog w) 14 fa fd ["_law_script"] (spLaw K) := by
  have e := hfa.symm.trans (PySem.W.mg_of X G a_law)
  obtain rfl : fn_law = fa := by cases e; rfl
  have F__law_at := fun_mk (st := s__law_at) l__law_at d__law_at k__law_at
  have F__law_pattern := fun_mk (st := s__law_pattern) l__law_pattern d__law_pattern k__law_pattern
  have F__law_wants := fun_mk (st := s__law_wants) l__law_wants d__law_wants k__law_wants
  have F__law_deeds := fun_mk (st := s__law_deeds) l__law_deeds d__law_deeds k__law_deeds
  have F__law_name := fun_mk (st := s__law_name) l__law_name d__law_name k__law_name
  have F__law_rule := fun_mk (st := s__law_rule) l__law_rule d__law_rule k__law_rule
  have F__law_wrong := fun_mk (st := s__law_wrong) l__law_wrong d__law_wrong k__law_wrong
  have F_is_name := fun_mk (st := s_is_name) l_is_name d_is_name k_is_name
  have F_is_row := fun_mk (st := s_is_row) l_is_row d_is_row k_is_row
  have F_is_whole := fun_mk (st := s_is_whole) l_is_whole d_is_whole k_is_whole
  have F_is_value := fun_mk (st := s_is_value) l_is_value d_is_value k_is_value
  have F_is_word := fun_mk (st := s_is_word) l_is_word d_is_word k_is_word
  have F_is_pattern := fun_mk (st := s_is_pattern) l_is_pattern d_is_pattern k_is_pattern
  have F_is_want := fun_mk (st := s_is_want) l_is_want d_is_want k_is_want
  have F_are_wants := fun_mk (st := s_are_wants) l_are_wants d_are_wants k_are_wants
  have F_words_of := fun_mk (st := s_words_of) l_words_of d_words_of k_words_of
  have F_is_deed := fun_mk (st := s_is_deed) l_is_deed d_is_deed k_is_deed
  have F_is_rule := fun_mk (st := s_is_rule) l_is_rule d_is_rule k_is_rule
  have F_need_rules := fun_mk (st := s_need_rules) l_need_rules d_need_rules k_need_rules
  have F_Weave___init__ := fun_mk (st := s_Weave___init__) l_Weave___init__ d_Weave___init__ k_Weave___init__
  have F_Engine___init__ := fun_mk (st := s_Engine___init__) l_Engine___init__ d_Engine___init__ k_Engine___init__
  have F__law_refused := fun_mk (st := s__law_refused) l__law_refused d__law_refused k__law_refused
  have F_law := fun_mk (st := s_law) l_law d_law k_law
  have T : Txt K mg ⟨fn__law_at, PySem.W.fnOf "_law_at" "_law_at" (defArgs s__law_at) (defBody s__law_at) (defScope s__law_at) .none kV__law_at dc__law_at pm__law_at an__law_at cd__law_at ct__law_at, fn__law_pattern, PySem.W.fnOf "_law_pattern" "_law_pattern" (defArgs s__law_pattern) (defBody s__law_pattern) (defScope s__law_pattern) .none kV__law_pattern dc__law_pattern pm__law_pattern an__law_pattern cd__law_pattern ct__law_pattern, fn__law_wants, PySem.W.fnOf "_law_wants" "_law_wants" (defArgs s__law_wants) (defBody s__law_wants) (defScope s__law_wants) .none kV__law_wants dc__law_wants pm__law_wants an__law_wants cd__law_wants ct__law_wants, fn__law_deeds, PySem.W.fnOf "_law_deeds" "_law_deeds" (defArgs s__law_deeds) (defBody s__law_deeds) (defScope s__law_deeds) .none kV__law_deeds dc__law_deeds pm__law_deeds an__law_deeds cd__law_deeds ct__law_deeds, fn__law_name, PySem.W.fnOf "_law_name" "_law_name" (defArgs s__law_name) (defBody s__law_name) (defScope s__law_name) .none kV__law_name dc__law_name pm__law_name an__law_name cd__law_name ct__law_name, fn__law_rule, PySem.W.fnOf "_law_rule" "_law_rule" (defArgs s__law_rule) (defBody s__law_rule) (defScope s__law_rule) .none kV__law_rule dc__law_rule pm__law_rule an__law_rule cd__law_rule ct__law_rule, fn__law_wrong, PySem.W.fnOf "_law_wrong" "_law_wrong" (defArgs s__law_wrong) (defBody s__law_wrong) (defScope s__law_wrong) .none kV__law_wrong dc__law_wrong pm__law_wrong an__law_wrong cd__law_wrong ct__law_wrong, fn_is_name, PySem.W.fnOf "is_name" "is_name" (defArgs s_is_name) (defBody s_is_name) (defScope s_is_name) .none kV_is_name dc_is_name pm_is_name an_is_name cd_is_name ct_is_name, fn_is_row, PySem.W.fnOf "is_row" "is_row" (defArgs s_is_row) (defBody s_is_row) (defScope s_is_row) .none kV_is_row dc_is_row pm_is_row an_is_row cd_is_row ct_is_row, fn_is_whole, PySem.W.fnOf "is_whole" "is_whole" (defArgs s_is_whole) (defBody s_is_whole) (defScope s_is_whole) .none kV_is_whole dc_is_whole pm_is_whole an_is_whole cd_is_whole ct_is_whole, fn_is_value, PySem.W.fnOf "is_value" "is_value" (defArgs s_is_value) (defBody s_is_value) (defScope s_is_value) .none kV_is_value dc_is_value pm_is_value an_is_value cd_is_value ct_is_value, fn_is_word, PySem.W.fnOf "is_word" "is_word" (defArgs s_is_word) (defBody s_is_word) (defScope s_is_word) .none kV_is_word dc_is_word pm_is_word an_is_word cd_is_word ct_is_word, fn_is_pattern, PySem.W.fnOf "is_pattern" "is_pattern" (defArgs s_is_pattern) (defBody s_is_pattern) (defScope s_is_pattern) .none kV_is_pattern dc_is_pattern pm_is_pattern an_is_pattern cd_is_pattern ct_is_pattern, fn_is_want, PySem.W.fnOf "is_want" "is_want" (defArgs s_is_want) (defBody s_is_want) (defScope s_is_want) .none kV_is_want dc_is_want pm_is_want an_is_want cd_is_want ct_is_want, fn_are_wants, PySem.W.fnOf "are_wants" "are_wants" (defArgs s_are_wants) (defBody s_are_wants) (defScope s_are_wants) .none kV_are_wants dc_are_wants pm_are_wants an_are_wants cd_are_wants ct_are_wants, fn_words_of, PySem.W.fnOf "words_of" "words_of" (defArgs s_words_of) (defBody s_words_of) (defScope s_words_of) .none kV_words_of dc_words_of pm_words_of an_words_of cd_words_of ct_words_of, fn_is_deed, PySem.W.fnOf "is_deed" "is_deed" (defArgs s_is_deed) (defBody s_is_deed) (defScope s_is_deed) .none kV_is_deed dc_is_deed pm_is_deed an_is_deed cd_is_deed ct_is_deed, fn_is_rule, PySem.W.fnOf "is_rule" "is_rule" (defArgs s_is_rule) (defBody s_is_rule) (defScope s_is_rule) .none kV_is_rule dc_is_rule pm_is_rule an_is_rule cd_is_rule ct_is_rule, fn_need_rules, PySem.W.fnOf "need_rules" "need_rules" (defArgs s_need_rules) (defBody s_need_rules) (defScope s_need_rules) .none kV_need_rules dc_need_rules pm_need_rules an_need_rules cd_need_rules ct_need_rules, fn_Weave___init__, PySem.W.fnOf "__init__" "Weave.__init__" (defArgs s_Weave___init__) (defBody s_Weave___init__) (defScope s_Weave___init__) .none kV_Weave___init__ dc_Weave___init__ pm_Weave___init__ an_Weave___init__ cd_Weave___init__ ct_Weave___init__, fn_Engine___init__, PySem.W.fnOf "__init__" "Engine.__init__" (defArgs s_Engine___init__) (defBody s_Engine___init__) (defScope s_Engine___init__) .none kV_Engine___init__ dc_Engine___init__ pm_Engine___init__ an_Engine___init__ cd_Engine___init__ ct_Engine___init__, fn__law_refused, PySem.W.fnOf "_law_refused" "_law_refused" (defArgs s__law_refused) (defBody s__law_refused) (defScope s__law_refused) .none kV__law_refused dc__law_refused pm__law_refused an__law_refused cd__law_refused ct__law_refused, fn_law, PySem.W.fnOf "law" "law" (defArgs s_law) (defBody s_law) (defScope s_law) .none kV_law dc_law pm_law an_law cd_law ct_law, c_BadRule, c_BadThing, c_Engine, c_NoCount, c_NoRule, c_NotThere, c_There, c_Weave, c_WeaveError⟩ := by
    exact ⟨PySem.W.mg_none_of X G b_ValueError,
      PySem.W.mg_none_of X G b_all,
      PySem.W.mg_none_of X G b_bool,
      PySem.W.mg_none_of X G b_int,
      PySem.W.mg_none_of X G b_isinstance,
      PySem.W.mg_none_of X G b_len,
      PySem.W.mg_none_of X G b_list,
      PySem.W.mg_none_of X G b_range,
      PySem.W.mg_none_of X G b_str,
      PySem.W.mg_none_of X G b_tuple,
      ⟨_, PySem.W.mg_of X G v_GREAT⟩,
      ⟨_, PySem.W.mg_of X G v_MOST_DEEDS⟩,
      ⟨_, PySem.W.mg_of X G v_MOST_LETTERS⟩,
      ⟨_, PySem.W.mg_of X G v_MOST_NUMBER⟩,
      ⟨_, PySem.W.mg_of X G v_MOST_RULES⟩,
      ⟨_, PySem.W.mg_of X G v_MOST_VALUES⟩,
      ⟨_, PySem.W.mg_of X G v_MOST_WANTS⟩,
      ⟨_, PySem.W.mg_of X G v_SMALL⟩,
      F__law_at,
      PySem.W.mg_of X G a__law_at,
      F__law_at.binds (ps := ["_law_script", "_law_k"]) fun _ _ _ _ _ _ us hl => match us, hl with | [_, _], _ => rfl,
      F__law_pattern,
      PySem.W.mg_of X G a__law_pattern,
      F__law_pattern.binds (ps := ["_law_cell"]) fun _ _ _ _ _ _ us hl => match us, hl with | [_], _ => rfl,
      F__law_wants,
      PySem.W.mg_of X G a__law_wants,
      F__law_wants.binds (ps := ["_law_cell"]) fun _ _ _ _ _ _ us hl => match us, hl with | [_], _ => rfl,
      F__law_deeds,
      PySem.W.mg_of X G a__law_deeds,
      F__law_deeds.binds (ps := ["_law_wants_here", "_law_cell"]) fun _ _ _ _ _ _ us hl => match us, hl with | [_, _], _ => rfl,
      F__law_name,
      PySem.W.mg_of X G a__law_name,
      F__law_name.binds (ps := ["_law_base", "_law_k"]) fun _ _ _ _ _ _ us hl => match us, hl with | [_, _], _ => rfl,
      F__law_rule,
      PySem.W.mg_of X G a__law_rule,
      F__law_rule.binds (ps := ["_law_base", "_law_k", "_law_cell"]) fun _ _ _ _ _ _ us hl => match us, hl with | [_, _, _], _ => rfl,
      F__law_wrong,
      PySem.W.mg_of X G a__law_wrong,
      F__law_wrong.binds (ps := ["_law_rule_here", "_law_way"]) fun _ _ _ _ _ _ us hl => match us, hl with | [_, _], _ => rfl,
      F_is_name,
      PySem.W.mg_of X G a_is_name,
      F_is_name.binds (ps := ["thing"]) fun _ _ _ _ _ _ us hl => match us, hl with | [_], _ => rfl,
      F_is_row,
      PySem.W.mg_of X G a_is_row,
      F_is_row.binds (ps := ["thing"]) fun _ _ _ _ _ _ us hl => match us, hl with | [_], _ => rfl,
      F_is_whole,
      PySem.W.mg_of X G a_is_whole,
      F_is_whole.binds (ps := ["thing"]) fun _ _ _ _ _ _ us hl => match us, hl with | [_], _ => rfl,
      F_is_value,
      PySem.W.mg_of X G a_is_value,
      F_is_value.binds (ps := ["thing"]) fun _ _ _ _ _ _ us hl => match us, hl with | [_], _ => rfl,
      F_is_word,
      PySem.W.mg_of X G a_is_word,
      F_is_word.binds (ps := ["thing"]) fun _ _ _ _ _ _ us hl => match us, hl with | [_], _ => rfl,
      F_is_pattern,
      PySem.W.mg_of X G a_is_pattern,
      F_is_pattern.binds (ps := ["thing"]) fun _ _ _ _ _ _ us hl => match us, hl with | [_], _ => rfl,
      F_is_want,
      PySem.W.mg_of X G a_is_want,
      F_is_want.binds (ps := ["thing"]) fun _ _ _ _ _ _ us hl => match us, hl with | [_], _ => rfl,
      F_are_wants,
      PySem.W.mg_of X G a_are_wants,
      F_are_wants.binds (ps := ["thing"]) fun _ _ _ _ _ _ us hl => match us, hl with | [_], _ => rfl,
      F_words_of,
      PySem.W.mg_of X G a_words_of,
      F_words_of.binds (ps := ["wants"]) fun _ _ _ _ _ _ us hl => match us, hl with | [_], _ => rfl,
      F_is_deed,
      PySem.W.mg_of X G a_is_deed,
      F_is_deed.binds (ps := ["thing", "wants"]) fun _ _ _ _ _ _ us hl => match us, hl with | [_, _], _ => rfl,
      F_is_rule,
      PySem.W.mg_of X G a_is_rule,
      F_is_rule.binds (ps := ["thing"]) fun _ _ _ _ _ _ us hl => match us, hl with | [_], _ => rfl,
      F_need_rules,
      PySem.W.mg_of X G a_need_rules,
      F_need_rules.binds (ps := ["rules"]) fun _ _ _ _ _ _ us hl => match us, hl with | [_], _ => rfl,
      F_Weave___init__,
      F_Weave___init__.binds (ps := ["self", "rules"]) fun _ _ _ _ _ _ us hl => match us, hl with | [_, _], _ => rfl,
      F_Engine___init__,
      F_Engine___init__.binds (ps := ["self", "rules"]) fun _ _ _ _ _ _ us hl => match us, hl with | [_, _], _ => rfl,
      F__law_refused,
      PySem.W.mg_of X G a__law_refused,
      F__law_refused.binds (ps := ["_law_rules", "_law_sort"]) fun _ _ _ _ _ _ us hl => match us, hl with | [_, _], _ => rfl,
      F_law,
      PySem.W.mg_of X G a_law,
      F_law.binds (ps := ["_law_script"]) fun _ _ _ _ _ _ us hl => match us, hl with | [_], _ => rfl,
      PySem.W.mg_of X G g_BadRule,
      PySem.W.mg_of X G g_BadThing,
      PySem.W.mg_of X G g_Engine,
      PySem.W.mg_of X G g_NoCount,
      PySem.W.mg_of X G g_NoRule,
      PySem.W.mg_of X G g_NotThere,
      PySem.W.mg_of X G g_There,
      PySem.W.mg_of X G g_Weave,
      PySem.W.mg_of X G g_WeaveError,
      ⟨clpg_Engine, clhd_Engine, clpo_Engine, clsa_Engine⟩,
      ⟨clpg_Weave, clhd_Weave, clpo_Weave, clsa_Weave⟩,
      na_Engine_weave,
      na_Weave_rules,
      ⟨mkm_Engine, a_Engine___init__, i_Engine___init__, mkk_Engine⟩,
      ⟨mkm_Weave, a_Weave___init__, i_Weave___init__, mkk_Weave⟩,
      qx_BadRule,
      qk_BadRule,
      qs_BadRule,
      qt_BadRule,
      qexm_BadRule,
      ⟨ec_hg_BadRule, ec_hk_BadRule, ec_hs_BadRule, ec_hd_BadRule, ec_ha_BadRule, ec_hn_BadRule, ec_ht_BadRule, ec_hm_BadRule⟩,
      qkit_BadRule__BadRule,
      qkit_BadRule__BadThing,
      qkit_BadRule__NoCount,
      qkit_BadRule__NoRule,
      qkit_BadRule__NotThere,
      qkit_BadRule__There,
      qkit_BadRule__ValueError⟩
  exact ⟨_, fun s v => .of_eq rfl, fun base _ _ => law_fn (ok_law T) law_true⟩
end K3
end

section
set_option Elab.async false
set_option linter.all false
set_option maxRecDepth 100000

open PySem PySem.W PyProof.Rows
set_option maxHeartbeats 0 in
theorem PySem.Challenge.cw_matchweave_k03_rules_refused_holds : PySem.Challenge.rw_matchweave_k03_rules_refused.Holds := by
  w_on; o_law; k_head; (case hw => w_witness2)
  k_fill
  refine L2.walk_of (l := PySem.Challenge.rw_matchweave_k03_rules_refused) (n := 63) (k := 14) (x := "_law_script") (CX := fun w => L2.CX PySem.Challenge.pw_matchweave_k03_rules_refused w) (sp := fun w => Mir.spLaw _) rfl (by decide) rfl ⟨rfl, by decide, by decide⟩ (fun w h Y => by first | exact PySem.W.kIn_of Y | exact PySem.W.km_in_of Y) ?F (fun _ _ a ns hl hO hS => ⟨a, ns, rfl, hO, hS, hl, fun _ => rfl⟩) (fun _ _ _ _ _ h => by obtain ⟨_, _, _, _, _, _, _, _, _, _, _, _, z⟩ := h; exact z)
  case F =>
    intro w mg fa h KX G hmg
    refine' K3.all_mk KX G hmg ?a__law_at ?l__law_at ?d__law_at ?k__law_at ?a__law_pattern ?l__law_pattern ?d__law_pattern ?k__law_pattern ?a__law_wants ?l__law_wants ?d__law_wants ?k__law_wants ?a__law_deeds ?l__law_deeds ?d__law_deeds ?k__law_deeds ?a__law_name ?l__law_name ?d__law_name ?k__law_name ?a__law_rule ?l__law_rule ?d__law_rule ?k__law_rule ?a__law_wrong ?l__law_wrong ?d__law_wrong ?k__law_wrong ?a_is_name ?l_is_name ?d_is_name ?k_is_name ?a_is_row ?l_is_row ?d_is_row ?k_is_row ?a_is_whole ?l_is_whole ?d_is_whole ?k_is_whole ?a_is_value ?l_is_value ?d_is_value ?k_is_value ?a_is_word ?l_is_word ?d_is_word ?k_is_word ?a_is_pattern ?l_is_pattern ?d_is_pattern ?k_is_pattern ?a_is_want ?l_is_want ?d_is_want ?k_is_want ?a_are_wants ?l_are_wants ?d_are_wants ?k_are_wants ?a_words_of ?l_words_of ?d_words_of ?k_words_of ?a_is_deed ?l_is_deed ?d_is_deed ?k_is_deed ?a_is_rule ?l_is_rule ?d_is_rule ?k_is_rule ?a_need_rules ?l_need_rules ?d_need_rules ?k_need_rules ?a_Weave___init__ ?i_Weave___init__ ?l_Weave___init__ ?d_Weave___init__ ?k_Weave___init__ ?a_Engine___init__ ?i_Engine___init__ ?l_Engine___init__ ?d_Engine___init__ ?k_Engine___init__ ?a__law_refused ?l__law_refused ?d__law_refused ?k__law_refused ?a_law ?l_law ?d_law ?k_law ?b_ValueError ?b_all ?b_bool ?b_int ?b_isinstance ?b_len ?b_list ?b_range ?b_str ?b_tuple ?v_GREAT ?v_MOST_DEEDS ?v_MOST_LETTERS ?v_MOST_NUMBER ?v_MOST_RULES ?v_MOST_VALUES ?v_MOST_WANTS ?v_SMALL ?g_BadRule ?g_BadThing ?g_Engine ?g_NoCount ?g_NoRule ?g_NotThere ?g_There ?g_Weave ?g_WeaveError ?clpg_Engine ?clhd_Engine ?clpo_Engine ?clsa_Engine ?clpg_Weave ?clhd_Weave ?clpo_Weave ?clsa_Weave ?na_Engine_weave ?na_Weave_rules ?mkm_Engine ?mkk_Engine ?mkm_Weave ?mkk_Weave ?qx_BadRule ?qk_BadRule ?qs_BadRule ?qt_BadRule ?qexm_BadRule ?qkit_BadRule__BadRule ?qkit_BadRule__BadThing ?qkit_BadRule__NoCount ?qkit_BadRule__NoRule ?qkit_BadRule__NotThere ?qkit_BadRule__There ?qkit_BadRule__ValueError ?ec_hg_BadRule ?ec_hk_BadRule ?ec_hs_BadRule ?ec_hd_BadRule ?ec_ha_BadRule ?ec_hn_BadRule ?ec_ht_BadRule ?ec_hm_BadRule
    (case g_BadRule => k_is); (case g_BadThing => k_is); (case g_Engine => k_is); (case g_NoCount => k_is); (case g_NoRule => k_is); (case g_NotThere => k_is); (case g_There => k_is); (case g_Weave => k_is); (case g_WeaveError => k_is); (case a__law_at => k_is); (case l__law_at => k_is); (case d__law_at => k_is); (case k__law_at => k_is); (case a__law_pattern => k_is); (case l__law_pattern => k_is); (case d__law_pattern => k_is); (case k__law_pattern => k_is); (case a__law_wants => k_is); (case l__law_wants => k_is); (case d__law_wants => k_is); (case k__law_wants => k_is); (case a__law_deeds => k_is); (case l__law_deeds => k_is); (case d__law_deeds => k_is); (case k__law_deeds => k_is); (case a__law_name => k_is); (case l__law_name => k_is); (case d__law_name => k_is); (case k__law_name => k_is); (case a__law_rule => k_is); (case l__law_rule => k_is); (case d__law_rule => k_is); (case k__law_rule => k_is); (case a__law_wrong => k_is); (case l__law_wrong => k_is); (case d__law_wrong => k_is); (case k__law_wrong => k_is); (case a_is_name => k_is); (case l_is_name => k_is); (case d_is_name => k_is); (case k_is_name => k_is); (case a_is_row => k_is); (case l_is_row => k_is); (case d_is_row => k_is); (case k_is_row => k_is); (case a_is_whole => k_is); (case l_is_whole => k_is); (case d_is_whole => k_is); (case k_is_whole => k_is); (case a_is_value => k_is); (case l_is_value => k_is); (case d_is_value => k_is); (case k_is_value => k_is); (case a_is_word => k_is); (case l_is_word => k_is); (case d_is_word => k_is); (case k_is_word => k_is); (case a_is_pattern => k_is); (case l_is_pattern => k_is); (case d_is_pattern => k_is); (case k_is_pattern => k_is); (case a_is_want => k_is); (case l_is_want => k_is); (case d_is_want => k_is); (case k_is_want => k_is); (case a_are_wants => k_is); (case l_are_wants => k_is); (case d_are_wants => k_is); (case k_are_wants => k_is); (case a_words_of => k_is); (case l_words_of => k_is); (case d_words_of => k_is); (case k_words_of => k_is); (case a_is_deed => k_is); (case l_is_deed => k_is); (case d_is_deed => k_is); (case k_is_deed => k_is); (case a_is_rule => k_is); (case l_is_rule => k_is); (case d_is_rule => k_is); (case k_is_rule => k_is); (case a_need_rules => k_is); (case l_need_rules => k_is); (case d_need_rules => k_is); (case k_need_rules => k_is); (case a_Weave___init__ => k_is); (case i_Weave___init__ => k_is); (case l_Weave___init__ => k_is); (case d_Weave___init__ => k_is); (case k_Weave___init__ => k_is); (case a_Engine___init__ => k_is); (case i_Engine___init__ => k_is); (case l_Engine___init__ => k_is); (case d_Engine___init__ => k_is); (case k_Engine___init__ => k_is); (case a__law_refused => k_is); (case l__law_refused => k_is); (case d__law_refused => k_is); (case k__law_refused => k_is); (case a_law => k_is); (case l_law => k_is); (case d_law => k_is); (case k_law => k_is); (case b_ValueError => k_is); (case b_all => k_is); (case b_bool => k_is); (case b_int => k_is); (case b_isinstance => k_is); (case b_len => k_is); (case b_list => k_is); (case b_range => k_is); (case b_str => k_is); (case b_tuple => k_is); (case v_GREAT => k_is); (case v_MOST_DEEDS => k_is); (case v_MOST_LETTERS => k_is); (case v_MOST_NUMBER => k_is); (case v_MOST_RULES => k_is); (case v_MOST_VALUES => k_is); (case v_MOST_WANTS => k_is); (case v_SMALL => k_is); (case clpg_Engine => k_is); (case clhd_Engine => k_is); (case clpo_Engine => k_is); (case clsa_Engine => k_is); (case clpg_Weave => k_is); (case clhd_Weave => k_is); (case clpo_Weave => k_is); (case clsa_Weave => k_is); (case na_Engine_weave => k_is); (case na_Weave_rules => k_is); (case mkm_Engine => k_is); (case mkk_Engine => k_is); (case mkm_Weave => k_is); (case mkk_Weave => k_is); (case qx_BadRule => k_exc); (case qk_BadRule => k_is); (case qs_BadRule => k_is); (case qt_BadRule => k_is); (case qexm_BadRule => kts_exm); (case qkit_BadRule__BadRule => kit_is); (case qkit_BadRule__BadThing => kit_is); (case qkit_BadRule__NoCount => kit_is); (case qkit_BadRule__NoRule => kit_is); (case qkit_BadRule__NotThere => kit_is); (case qkit_BadRule__There => kit_is); (case qkit_BadRule__ValueError => kit_is); (case ec_hg_BadRule => k_is); (case ec_hk_BadRule => k_is); (case ec_hs_BadRule => k_is); (case ec_hd_BadRule => k_is); (case ec_ha_BadRule => k_is); (case ec_hn_BadRule => k_is); (case ec_ht_BadRule => k_is); (case ec_hm_BadRule => k_is)
end
