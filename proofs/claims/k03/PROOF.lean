import PyProof.Rows.All
import Wide.All
import OpenK.AllK
import Wide.FinOn
import HandS.ForMost
import HandS.Exc
import HandS.ExcOwn
import HandS.WordsExc
import HandS.TryOnly
import HandS.TupAny
import HandS.TupLe
import HandS.Conv
import HandS.DictComp
import HandS.Flow
import HandS.SortInts
import HandS.AnyAll
import HandS.Deep
import HandS.IsInst
import HandS.Strs
import HandS.More
import HandS.CallSlots
import HandS.NoneIn
import KE.DataCmp
import PySem.Challenge.RW_leastlearnt_k03_placings
set_option Elab.async false
set_option linter.all false
set_option maxRecDepth 100000
set_option maxHeartbeats 4000000
namespace DL
open PySem PySem.Spec PyProof.Rows L2
/-! A data layer over HandS: values as trees, frozen and owned parts of the heap, judgements by functions on data. -/

/-- a value as a tree -/
inductive D where
  | non | bl (b : Bool) | int (i : Int) | str (x : Str)
  | lst (xs : List D) | tup (xs : List D) | scr (xs : List D)
  | dic (kvs : List (Key × D)) | dit (kvs : List (List Key × D))
  | ins (C : String) (fs : List (Str × D)) | ref (a : Addr) | ty (n : String)
/-- the written part, the own classes' addresses by name -/
structure KC where
  K : PySem.W.Frag
  c : String → Addr
/-- what comes of a computation -/
inductive R (α : Type) where
  | ok (a : α) | err (c : String) | bad
def R.bind {α β : Type} : R α → (α → R β) → R β
  | .ok a, f => f a
  | .err c, _ => .err c
  | .bad, _ => .bad
instance : Monad R where
  pure := R.ok
  bind := R.bind
/-- errors are not foreseen -/
def R.quiet {α : Type} : R α → R α
  | .ok a => .ok a
  | _ => .bad
@[simp] theorem bind_ok {α β : Type} (a : α) (f : α → R β) : R.bind (.ok a) f = f a := rfl
@[simp] theorem bind_err {α β : Type} (c : String) (f : α → R β) : R.bind (.err c) f = .err c := rfl
@[simp] theorem bind_bad {α β : Type} (f : α → R β) : R.bind .bad f = .bad := rfl
@[simp] theorem quiet_ok {α : Type} (a : α) : R.quiet (.ok a) = .ok a := rfl

/-! ### heaps that grow -/
/-- a code object's table may grow, all else stays -/
def TabLike (o o' : HO) : Prop := ∃ ps ps' : Array Value, o = .tbl ps ∧ o' = .tbl ps' ∧ (GxR.TabG (fun _ => some (.tbl ps)) 0 → GxR.TabG (fun _ => some (.tbl ps')) 0)
def Le (H H' : Hp) : Prop := ∀ b o, H b = some o → ∃ o', H' b = some o' ∧ (o' = o ∨ TabLike o o')
theorem Le.refl (H : Hp) : Le H H := fun b o e => ⟨o, e, .inl rfl⟩
theorem Le.trans {H H1 H2 : Hp} (a : Le H H1) (b : Le H1 H2) : Le H H2 := fun c o e => by
  obtain ⟨o1, e1, r1⟩ := a c o e
  obtain ⟨o2, e2, r2⟩ := b c o1 e1
  refine ⟨o2, e2, ?_⟩
  rcases r1 with rfl | ⟨ps, ps', rfl, rfl, t⟩
  · exact r2
  · rcases r2 with rfl | ⟨qs, qs', h, rfl, t'⟩
    · exact .inr ⟨ps, ps', rfl, rfl, t⟩
    · cases h; exact .inr ⟨ps, qs', rfl, rfl, fun x => t' (t x)⟩
theorem Le.same {H H' : Hp} (s : Same H H') : Le H H' := fun b o e => ⟨o, s b o e, .inl rfl⟩
theorem Le.new {H : Hp} {p : Addr} {o : HO} (n : H p = none) : Le H (upd H p o) := fun b u e => ⟨u, by rw [upd_ne (ne_of_none e n)]; exact e, .inl rfl⟩
theorem Le.out {H0 H : Hp} {a : Addr} {o : HO} (l : Le H0 H) (n : H0 a = none) : Le H0 (upd H a o) := fun b u e => by
  obtain ⟨o', e', r⟩ := l b u e
  exact ⟨o', by rw [upd_ne (ne_of_none e n)]; exact e', r⟩
theorem Le.both {H H' : Hp} {p : Addr} {o : HO} (l : Le H H') : Le (upd H p o) (upd H' p o) := fun b u e => by
  by_cases h : b = p
  · subst h; rw [upd_same] at e ⊢; exact ⟨u, e, .inl rfl⟩
  · rw [upd_ne h] at e ⊢; exact l b u e
theorem Le.free {H H' : Hp} {a : Addr} (l : Le H H') (n : H' a = none) : H a = none := by
  cases e : H a with
  | none => rfl
  | some o => obtain ⟨o', e', _⟩ := l a o e; rw [n] at e'; cases e'
theorem Le.keep {H H' : Hp} {a : Addr} {o : HO} (l : Le H H') (e : H a = some o) (h : ∀ ps, o ≠ .tbl ps) : H' a = some o := by
  obtain ⟨o', e', r⟩ := l a o e
  rcases r with rfl | ⟨ps, _, rfl, _, _⟩
  · exact e'
  · exact absurd rfl (h ps)
theorem Le.is {H H' : Hp} {a : Addr} {o : HO} (l : Le H H') (e : H a = some o) : ∃ o', H' a = some o' := by
  obtain ⟨o', e', _⟩ := l a o e; exact ⟨o', e'⟩
theorem Le.rd {H H' : Hp} {a : Addr} {u : HO} (l : Le H H') (h : ∀ ps, u ≠ .tbl ps) (r : Rd H a u) : Rd H' a u := by
  rcases r with r | ⟨o, r⟩
  · exact .inl (l.keep r h)
  · exact .inr ⟨o, l.keep r (fun ps z => nomatch z)⟩
theorem Le.seqL {K : PySem.W.Frag} {H H' : Hp} {a : Addr} {xs : List V} (l : Le H H') (r : SqL K H a xs) : SqL K H' a xs := by
  rcases r with r | r
  · exact Or.inl (l.rd (fun ps z => nomatch z) r)
  · exact .inr r
theorem Le.seqT {K : PySem.W.Frag} {H H' : Hp} {a : Addr} {xs : List V} (l : Le H H') (r : SqT K H a xs) : SqT K H' a xs := by
  rcases r with r | r
  · exact Or.inl (l.rd (fun ps z => nomatch z) r)
  · exact .inr r

/-! ### a value is a tree in a heap -/
mutual
inductive Rel (K : KC) (H : Hp) : V → D → Prop
  | non : Rel K H .non .non
  | bl (b : Bool) : Rel K H (.bl b) (.bl b)
  | int (i : Int) : Rel K H (.int i) (.int i)
  | str (x : Str) : Rel K H (.str x) (.str x)
  | lst {a : Addr} {xs : List V} {ds : List D} : H a = some (.lst xs) → xs.length ≤ sizeLine → RelL K H xs ds → Rel K H (.ref a) (.lst ds)
  | scr {a : Addr} {xs : List V} {ds : List D} : SqL K.K H a xs → xs.length ≤ sizeLine → RelL K H xs ds → Rel K H (.ref a) (.scr ds)
  | tup {a : Addr} {xs : List V} {ds : List D} : H a = some (.tup xs) → xs.length ≤ sizeLine → RelL K H xs ds → Rel K H (.ref a) (.tup ds)
  | dic {a : Addr} {kvs : List (Key × V)} {es : List (Key × D)} : H a = some (.dK kvs) → kvs.length ≤ sizeLine → kvs.map (·.1) = es.map (·.1) → RelL K H (kvs.map (·.2)) (es.map (·.2)) → Rel K H (.ref a) (.dic es)
  | dit {a : Addr} {kvs : List (List Key × V)} {es : List (List Key × D)} : H a = some (.dT kvs) → kvs.length ≤ sizeLine → kvs.map (·.1) = es.map (·.1) → RelL K H (kvs.map (·.2)) (es.map (·.2)) → Rel K H (.ref a) (.dit es)
  | ins {a dx : Addr} {C : String} {fs : List (Str × V)} {es : List (Str × D)} : H a = some (.ins (K.c C) dx fs) → fs.map (·.1) = es.map (·.1) → RelL K H (fs.map (·.2)) (es.map (·.2)) → Rel K H (.ref a) (.ins C es)
  | ref (a : Addr) : Rel K H (.ref a) (.ref a)
  | ty (n : String) : Rel K H (.ty n) (.ty n)
inductive RelL (K : KC) (H : Hp) : List V → List D → Prop
  | nil : RelL K H [] []
  | cons {v : V} {vs : List V} {d : D} {ds : List D} : Rel K H v d → RelL K H vs ds → RelL K H (v :: vs) (d :: ds)
end
theorem rel_mono {K : KC} {H H' : Hp} (l : Le H H') : (∀ {v : V} {d : D}, Rel K H v d → Rel K H' v d) ∧ (∀ {v : List V} {d : List D}, RelL K H v d → RelL K H' v d) := by
  constructor
  · intro v d h
    induction h using Rel.rec (motive_2 := fun v d _ => RelL K H' v d) with
    | non => exact .non
    | bl b => exact .bl b
    | int b => exact .int b
    | str b => exact .str b
    | lst s z _ r => exact .lst (l.keep s (fun ps z => nomatch z)) z r
    | scr s z _ r => exact .scr (l.seqL s) z r
    | tup s z _ r => exact .tup (l.keep s (fun ps z => nomatch z)) z r
    | dic s z e _ r => exact .dic (l.keep s (fun ps z => nomatch z)) z e r
    | dit s z e _ r => exact .dit (l.keep s (fun ps z => nomatch z)) z e r
    | ins s e _ r => exact .ins (l.keep s (fun ps z => nomatch z)) e r
    | ref a => exact .ref a
    | ty n => exact .ty n
    | nil => exact .nil
    | cons _ _ a b => exact .cons a b
  · intro v d h
    induction h using RelL.rec (motive_1 := fun v d _ => Rel K H' v d) with
    | non => exact .non
    | bl b => exact .bl b
    | int b => exact .int b
    | str b => exact .str b
    | lst s z _ r => exact .lst (l.keep s (fun ps z => nomatch z)) z r
    | scr s z _ r => exact .scr (l.seqL s) z r
    | tup s z _ r => exact .tup (l.keep s (fun ps z => nomatch z)) z r
    | dic s z e _ r => exact .dic (l.keep s (fun ps z => nomatch z)) z e r
    | dit s z e _ r => exact .dit (l.keep s (fun ps z => nomatch z)) z e r
    | ins s e _ r => exact .ins (l.keep s (fun ps z => nomatch z)) e r
    | ref a => exact .ref a
    | ty n => exact .ty n
    | nil => exact .nil
    | cons _ _ a b => exact .cons a b
theorem Rel.mono {K : KC} {H H' : Hp} (l : Le H H') {v : V} {d : D} (h : Rel K H v d) : Rel K H' v d := (rel_mono l).1 h
theorem RelL.mono {K : KC} {H H' : Hp} (l : Le H H') {v : List V} {d : List D} (h : RelL K H v d) : RelL K H' v d := (rel_mono l).2 h
theorem RelL.paired {K : KC} {H : Hp} : ∀ {v : List V} {d : List D}, RelL K H v d → Paired (Rel K H) v d
  | _, _, .nil => .nil
  | _, _, .cons h t => .cons h (RelL.paired t)
theorem RelL.of {K : KC} {H : Hp} : ∀ {v : List V} {d : List D}, Paired (Rel K H) v d → RelL K H v d
  | _, _, .nil => .nil
  | _, _, .cons h t => .cons h (RelL.of t)
theorem RelL.length {K : KC} {H : Hp} {v : List V} {d : List D} (r : RelL K H v d) : v.length = d.length := r.paired.length
theorem RelL.get {K : KC} {H : Hp} : ∀ {v : List V} {d : List D}, RelL K H v d → ∀ {i : Nat} {e : D}, d[i]? = some e → ∃ x, v[i]? = some x ∧ Rel K H x e
  | _, _, .nil, _, _, h => by simp at h
  | _, _, .cons h1 h2, 0, x, h => by simp at h; subst h; exact ⟨_, rfl, h1⟩
  | _, _, .cons h1 h2, i + 1, x, h => by simp at h; obtain ⟨e, a, b⟩ := RelL.get h2 h; exact ⟨e, by simpa using a, b⟩
theorem RelL.get' {K : KC} {H : Hp} : ∀ {v : List V} {d : List D}, RelL K H v d → ∀ {i : Nat} {x : V}, v[i]? = some x → ∃ e, d[i]? = some e ∧ Rel K H x e
  | _, _, .nil, _, _, h => by simp at h
  | _, _, .cons h1 h2, 0, x, h => by simp at h; subst h; exact ⟨_, rfl, h1⟩
  | _, _, .cons h1 h2, i + 1, x, h => by simp at h; obtain ⟨e, a, b⟩ := RelL.get' h2 h; exact ⟨e, by simpa using a, b⟩
theorem RelL.append {K : KC} {H : Hp} : ∀ {v w : List V} {d e : List D}, RelL K H v d → RelL K H w e → RelL K H (v ++ w) (d ++ e)
  | _, _, _, _, .nil, s => s
  | _, _, _, _, .cons h t, s => .cons h (RelL.append t s)
theorem RelL.take {K : KC} {H : Hp} : ∀ {v : List V} {d : List D} (n : Nat), RelL K H v d → RelL K H (v.take n) (d.take n)
  | _, _, 0, _ => .nil
  | _, _, _ + 1, .nil => .nil
  | _, _, n + 1, .cons h t => .cons h (RelL.take n t)
theorem RelL.drop {K : KC} {H : Hp} : ∀ {v : List V} {d : List D} (n : Nat), RelL K H v d → RelL K H (v.drop n) (d.drop n)
  | _, _, 0, r => r
  | _, _, _ + 1, .nil => .nil
  | _, _, n + 1, .cons h t => RelL.drop n t
theorem RelL.set {K : KC} {H : Hp} {x : V} {e : D} (r : Rel K H x e) : ∀ {v : List V} {d : List D} (n : Nat), RelL K H v d → RelL K H (v.set n x) (d.set n e)
  | _, _, _, .nil => .nil
  | _, _, 0, .cons h t => .cons r t
  | _, _, n + 1, .cons h t => .cons h (RelL.set r n t)
theorem RelL.ints {K : KC} {H : Hp} : ∀ ns : List Int, RelL K H (ns.map V.int) (ns.map D.int)
  | [] => .nil
  | n :: ns => .cons (.int n) (RelL.ints ns)
theorem RelL.ints_inv {K : KC} {H : Hp} : ∀ {vs : List V} {ns : List Int}, RelL K H vs (ns.map D.int) → vs = ns.map V.int
  | _, [], .nil => rfl
  | _, n :: ns, .cons h t => by cases h; rw [RelL.ints_inv t]; rfl

/-! ### frozen part and whole -/
structure Ext (Hf H Hf' H' : Hp) : Prop where
  f : Le Hf Hf'
  h : Le H H'
  i : Le Hf' H'
  o : ∀ a o, H a = some o → Hf a = none → Hf' a = none
theorem Ext.refl {Hf H : Hp} (l : Le Hf H) : Ext Hf H Hf H := ⟨Le.refl _, Le.refl _, l, fun _ _ _ n => n⟩
theorem Ext.trans {Hf H Hf1 H1 Hf2 H2 : Hp} (a : Ext Hf H Hf1 H1) (b : Ext Hf1 H1 Hf2 H2) : Ext Hf H Hf2 H2 :=
  ⟨a.f.trans b.f, a.h.trans b.h, b.i, fun c o e n => by obtain ⟨o', e'⟩ := a.h.is e; exact b.o c o' e' (a.o c o e n)⟩
theorem Ext.new {Hf H : Hp} {p : Addr} {o : HO} (l : Le Hf H) (n : H p = none) : Ext Hf H (upd Hf p o) (upd H p o) :=
  ⟨.new (l.free n), .new n, l.both, fun a u e z => by rw [upd_ne (ne_of_none e n)]; exact z⟩
/-- a new thing that stays owned -/
theorem Ext.own {Hf H : Hp} {p : Addr} {o : HO} (l : Le Hf H) (n : H p = none) : Ext Hf H Hf (upd H p o) :=
  ⟨.refl _, .new n, l.trans (.new n), fun a u e z => z⟩

/-! ### the slots of a frame -/
inductive Slot where
  | none | val (d : D) | own (ds : List D) | ownD (kvs : List (Key × D)) | ownT (kvs : List (List Key × D))
abbrev Rho := List Slot
/-- what is fixed for a body: the entry's frozen heap and heap, the wish of errors, the error classes -/
structure Bs where
  Hf0 : Hp
  H0 : Hp
  W : WX
  cls : String → Addr
abbrev Bs.quiet (B : Bs) : Bs := { B with W := fun _ _ _ _ => False }
def SlotRel (K : KC) (H0 Hf H : Hp) (sv : Option V) (s : Slot) : Prop := match s with
  | .none => True
  | .val d => ∃ v, sv = some v ∧ Rel K Hf v d
  | .own ds => ∃ a xs, sv = some (.ref a) ∧ H a = some (.lst xs) ∧ Hf a = none ∧ H0 a = none ∧ xs.length ≤ sizeLine ∧ RelL K Hf xs ds
  | .ownD es => ∃ a kvs, sv = some (.ref a) ∧ H a = some (.dK kvs) ∧ Hf a = none ∧ H0 a = none ∧ kvs.length ≤ sizeLine ∧ kvs.map (·.1) = es.map (·.1) ∧ RelL K Hf (kvs.map (·.2)) (es.map (·.2))
  | .ownT es => ∃ a kvs, sv = some (.ref a) ∧ H a = some (.dT kvs) ∧ Hf a = none ∧ H0 a = none ∧ kvs.length ≤ sizeLine ∧ kvs.map (·.1) = es.map (·.1) ∧ RelL K Hf (kvs.map (·.2)) (es.map (·.2))
def Slot.owns : Slot → Bool
  | .own _ => true
  | .ownD _ => true
  | .ownT _ => true
  | _ => false
/-- the address that slot i owns -/
def ownA (σ : L2.St) (ρ : Rho) (i : Nat) (a : Addr) : Prop := σ[i]? = some (some (.ref a)) ∧ ∃ s, ρ[i]? = some s ∧ s.owns = true
structure Env (K : KC) (B : Bs) (Hf H : Hp) (σ : L2.St) (ρ : Rho) : Prop where
  fz : Ext B.Hf0 B.H0 Hf H
  rel : Paired (SlotRel K B.H0 Hf H) σ ρ
  dis : ∀ i j a, ownA σ ρ i a → ownA σ ρ j a → i = j
theorem SlotRel.ext {K : KC} {H0 Hf H Hf' H' : Hp} (x : Ext Hf H Hf' H') {sv : Option V} {s : Slot} (r : SlotRel K H0 Hf H sv s) : SlotRel K H0 Hf' H' sv s := by
  cases s with
  | none => trivial
  | val d => obtain ⟨v, e, q⟩ := r; exact ⟨v, e, Rel.mono x.f q⟩
  | own ds => obtain ⟨a, xs, e, h, n, n0, z, q⟩ := r; exact ⟨a, xs, e, x.h.keep h (fun ps z => nomatch z), x.o a _ h n, n0, z, RelL.mono x.f q⟩
  | ownD es => obtain ⟨a, xs, e, h, n, n0, z, q1, q⟩ := r; exact ⟨a, xs, e, x.h.keep h (fun ps z => nomatch z), x.o a _ h n, n0, z, q1, RelL.mono x.f q⟩
  | ownT es => obtain ⟨a, xs, e, h, n, n0, z, q1, q⟩ := r; exact ⟨a, xs, e, x.h.keep h (fun ps z => nomatch z), x.o a _ h n, n0, z, q1, RelL.mono x.f q⟩
theorem Env.ext {K : KC} {B : Bs} {Hf H Hf' H' : Hp} {σ : L2.St} {ρ : Rho} (E : Env K B Hf H σ ρ) (x : Ext Hf H Hf' H') : Env K B Hf' H' σ ρ :=
  ⟨E.fz.trans x, Paired.mapP E.rel fun _ _ r => SlotRel.ext x r, E.dis⟩
theorem pget {α β : Type} {F : α → β → Prop} : ∀ {xs : List α} {ys : List β} {i : Nat} {y : β}, Paired F xs ys → ys[i]? = some y → ∃ x, xs[i]? = some x ∧ F x y
  | _, _, _, _, .nil, e => by simp at e
  | _, _, 0, _, .cons r _, e => by simp at e; subst e; exact ⟨_, rfl, r⟩
  | _, _, i + 1, y, .cons r t, e => by
    obtain ⟨x, a, b⟩ := pget t (by simpa using e)
    exact ⟨x, by simpa using a, b⟩
theorem pset {α β : Type} {F : α → β → Prop} {x : α} {y : β} (r : F x y) : ∀ {xs : List α} {ys : List β} (i : Nat), Paired F xs ys → Paired F (xs.set i x) (ys.set i y)
  | _, _, _, .nil => .nil
  | _, _, 0, .cons _ t => .cons r t
  | _, _, i + 1, .cons q t => .cons q (pset r i t)
theorem Env.slot {K : KC} {B : Bs} {Hf H : Hp} {σ : L2.St} {ρ : Rho} (E : Env K B Hf H σ ρ) {i : Nat} {s : Slot} (h : ρ[i]? = some s) : ∃ sv, σ[i]? = some sv ∧ SlotRel K B.H0 Hf H sv s := pget E.rel h
theorem Env.val {K : KC} {B : Bs} {Hf H : Hp} {σ : L2.St} {ρ : Rho} (E : Env K B Hf H σ ρ) {i : Nat} {d : D} (h : ρ[i]? = some (.val d)) : ∃ v, σ[i]? = some (some v) ∧ Rel K Hf v d := by
  obtain ⟨sv, e, v, rfl, r⟩ := E.slot h
  exact ⟨v, e, r⟩
theorem Env.le {K : KC} {B : Bs} {Hf H : Hp} {σ : L2.St} {ρ : Rho} (E : Env K B Hf H σ ρ) : Le Hf H := E.fz.i
/-- a slot gets a value -/
theorem Env.set {K : KC} {B : Bs} {Hf H : Hp} {σ : L2.St} {ρ : Rho} (E : Env K B Hf H σ ρ) (i : Nat) {v : V} {d : D} (r : Rel K Hf v d) : Env K B Hf H (σ.set i (some v)) (ρ.set i (.val d)) := by
  refine ⟨E.fz, pset ⟨v, rfl, r⟩ i E.rel, fun j k a h1 h2 => ?_⟩
  have hj : ∀ j, ownA (σ.set i (some v)) (ρ.set i (.val d)) j a → ownA σ ρ j a := fun j h => by
    obtain ⟨h1, s, h3, h4⟩ := h
    by_cases e : i = j
    · subst e
      rw [List.getElem?_set] at h3
      simp at h3
      obtain ⟨_, rfl⟩ := h3
      cases h4
    · rw [List.getElem?_set_ne e] at h1 h3
      exact ⟨h1, s, h3, h4⟩
  exact E.dis j k a (hj j h1) (hj k h2)
/-- a slot is forgotten -/
theorem Env.drop {K : KC} {B : Bs} {Hf H : Hp} {σ : L2.St} {ρ : Rho} (E : Env K B Hf H σ ρ) (i : Nat) (sv : Option V) : Env K B Hf H (σ.set i sv) (ρ.set i .none) := by
  refine ⟨E.fz, pset (by trivial) i E.rel, fun j k a h1 h2 => ?_⟩
  have hj : ∀ j, ownA (σ.set i sv) (ρ.set i .none) j a → ownA σ ρ j a := fun j h => by
    obtain ⟨h1, s, h3, h4⟩ := h
    by_cases e : i = j
    · subst e
      rw [List.getElem?_set] at h3
      simp at h3
      obtain ⟨_, rfl⟩ := h3
      cases h4
    · rw [List.getElem?_set_ne e] at h1 h3
      exact ⟨h1, s, h3, h4⟩
  exact E.dis j k a (hj j h1) (hj k h2)
/-! ### readings -/
section
variable {α β α' β' : Type}
def Res (B : Bs) (rel : Hp → β → α → Prop) (Hf H : Hp) (σ : L2.St) (r : R α) (Q : β → Hp → Prop) : Prop := match r with
  | .ok d => ∀ v Hf' H', Ext Hf H Hf' H' → rel Hf' v d → Q v H'
  | .err c => ∀ Hf' H', Ext Hf H Hf' H' → B.W (.ref (B.cls c)) none σ H'
  | .bad => False
theorem Res.ext {B : Bs} {rel : Hp → β → α → Prop} {Hf H Hf1 H1 : Hp} {σ : L2.St} {r : R α} {Q : β → Hp → Prop} (h : Res B rel Hf H σ r Q) (x : Ext Hf H Hf1 H1) : Res B rel Hf1 H1 σ r Q := by
  cases r with
  | ok d => exact fun v Hf' H' y q => h v Hf' H' (x.trans y) q
  | err c => exact fun Hf' H' y => h Hf' H' (x.trans y)
  | bad => exact h
theorem Res.bind {B : Bs} {rel : Hp → β → α → Prop} {rel' : Hp → β' → α' → Prop} {Hf H : Hp} {σ : L2.St} {r : R α} {k : α → R α'} {Q : β' → Hp → Prop} {Q' : β → Hp → Prop} (h : Res B rel' Hf H σ (r.bind k) Q)
    (hk : ∀ v d Hf' H', Ext Hf H Hf' H' → rel Hf' v d → Res B rel' Hf' H' σ (k d) Q → Q' v H') : Res B rel Hf H σ r Q' := by
  cases r with
  | ok d => exact fun v Hf' H' y q => hk v d Hf' H' y q (h.ext y)
  | err c => exact h
  | bad => exact h
theorem Res.imp {B : Bs} {rel : Hp → β → α → Prop} {Hf H : Hp} {σ : L2.St} {r : R α} {Q Q' : β → Hp → Prop} (h : Res B rel Hf H σ r Q) (i : ∀ v H', Q v H' → Q' v H') : Res B rel Hf H σ r Q' := by
  cases r with
  | ok d => exact fun v Hf' H' y q => i _ _ (h v Hf' H' y q)
  | err c => exact h
  | bad => exact h
end
abbrev Ex := Rho → R D
abbrev Exs := Rho → R (List D)
abbrev Ts := Rho → R Bool
def relB : Hp → Bool → Bool → Prop := fun _ a b => a = b
def tD (K : KC) (B : Bs) (f : Ex) : TE := fun σ H Q => ∃ Hf ρ, Env K B Hf H σ ρ ∧ Res B (Rel K) Hf H σ (f ρ) Q
def tDs (K : KC) (B : Bs) (f : Exs) : TA := fun σ H Q => ∃ Hf ρ, Env K B Hf H σ ρ ∧ Res B (RelL K) Hf H σ (f ρ) Q
def tDb (K : KC) (B : Bs) (f : Ts) : TT := fun σ H Q => ∃ Hf ρ, Env K B Hf H σ ρ ∧ Res B relB Hf H σ (f ρ) Q
abbrev kc (X : Cx) (B : Bs) : KC := ⟨X.K, B.cls⟩
abbrev DE (X : Cx) (B : Bs) (e : Expr) (f : Ex) : Prop := PE X e (tD (kc X B) B f)
abbrev DA (X : Cx) (B : Bs) (es : List Expr) (f : Exs) : Prop := PA X es (tDs (kc X B) B f)
abbrev DT (X : Cx) (B : Bs) (e : Expr) (f : Ts) : Prop := PT X e (tDb (kc X B) B f)
theorem peI {X : Cx} {e : Expr} {t t' : TE} (h : PE X e t) (i : ∀ σ H Q, t' σ H Q → t σ H Q) : PE X e t' := ⟨fun pins s σ H Q I q => h.run pins s σ H Q I (i σ H Q q)⟩
theorem ptI {X : Cx} {e : Expr} {t t' : TT} (h : PT X e t) (i : ∀ σ H Q, t' σ H Q → t σ H Q) : PT X e t' := ⟨fun pins s σ H Q I q => h.run pins s σ H Q I (i σ H Q q)⟩
theorem paI {X : Cx} {e : List Expr} {t t' : TA} (h : PA X e t) (i : ∀ σ H Q, t' σ H Q → t σ H Q) : PA X e t' := ⟨fun pos pins s σ H Q I q => h.run pos pins s σ H Q I (i σ H Q q)⟩
theorem psI {X : Cx} {st : Stmt} {t t' : TS} (h : PS X st t) (i : ∀ D σ H, t' D σ H → t D σ H) : PS X st t' := ⟨fun pins s σ H D I q => h.run pins s σ H D I (i D σ H q)⟩
theorem pssI {X : Cx} {st : List Stmt} {t t' : TS} (h : PSs X st t) (i : ∀ D σ H, t' D σ H → t D σ H) : PSs X st t' := ⟨fun pins s σ H D I q => h.run pins s σ H D I (i D σ H q)⟩
theorem opI' {X : Cx} {f : Value → Value → Sem Value} {r r' : R2} (h : OpR X f r) (i : ∀ x y H Q, r' x y H Q → r x y H Q) : OpR X f r' := fun pins s σ H x y v u Q I rx ry q => h pins s σ H x y v u Q I rx ry (i x y H Q q)

/-! ### names, constants -/
def eVar (i : Nat) : Ex := fun ρ => match ρ[i]? with
  | some (.val d) => .ok d
  | _ => .bad
def eC (d : D) : Ex := fun _ => .ok d
def ofO {α : Type} : Option α → R α
  | some a => .ok a
  | none => .bad
section
variable {X : Cx} {B : Bs} {e a b : Expr} {pos : Pos}
theorem de_var (i : Nat) {x : Str} (hN : X.N[i]? = some x := by rfl) (hv : Vis X.env.scope x := by first | exact Or.inl rfl | exact Or.inr (Or.inl rfl) | exact Or.inr (Or.inr rfl)) (hd : (x == ("__debug__" : Str)) = false := by decide)
    (hcd : (x == ("__classdict__" : Str)) = false := by decide) : DE X B (.Name x pos) (eVar i) := by
  refine peI (pe_var hN hv hd hcd) fun σ H Q ⟨Hf, ρ, E, r⟩ => ?_
  unfold eVar at r
  split at r
  · rename_i d h
    obtain ⟨v, e, q⟩ := E.val h
    exact ⟨v, e, r v Hf H (.refl E.le) q⟩
  · exact r.elim
theorem de_c {v : V} {d : D} (h : PE X e (tC v)) (r : ∀ H, Rel (kc X B) H v d) : DE X B e (eC d) := peI h fun σ H Q ⟨Hf, ρ, E, q⟩ => q v Hf H (.refl E.le) (r Hf)
theorem de_int {i j} : DE X B (.Constant (.int i) j pos) (eC (.int i)) := de_c pe_int fun _ => .int i
theorem de_str {i j} : DE X B (.Constant (.str i) j pos) (eC (.str i)) := de_c pe_str fun _ => .str i
theorem de_bl {i j} : DE X B (.Constant (.bool i) j pos) (eC (.bl i)) := de_c pe_bl fun _ => .bl i
theorem de_non {j} : DE X B (.Constant .none j pos) (eC .non) := de_c pe_non fun _ => .non
end

/-! ### two in a row -/
section
variable {X : Cx} {B : Bs} {K : KC}
theorem tD_then {f : Ex} {α' β' : Type} {rel' : Hp → β' → α' → Prop} {Hf H : Hp} {σ : L2.St} {ρ : Rho} {k : D → R α'} {Q : β' → Hp → Prop} {Q' : VK} (E : Env K B Hf H σ ρ) (h : Res B rel' Hf H σ ((f ρ).bind k) Q)
    (hk : ∀ v d Hf' H', Ext Hf H Hf' H' → Rel K Hf' v d → Env K B Hf' H' σ ρ → Res B rel' Hf' H' σ (k d) Q → Q' v H') : tD K B f σ H Q' :=
  ⟨Hf, ρ, E, h.bind fun v d Hf' H' x r q => hk v d Hf' H' x r (E.ext x) q⟩
theorem tDb_then {f : Ts} {α' β' : Type} {rel' : Hp → β' → α' → Prop} {Hf H : Hp} {σ : L2.St} {ρ : Rho} {k : Bool → R α'} {Q : β' → Hp → Prop} {Q' : Bool → Hp → Prop} (E : Env K B Hf H σ ρ) (h : Res B rel' Hf H σ ((f ρ).bind k) Q)
    (hk : ∀ b Hf' H', Ext Hf H Hf' H' → Env K B Hf' H' σ ρ → Res B rel' Hf' H' σ (k b) Q → Q' b H') : tDb K B f σ H Q' :=
  ⟨Hf, ρ, E, h.bind fun v d Hf' H' x r q => by cases r; exact hk v Hf' H' x (E.ext x) q⟩
theorem tDs_then {f : Exs} {α' β' : Type} {rel' : Hp → β' → α' → Prop} {Hf H : Hp} {σ : L2.St} {ρ : Rho} {k : List D → R α'} {Q : β' → Hp → Prop} {Q' : List V → Hp → Prop} (E : Env K B Hf H σ ρ) (h : Res B rel' Hf H σ ((f ρ).bind k) Q)
    (hk : ∀ v d Hf' H', Ext Hf H Hf' H' → RelL K Hf' v d → Env K B Hf' H' σ ρ → Res B rel' Hf' H' σ (k d) Q → Q' v H') : tDs K B f σ H Q' :=
  ⟨Hf, ρ, E, h.bind fun v d Hf' H' x r q => hk v d Hf' H' x r (E.ext x) q⟩
end
/-- an operation by data: the reading -/
def rD (K : KC) (op : D → D → Option D) : R2 := fun x y H Q => ∃ Hf d e r, Le Hf H ∧ Rel K Hf x d ∧ Rel K Hf y e ∧ op d e = some r ∧ ∀ v Hf' H', Ext Hf H Hf' H' → Rel K Hf' v r → Q v H'
def rD1 (K : KC) (op : D → Option D) : V → Hp → VK → Prop := fun x H Q => ∃ Hf d r, Le Hf H ∧ Rel K Hf x d ∧ op d = some r ∧ ∀ v Hf' H', Ext Hf H Hf' H' → Rel K Hf' v r → Q v H'
def rDs (K : KC) (op : List D → Option D) : List V → Hp → VK → Prop := fun xs H Q => ∃ Hf ds r, Le Hf H ∧ RelL K Hf xs ds ∧ op ds = some r ∧ ∀ v Hf' H', Ext Hf H Hf' H' → Rel K Hf' v r → Q v H'
def eOp (op : D → D → Option D) (f g : Ex) : Ex := fun ρ => (f ρ).bind fun x => (g ρ).bind fun y => ofO (op x y)
def eUn (op : D → Option D) (f : Ex) : Ex := fun ρ => (f ρ).bind fun x => ofO (op x)
theorem res_ofO {α β : Type} {B : Bs} {rel : Hp → β → α → Prop} {Hf H : Hp} {σ : L2.St} {o : Option α} {Q : β → Hp → Prop} (h : Res B rel Hf H σ (ofO o) Q) : ∃ d, o = some d ∧ ∀ v Hf' H', Ext Hf H Hf' H' → rel Hf' v d → Q v H' := by
  cases o with
  | none => exact h.elim
  | some d => exact ⟨d, rfl, h⟩
section
variable {X : Cx} {B : Bs} {e a b : Expr} {f g : Ex} {pos : Pos}
theorem tOp_of {K : KC} {op : D → D → Option D} {σ : L2.St} {H : Hp} {Q : VK} (h : tD K B (eOp op f g) σ H Q) : tOp (rD K op) (tD K B f) (tD K B g) σ H Q := by
  obtain ⟨Hf, ρ, E, h⟩ := h
  refine tD_then E h fun v d Hf1 H1 x1 r1 E1 h1 => ?_
  refine tD_then E1 h1 fun u e Hf2 H2 x2 r2 E2 h2 => ?_
  obtain ⟨z, ez, q⟩ := res_ofO h2
  exact ⟨Hf2, d, e, z, E2.le, r1.mono x2.f, r2, ez, q⟩
theorem tUn_of {K : KC} {op : D → Option D} {σ : L2.St} {H : Hp} {Q : VK} (h : tD K B (eUn op f) σ H Q) : tUn (rD1 K op) (tD K B f) σ H Q := by
  obtain ⟨Hf, ρ, E, h⟩ := h
  refine tD_then E h fun v d Hf1 H1 x1 r1 E1 h1 => ?_
  obtain ⟨z, ez, q⟩ := res_ofO h1
  exact ⟨Hf1, d, z, E1.le, r1, ez, q⟩
theorem de_bin {o : Operator} {op : D → D → Option D} (ho : OpR X (binaryOp o) (rD (kc X B) op)) (ha : DE X B a f) (hb : DE X B b g) : DE X B (.BinOp a o b pos) (eOp op f g) := peI (pe_op ho ha hb) fun _ _ _ h => tOp_of h
theorem de_un {o : UnaryOp} {op : D → Option D} (ho : UnR X (unaryOp o) (rD1 (kc X B) op)) (ha : DE X B a f) : DE X B (.UnaryOp o a pos) (eUn op f) := peI (pe_un ho ha) fun _ _ _ h => tUn_of h
theorem de_cmp {o : CmpOp} {op : D → D → Option D} (ho : OpR X (compareOp o) (rD (kc X B) op)) (ha : DE X B a f) (hb : DE X B b g) (hm : behindInMarks o b = false) : DE X B (.Compare a [o] [b] pos) (eOp op f g) := peI (pe_cmpR ho ha hb hm) fun _ _ _ h => tOp_of h
/-- a comparison as a test -/
def asB (f : Ex) : Ts := fun ρ => (f ρ).bind fun d => match d with
  | .bl b => .ok b
  | _ => .bad
theorem tTest_of {K : KC} {t : TE} {σ : L2.St} {H : Hp} {Q : Bool → Hp → Prop} (hm : ∀ σ H Q, tD K B f σ H Q → t σ H Q) (h : tDb K B (asB f) σ H Q) : tTest t σ H Q := by
  obtain ⟨Hf, ρ, E, h⟩ := h
  refine hm _ _ _ (tD_then E h fun v d Hf1 H1 x1 r1 E1 h1 => ?_)
  split at h1
  · cases r1; exact ⟨_, rfl, h1 _ _ _ (.refl E1.le) rfl⟩
  · exact h1.elim
theorem dt_cmp {o : CmpOp} {op : D → D → Option D} (ho : OpR X (compareOp o) (rD (kc X B) op)) (ha : DE X B a f) (hb : DE X B b g) (hm : behindInMarks o b = false) : DT X B (.Compare a [o] [b] pos) (asB (eOp op f g)) := ptI (pt_cmpR ho ha hb hm) fun _ _ _ h => tTest_of (fun _ _ _ h => tOp_of h) h
end
/-! ### the operations -/
def oAdd : D → D → Option D
  | .int i, .int j => some (.int (i + j))
  | .str x, .str y => if x.length + y.length ≤ sizeLine then some (.str (x ++ y)) else none
  | .lst xs, .lst ys => if xs.length + ys.length ≤ sizeLine then some (.lst (xs ++ ys)) else none
  | .tup xs, .tup ys => if xs.length + ys.length ≤ sizeLine then some (.tup (xs ++ ys)) else none
  | _, _ => none
def oSub : D → D → Option D
  | .int i, .int j => some (.int (i - j))
  | _, _ => none
def smallI (i : Int) : Bool := decide (-(2 ^ 64) < i ∧ i < 2 ^ 64)
def oMul : D → D → Option D
  | .int i, .int j => if smallI i || smallI j then some (.int (i * j)) else none
  | _, _ => none
def oFdiv : D → D → Option D
  | .int i, .int j => if 0 < j ∧ j < 1073741824 then some (.int (i / j)) else none
  | _, _ => none
def oMod : D → D → Option D
  | .int i, .int j => if 0 < j then some (.int (i % j)) else none
  | _, _ => none
def oPow : D → D → Option D
  | .int i, .int j => if 0 ≤ j ∧ j ≤ 1000000 ∧ i.natAbs < 2 ^ 64 then some (.int (i ^ j.toNat)) else none
  | _, _ => none
def oNeg : D → Option D
  | .int i => some (.int (-i))
  | _ => none
section
variable {X : Cx} {c : String → Addr}
theorem do_sub : OpR X (binaryOp .Sub) (rD ⟨X.K, c⟩ oSub) := opI' op_sub fun x y H Q ⟨Hf, d, e, r, l, r1, r2, ho, q⟩ => by
  unfold oSub at ho
  split at ho
  · cases r1; cases r2; cases ho; exact ⟨_, _, rfl, rfl, q _ _ _ (.refl l) (.int _)⟩
  · cases ho
theorem do_mul : OpR X (binaryOp .Mult) (rD ⟨X.K, c⟩ oMul) := opI' op_mul fun x y H Q ⟨Hf, d, e, r, l, r1, r2, ho, q⟩ => by
  unfold oMul at ho
  split at ho
  · cases r1; cases r2
    split at ho
    · rename_i i j hc
      cases ho
      refine ⟨_, _, rfl, rfl, ?_, q _ _ _ (.refl l) (.int _)⟩
      rw [Bool.or_eq_true] at hc
      rcases hc with h | h
      · exact .inl (of_decide_eq_true h)
      · exact .inr (of_decide_eq_true h)
    · cases ho
  · cases ho
theorem do_fdiv : OpR X (binaryOp .FloorDiv) (rD ⟨X.K, c⟩ oFdiv) := opI' op_fdiv fun x y H Q ⟨Hf, d, e, r, l, r1, r2, ho, q⟩ => by
  unfold oFdiv at ho
  split at ho
  · cases r1; cases r2
    split at ho
    · rename_i hc
      cases ho
      exact ⟨_, _, rfl, rfl, hc, q _ _ _ (.refl l) (.int _)⟩
    · cases ho
  · cases ho
theorem do_mod : OpR X (binaryOp .Mod) (rD ⟨X.K, c⟩ oMod) := opI' op_mod fun x y H Q ⟨Hf, d, e, r, l, r1, r2, ho, q⟩ => by
  unfold oMod at ho
  split at ho
  · cases r1; cases r2
    split at ho
    · rename_i hc
      cases ho
      exact ⟨_, _, rfl, rfl, hc, q _ _ _ (.refl l) (.int _)⟩
    · cases ho
  · cases ho
theorem do_pow : OpR X (binaryOp .Pow) (rD ⟨X.K, c⟩ oPow) := opI' op_pow fun x y H Q ⟨Hf, d, e, r, l, r1, r2, ho, q⟩ => by
  unfold oPow at ho
  split at ho
  · cases r1; cases r2
    split at ho
    · rename_i hc
      cases ho
      exact ⟨_, _, rfl, rfl, hc, q _ _ _ (.refl l) (.int _)⟩
    · cases ho
  · cases ho
theorem du_neg : UnR X (unaryOp .USub) (rD1 ⟨X.K, c⟩ oNeg) := fun pins s σ H x v Q I rx ⟨Hf, d, r, l, r1, ho, q⟩ => by
  unfold oNeg at ho
  split at ho
  · cases r1; cases ho; exact un_neg pins s σ H _ v Q I rx ⟨_, rfl, q _ _ _ (.refl l) (.int _)⟩
  · cases ho
theorem do_add : OpR X (binaryOp .Add) (rD ⟨X.K, c⟩ oAdd) := fun pins s σ H x y v u Q I rx ry ⟨Hf, d, e, r, l, r1, r2, ho, q⟩ => by
  unfold oAdd at ho
  split at ho
  · cases r1; cases r2; cases ho; exact op_add pins s σ H _ _ v u Q I rx ry ⟨_, _, rfl, rfl, q _ _ _ (.refl l) (.int _)⟩
  · cases r1; cases r2
    split at ho
    · rename_i hc
      cases ho; exact op_add_str pins s σ H _ _ v u Q I rx ry ⟨_, _, rfl, rfl, hc, q _ _ _ (.refl l) (.str _)⟩
    · cases ho
  · cases r1 with
    | lst s1 z1 q1 =>
      cases r2 with
      | lst s2 z2 q2 =>
        split at ho
        · rename_i hc
          cases ho
          have hc' := hc
          rw [← q1.length, ← q2.length] at hc'
          refine op_cat pins s σ H _ _ v u Q I rx ry ⟨_, _, _, _, rfl, rfl, l.keep s1 (fun _ z => nomatch z), l.keep s2 (fun _ z => nomatch z), hc', fun p hp => q _ _ _ (.new l hp) (.lst upd_same (by rw [List.length_append]; exact hc') (RelL.mono (.new (l.free hp)) (q1.append q2)))⟩
        · cases ho
  · cases r1 with
    | tup s1 z1 q1 =>
      cases r2 with
      | tup s2 z2 q2 =>
        split at ho
        · rename_i hc
          cases ho
          have hc' := hc
          rw [← q1.length, ← q2.length] at hc'
          refine op_catA pins s σ H _ _ v u Q I rx ry ⟨_, _, _, _, rfl, rfl, SqT.of (l.keep s1 (fun _ z => nomatch z)), SqT.of (l.keep s2 (fun _ z => nomatch z)), hc', fun e => ?_, fun n e => ?_, fun n n2 p hp => q _ _ _ (.new l hp) (.tup upd_same (by rw [List.length_append]; exact hc') (RelL.mono (.new (l.free hp)) (q1.append q2)))⟩
          · subst e; cases q1; exact q _ _ _ (.refl l) (.tup s2 z2 q2)
          · subst e; cases q2; rw [List.append_nil] at q; exact q _ _ _ (.refl l) (.tup s1 z1 q1)
        · cases ho
  · cases ho
end
/-! ### trees as the library's data -/
mutual
def toPy : D → Option PyData
  | .non => some .none
  | .bl b => some (.bool b)
  | .int i => some (.int i)
  | .str x => some (.str x)
  | .lst xs => (toPyL xs).map .list
  | .scr xs => (toPyL xs).map .list
  | .tup xs => (toPyL xs).map .tuple
  | _ => none
def toPyL : List D → Option (List PyData)
  | [] => some []
  | x :: xs => (toPy x).bind fun p => (toPyL xs).map fun q => p :: q
end
theorem rel_dp {K : KC} {Hf H : Hp} (l : Le Hf H) {v : V} {d : D} (h : Rel K Hf v d) : ∀ p, toPy d = some p → Dp K.K H v p := by
  induction h using Rel.rec (motive_2 := fun v d _ => ∀ p, toPyL d = some p → DpAll K.K H v p) with
  | non => intro p e; cases e; exact .non
  | bl b => intro p e; cases e; exact .bl b
  | int b => intro p e; cases e; exact .int b
  | str b => intro p e; cases e; exact .str b
  | lst s z _ r =>
    intro p e
    obtain ⟨q, e1, rfl⟩ := Option.map_eq_some_iff.mp (show _ = _ from e)
    exact .lst (SqL.of (l.keep s (fun _ z => nomatch z))) (r q e1)
  | scr s z _ r =>
    intro p e
    obtain ⟨q, e1, rfl⟩ := Option.map_eq_some_iff.mp (show _ = _ from e)
    exact .lst (l.seqL s) (r q e1)
  | tup s z _ r =>
    intro p e
    obtain ⟨q, e1, rfl⟩ := Option.map_eq_some_iff.mp (show _ = _ from e)
    exact .tup (SqT.of (l.keep s (fun _ z => nomatch z))) (r q e1)
  | dic s z e _ r => intro p e; cases e
  | dit s z e _ r => intro p e; cases e
  | ins s e _ r => intro p e; cases e
  | ref a => intro p e; cases e
  | ty n => intro p e; cases e
  | nil => rename_i p e; cases e; exact .nil
  | cons _ _ a b =>
    rename_i p e
    obtain ⟨x, e1, e2⟩ := Option.bind_eq_some_iff.mp (show _ = _ from e)
    obtain ⟨y, e3, rfl⟩ := Option.map_eq_some_iff.mp e2
    exact .cons (a x e1) (b y e3)
def oEq (d e : D) : Option D := (toPy d).bind fun p => (toPy e).bind fun q => if SeqAt.shaped p && SeqAt.shaped q then some (.bl (PyData.eqv p q)) else none
def oNe (d e : D) : Option D := (toPy d).bind fun p => (toPy e).bind fun q => if SeqAt.shaped p && SeqAt.shaped q then some (.bl (!PyData.eqv p q)) else none
def oLt : D → D → Option D
  | .int i, .int j => some (.bl (decide (i < j)))
  | _, _ => none
def oLe : D → D → Option D
  | .int i, .int j => some (.bl (decide (i ≤ j)))
  | _, _ => none
def oGt : D → D → Option D
  | .int i, .int j => some (.bl (decide (j < i)))
  | _, _ => none
def oGe : D → D → Option D
  | .int i, .int j => some (.bl (decide (j ≤ i)))
  | _, _ => none
def isNon : D → Bool
  | .non => true
  | _ => false
/-- is None; is True of a truth value -/
def oIs : D → D → Option D
  | d, .non => some (.bl (isNon d))
  | .bl a, .bl b => some (.bl (decide (a = b)))
  | _, _ => none
def oIsNot : D → D → Option D
  | d, .non => some (.bl (!isNon d))
  | .bl a, .bl b => some (.bl (!decide (a = b)))
  | _, _ => none
section
variable {X : Cx} {c : String → Addr}
theorem do_eq (hu : X.A.units + 65 < cLine) : OpR X (compareOp .Eq) (rD ⟨X.K, c⟩ oEq) := opI' (op_eqD (by omega)) fun x y H Q ⟨Hf, d, e, r, l, r1, r2, ho, q⟩ => by
  obtain ⟨p, e1, ho⟩ := Option.bind_eq_some_iff.mp ho
  obtain ⟨p2, e2, ho⟩ := Option.bind_eq_some_iff.mp ho
  split at ho
  · rename_i hc
    rw [Bool.and_eq_true] at hc
    cases ho
    exact ⟨p, p2, rel_dp l r1 p e1, rel_dp l r2 p2 e2, hc.1, hc.2, q _ _ _ (.refl l) (.bl _)⟩
  · cases ho
theorem do_ne (hu : X.A.units + 65 < cLine) : OpR X (compareOp .NotEq) (rD ⟨X.K, c⟩ oNe) := opI' (op_neD (by omega)) fun x y H Q ⟨Hf, d, e, r, l, r1, r2, ho, q⟩ => by
  obtain ⟨p, e1, ho⟩ := Option.bind_eq_some_iff.mp ho
  obtain ⟨p2, e2, ho⟩ := Option.bind_eq_some_iff.mp ho
  split at ho
  · rename_i hc
    rw [Bool.and_eq_true] at hc
    cases ho
    exact ⟨p, p2, rel_dp l r1 p e1, rel_dp l r2 p2 e2, hc.1, hc.2, q _ _ _ (.refl l) (.bl _)⟩
  · cases ho
theorem do_lt : OpR X (compareOp .Lt) (rD ⟨X.K, c⟩ oLt) := opI' op_lt fun x y H Q ⟨Hf, d, e, r, l, r1, r2, ho, q⟩ => by
  unfold oLt at ho
  split at ho
  · cases r1; cases r2; cases ho; exact ⟨_, _, rfl, rfl, q _ _ _ (.refl l) (.bl _)⟩
  · cases ho
theorem do_le : OpR X (compareOp .LtE) (rD ⟨X.K, c⟩ oLe) := opI' op_le fun x y H Q ⟨Hf, d, e, r, l, r1, r2, ho, q⟩ => by
  unfold oLe at ho
  split at ho
  · cases r1; cases r2; cases ho; exact ⟨_, _, rfl, rfl, q _ _ _ (.refl l) (.bl _)⟩
  · cases ho
theorem do_gt : OpR X (compareOp .Gt) (rD ⟨X.K, c⟩ oGt) := opI' op_gt fun x y H Q ⟨Hf, d, e, r, l, r1, r2, ho, q⟩ => by
  unfold oGt at ho
  split at ho
  · cases r1; cases r2; cases ho; exact ⟨_, _, rfl, rfl, q _ _ _ (.refl l) (.bl _)⟩
  · cases ho
theorem do_ge : OpR X (compareOp .GtE) (rD ⟨X.K, c⟩ oGe) := opI' op_ge fun x y H Q ⟨Hf, d, e, r, l, r1, r2, ho, q⟩ => by
  unfold oGe at ho
  split at ho
  · cases r1; cases r2; cases ho; exact ⟨_, _, rfl, rfl, q _ _ _ (.refl l) (.bl _)⟩
  · cases ho
theorem isNon_rel {K : KC} {H : Hp} {v : V} {d : D} (r : Rel K H v d) : decide (v = .non) = isNon d := by
  cases r <;> rfl
theorem do_is : OpR X (compareOp .Is) (rD ⟨X.K, c⟩ oIs) := fun pins s σ H x y v u Q I rx ry ⟨Hf, d, e, r, l, r1, r2, ho, q⟩ => by
  unfold oIs at ho
  split at ho
  · cases r2; cases ho
    exact op_isN pins s σ H _ _ v u Q I rx ry ⟨rfl, by rw [isNon_rel r1]; exact q _ _ _ (.refl l) (.bl _)⟩
  · cases r1; cases r2; cases ho
    exact op_is_bl pins s σ H _ _ v u Q I rx ry ⟨_, _, rfl, rfl, q _ _ _ (.refl l) (.bl _)⟩
  · cases ho
theorem do_isNot : OpR X (compareOp .IsNot) (rD ⟨X.K, c⟩ oIsNot) := fun pins s σ H x y v u Q I rx ry ⟨Hf, d, e, r, l, r1, r2, ho, q⟩ => by
  unfold oIsNot at ho
  split at ho
  · cases r2; cases ho
    exact op_notN pins s σ H _ _ v u Q I rx ry ⟨rfl, by rw [isNon_rel r1]; exact q _ _ _ (.refl l) (.bl _)⟩
  · cases r1; cases r2; cases ho
    exact op_isnot_bl pins s σ H _ _ v u Q I rx ry ⟨_, _, rfl, rfl, q _ _ _ (.refl l) (.bl _)⟩
  · cases ho
end
/-! ### keys, what a dict holds -/
section
variable {κ β γ : Type} [DecidableEq κ]
def lk (es : List (κ × β)) (k : κ) : Option β := (es.find? fun kv => decide (kv.1 = k)).map (·.2)
def pt (es : List (κ × β)) (k : κ) (v : β) : List (κ × β) :=
  if (es.any fun kv => decide (kv.1 = k)) = true then es.map (fun kv => if kv.1 = k then (kv.1, v) else kv) else es ++ [(k, v)]
theorem lk_nil {k : κ} : lk ([] : List (κ × β)) k = none := rfl
theorem lk_pos {p : κ × β} {r : List (κ × β)} {k : κ} (e : p.1 = k) : lk (p :: r) k = some p.2 := by unfold lk; rw [List.find?_cons_of_pos (by simp [e])]; rfl
theorem lk_neg {p : κ × β} {r : List (κ × β)} {k : κ} (e : ¬ p.1 = k) : lk (p :: r) k = lk r k := by unfold lk; rw [List.find?_cons_of_neg (by simp [e])]
end
theorem lk_rel {κ : Type} [DecidableEq κ] {K : KC} {H : Hp} : ∀ {kvs : List (κ × V)} {es : List (κ × D)}, kvs.map (·.1) = es.map (·.1) → RelL K H (kvs.map (·.2)) (es.map (·.2)) → ∀ k,
    (valV kvs k = none ∧ lk es k = none) ∨ ∃ v d, valV kvs k = some v ∧ lk es k = some d ∧ Rel K H v d
  | [], [], _, _, k => .inl ⟨rfl, rfl⟩
  | p :: r, q :: t, e, h, k => by
    rw [List.map_cons, List.map_cons] at e
    injection e with e1 e2
    cases h with
    | cons h1 h2 =>
      by_cases hk : p.1 = k
      · exact .inr ⟨p.2, q.2, valV_pos hk, lk_pos (e1 ▸ hk), h1⟩
      · rw [valV_neg hk, lk_neg (e1 ▸ hk)]
        exact lk_rel e2 h2 k
  | [], _ :: _, e, _, _ => by simp at e
  | _ :: _, [], e, _, _ => by simp at e
theorem pt_rel {κ : Type} [DecidableEq κ] {K : KC} {H : Hp} {kvs : List (κ × V)} {es : List (κ × D)} (e : kvs.map (·.1) = es.map (·.1)) (h : RelL K H (kvs.map (·.2)) (es.map (·.2))) (k : κ) {v : V} {d : D} (r : Rel K H v d) :
    (putK kvs k v).map (·.1) = (pt es k d).map (·.1) ∧ RelL K H ((putK kvs k v).map (·.2)) ((pt es k d).map (·.2)) := by
  have ha : (kvs.any fun kv => decide (kv.1 = k)) = (es.any fun kv => decide (kv.1 = k)) := by
    have h1 : (kvs.any fun kv => decide (kv.1 = k)) = (kvs.map (·.1)).any fun j => decide (j = k) := by rw [List.any_map]; rfl
    have h2 : (es.any fun kv => decide (kv.1 = k)) = (es.map (·.1)).any fun j => decide (j = k) := by rw [List.any_map]; rfl
    rw [h1, h2, e]
  unfold putK pt
  rw [ha]
  split
  · rename_i hz
    clear ha hz
    induction kvs generalizing es with
    | nil => cases es with
      | nil => exact ⟨rfl, .nil⟩
      | cons _ _ => simp at e
    | cons p t ih => cases es with
      | nil => simp at e
      | cons q u =>
        rw [List.map_cons, List.map_cons] at e
        injection e with e1 e2
        cases h with
        | cons h1 h2 =>
          obtain ⟨i1, i2⟩ := ih (es := u) e2 h2
          simp only [List.map_cons]
          refine ⟨?_, ?_⟩
          · rw [i1]
            by_cases hk : p.1 = k
            · rw [if_pos hk, if_pos (e1 ▸ hk)]; simp [e1]
            · rw [if_neg hk, if_neg (e1 ▸ hk)]; simp [e1]
          · by_cases hk : p.1 = k
            · rw [if_pos hk, if_pos (e1 ▸ hk)]; exact .cons r i2
            · rw [if_neg hk, if_neg (e1 ▸ hk)]; exact .cons h1 i2
  · constructor
    · simp [e]
    · rw [List.map_append, List.map_append]; exact h.append (.cons r .nil)
/-! ### flat values and keys -/
def toV : D → Option V
  | .non => some .non
  | .bl b => some (.bl b)
  | .int i => some (.int i)
  | .str x => some (.str x)
  | _ => none
def toVs : List D → Option (List V)
  | [] => some []
  | d :: ds => (toV d).bind fun x => (toVs ds).map fun xs => x :: xs
theorem toV_rel {K : KC} {H : Hp} {v : V} {d : D} (r : Rel K H v d) {x : V} (h : toV d = some x) : v = x ∧ flatV x = true := by
  cases r <;> cases h <;> exact ⟨rfl, rfl⟩
theorem toVs_rel {K : KC} {H : Hp} : ∀ {vs : List V} {ds : List D}, RelL K H vs ds → ∀ {xs : List V}, toVs ds = some xs → vs = xs ∧ xs.all flatV = true
  | _, _, .nil, xs, h => by cases h; exact ⟨rfl, rfl⟩
  | _, _, .cons a b, xs, h => by
    obtain ⟨x, e1, e2⟩ := Option.bind_eq_some_iff.mp (show _ = _ from h)
    obtain ⟨y, e3, rfl⟩ := Option.map_eq_some_iff.mp e2
    obtain ⟨rfl, f⟩ := toV_rel a e1
    obtain ⟨rfl, g⟩ := toVs_rel b e3
    exact ⟨rfl, by rw [List.all_cons, f, g]; rfl⟩
def dkey : D → Option Key
  | .int i => some (.inl i)
  | .str x => some (.inr x)
  | _ => none
def dkeyL : List D → Option (List Key)
  | [] => some []
  | d :: ds => (dkey d).bind fun x => (dkeyL ds).map fun xs => x :: xs
def dkeys : D → Option (List Key)
  | .tup ds => dkeyL ds
  | _ => none
theorem dkey_rel {K : KC} {H : Hp} {v : V} {d : D} (r : Rel K H v d) {k : Key} (h : dkey d = some k) : v = kV k := by
  cases r <;> cases h <;> rfl
theorem dkeyL_rel {K : KC} {H : Hp} : ∀ {vs : List V} {ds : List D}, RelL K H vs ds → ∀ {xs : List Key}, dkeyL ds = some xs → vs = xs.map kV
  | _, _, .nil, xs, h => by cases h; rfl
  | _, _, .cons a b, xs, h => by
    obtain ⟨x, e1, e2⟩ := Option.bind_eq_some_iff.mp (show _ = _ from h)
    obtain ⟨y, e3, rfl⟩ := Option.map_eq_some_iff.mp e2
    rw [dkey_rel a e1, dkeyL_rel b e3]; rfl
theorem dkeys_rel {K : KC} {H : Hp} {v : V} {d : D} (r : Rel K H v d) {ks : List Key} (h : dkeys d = some ks) : ∃ b, v = .ref b ∧ H b = some (.tup (ks.map kV)) := by
  cases r with
  | tup s z q => exact ⟨_, rfl, by rw [← dkeyL_rel q h]; exact s⟩
  | _ => cases h
/-! ### in -/
def oIn (d y : D) : Option D := match y with
  | .lst es => match toV d, toVs es with
    | some x, some xs => some (.bl (inV x xs))
    | _, _ => (toPy d).bind fun p => (toPyL es).bind fun q => if SeqAt.shaped p && SeqAt.shaped (.list q) then some (.bl (q.any fun z => PyData.eqv z p)) else none
  | .tup es => (toV d).bind fun x => (toVs es).map fun xs => .bl (inV x xs)
  | .dic es => (dkey d).map fun k => .bl (lk es k).isSome
  | .dit es => (dkeys d).map fun k => .bl (lk es k).isSome
  | _ => none
def oNot : D → Option D
  | .bl b => some (.bl (!b))
  | _ => none
def oNotIn (d y : D) : Option D := (oIn d y).bind oNot
def dgetR (K : KC) (H Hf : Hp) (x y : V) (d e : D) : Prop := True
theorem dget_dic {K : KC} {Hf H : Hp} (l : Le Hf H) {x v : V} {es : List (Key × D)} {d : D} {k : Key} (r1 : Rel K Hf v d) (r2 : Rel K Hf x (.dic es)) (hk : dkey d = some k) :
    ∃ a o, x = .ref a ∧ DGet H a v o ∧ ((o = none ∧ lk es k = none) ∨ ∃ u e, o = some u ∧ lk es k = some e ∧ Rel K Hf u e) := by
  cases r2 with
  | dic s z em rl =>
    obtain rfl := dkey_rel r1 hk
    exact ⟨_, _, rfl, .inl ⟨_, k, Rd.of (l.keep s (fun _ z => nomatch z)), rfl, rfl⟩, lk_rel em rl k⟩
theorem dget_dit {K : KC} {Hf H : Hp} (l : Le Hf H) {x v : V} {es : List (List Key × D)} {d : D} {k : List Key} (r1 : Rel K Hf v d) (r2 : Rel K Hf x (.dit es)) (hk : dkeys d = some k) :
    ∃ a o, x = .ref a ∧ DGet H a v o ∧ ((o = none ∧ lk es k = none) ∨ ∃ u e, o = some u ∧ lk es k = some e ∧ Rel K Hf u e) := by
  cases r2 with
  | dit s z em rl =>
    obtain ⟨b, rfl, hb⟩ := dkeys_rel r1 hk
    exact ⟨_, _, rfl, .inr ⟨_, k, b, Rd.of (l.keep s (fun _ z => nomatch z)), rfl, l.keep hb (fun _ z => nomatch z), rfl⟩, lk_rel em rl k⟩
section
variable {X : Cx} {c : String → Addr}
theorem do_in (hu : X.A.units + 65 < cLine) : OpR X (compareOp .In) (rD ⟨X.K, c⟩ oIn) := fun pins s σ H x y v u Q I rx ry ⟨Hf, d, e, r, l, r1, r2, ho, q⟩ => by
  have fin : ∀ b, r = .bl b → Q (.bl b) H := fun b e => q _ _ _ (.refl l) (e ▸ .bl b)
  unfold oIn at ho
  split at ho
  · cases r2 with
    | lst s2 z2 q2 =>
      split at ho
      · rename_i e1 e2
        cases ho
        obtain ⟨rfl, f⟩ := toV_rel r1 e1
        obtain ⟨rfl, g⟩ := toVs_rel q2 e2
        exact op_in_seq pins s σ H _ _ v u Q I rx ry ⟨_, _, rfl, .inl (SqL.of (l.keep s2 (fun _ z => nomatch z))), f, g, fin _ rfl⟩
      · obtain ⟨p, e1, ho⟩ := Option.bind_eq_some_iff.mp ho
        obtain ⟨p2, e2, ho⟩ := Option.bind_eq_some_iff.mp ho
        split at ho
        · rename_i hc
          rw [Bool.and_eq_true] at hc
          cases ho
          exact op_inD hu pins s σ H _ _ v u Q I rx ry ⟨p, p2, rel_dp l r1 p e1, rel_dp l (.lst s2 z2 q2) (.list p2) (by show Option.map _ _ = _; rw [e2]; rfl), hc.1, hc.2, fin _ rfl⟩
        · cases ho
  · cases r2 with
    | tup s2 z2 q2 =>
      obtain ⟨p, e1, ho⟩ := Option.bind_eq_some_iff.mp ho
      obtain ⟨p2, e2, rfl⟩ := Option.map_eq_some_iff.mp ho
      obtain ⟨rfl, f⟩ := toV_rel r1 e1
      obtain ⟨rfl, g⟩ := toVs_rel q2 e2
      exact op_in_seq pins s σ H _ _ v u Q I rx ry ⟨_, _, rfl, .inr (SqT.of (l.keep s2 (fun _ z => nomatch z))), f, g, fin _ rfl⟩
  · obtain ⟨k, ek, rfl⟩ := Option.map_eq_some_iff.mp ho
    obtain ⟨a, o, rfl, g, h⟩ := dget_dic l r1 r2 ek
    cases ry
    refine d_in (by omega) I g rx fun s' I' => ⟨.bl o.isSome, H, I', rfl, ?_⟩
    rcases h with ⟨rfl, h⟩ | ⟨u, e, rfl, h, _⟩
    · exact fin _ (by rw [h]; rfl)
    · exact fin _ (by rw [h]; rfl)
  · obtain ⟨k, ek, rfl⟩ := Option.map_eq_some_iff.mp ho
    obtain ⟨a, o, rfl, g, h⟩ := dget_dit l r1 r2 ek
    cases ry
    refine d_in (by omega) I g rx fun s' I' => ⟨.bl o.isSome, H, I', rfl, ?_⟩
    rcases h with ⟨rfl, h⟩ | ⟨u, e, rfl, h, _⟩
    · exact fin _ (by rw [h]; rfl)
    · exact fin _ (by rw [h]; rfl)
  · cases ho
theorem do_notIn (hu : X.A.units + 65 < cLine) : OpR X (compareOp .NotIn) (rD ⟨X.K, c⟩ oNotIn) := fun pins s σ H x y v u Q I rx ry ⟨Hf, d, e, r, l, r1, r2, ho, q⟩ => by
  obtain ⟨r0, ho, hn⟩ := Option.bind_eq_some_iff.mp ho
  have fin : ∀ b, r0 = .bl b → Q (.bl (!b)) H := fun b e => by
    subst e; cases hn; exact q _ _ _ (.refl l) (.bl _)
  unfold oIn at ho
  split at ho
  · cases r2 with
    | lst s2 z2 q2 =>
      split at ho
      · rename_i e1 e2
        cases ho
        obtain ⟨rfl, f⟩ := toV_rel r1 e1
        obtain ⟨rfl, g⟩ := toVs_rel q2 e2
        exact op_notIn_seq pins s σ H _ _ v u Q I rx ry ⟨_, _, rfl, .inl (SqL.of (l.keep s2 (fun _ z => nomatch z))), f, g, fin _ rfl⟩
      · obtain ⟨p, e1, ho⟩ := Option.bind_eq_some_iff.mp ho
        obtain ⟨p2, e2, ho⟩ := Option.bind_eq_some_iff.mp ho
        split at ho
        · rename_i hc
          rw [Bool.and_eq_true] at hc
          cases ho
          exact op_notInD hu pins s σ H _ _ v u Q I rx ry ⟨p, p2, rel_dp l r1 p e1, rel_dp l (.lst s2 z2 q2) (.list p2) (by show Option.map _ _ = _; rw [e2]; rfl), hc.1, hc.2, fin _ rfl⟩
        · cases ho
  · cases r2 with
    | tup s2 z2 q2 =>
      obtain ⟨p, e1, ho⟩ := Option.bind_eq_some_iff.mp ho
      obtain ⟨p2, e2, rfl⟩ := Option.map_eq_some_iff.mp ho
      obtain ⟨rfl, f⟩ := toV_rel r1 e1
      obtain ⟨rfl, g⟩ := toVs_rel q2 e2
      exact op_notIn_seq pins s σ H _ _ v u Q I rx ry ⟨_, _, rfl, .inr (SqT.of (l.keep s2 (fun _ z => nomatch z))), f, g, fin _ rfl⟩
  · obtain ⟨k, ek, rfl⟩ := Option.map_eq_some_iff.mp ho
    obtain ⟨a, o, rfl, g, h⟩ := dget_dic l r1 r2 ek
    cases ry
    refine d_notIn (by omega) I g rx fun s' I' => ⟨.bl (!o.isSome), H, I', rfl, ?_⟩
    rcases h with ⟨rfl, h⟩ | ⟨u, e, rfl, h, _⟩
    · exact fin _ (by rw [h]; rfl)
    · exact fin _ (by rw [h]; rfl)
  · obtain ⟨k, ek, rfl⟩ := Option.map_eq_some_iff.mp ho
    obtain ⟨a, o, rfl, g, h⟩ := dget_dit l r1 r2 ek
    cases ry
    refine d_notIn (by omega) I g rx fun s' I' => ⟨.bl (!o.isSome), H, I', rfl, ?_⟩
    rcases h with ⟨rfl, h⟩ | ⟨u, e, rfl, h, _⟩
    · exact fin _ (by rw [h]; rfl)
    · exact fin _ (by rw [h]; rfl)
  · cases ho
/-! ### subscripts -/
theorem ix_dict (hu : X.A.units + 65 < cLine) : IxR X (fun x y H Q => ∃ a v, x = .ref a ∧ DGet H a y (some v) ∧ Q v H) := fun value slice pins s σ H x y v u Q I rx ry ⟨a, z, ex, g, q⟩ hs => by
  subst ex
  cases rx
  exact tail_any (dict_typeIs I g) PySem.F.slot_dict_getitem.lookup (d_getItem (by omega) I g ry fun w' s3 I3 rw' => ⟨z, H, I3, rw', q⟩) hs
theorem ixI {r r' : R2} (h : IxR X r) (i : ∀ x y H Q, r' x y H Q → r x y H Q) : IxR X r' := fun value slice pins s σ H x y v u Q I rx ry q hs => h value slice pins s σ H x y v u Q I rx ry (i x y H Q q) hs
end
def oIx (d y : D) : Option D := match d with
  | .lst es => match y with
    | .int i => atI es i
    | _ => none
  | .scr es => match y with
    | .int i => atI es i
    | _ => none
  | .tup es => match y with
    | .int i => atI es i
    | _ => none
  | .str z => match y with
    | .int i => if z.length ≤ sizeLine then (atI z.cps.toList i).map fun c => .str ⟨#[c]⟩ else none
    | _ => none
  | .dic es => (dkey y).bind fun k => lk es k
  | .dit es => (dkeys y).bind fun k => lk es k
  | _ => none
theorem atI_rel {K : KC} {H : Hp} {vs : List V} {ds : List D} (r : RelL K H vs ds) {i : Int} {d : D} (h : atI ds i = some d) : ∃ v, atI vs i = some v ∧ Rel K H v d := by
  unfold atI at h ⊢
  rw [r.length]
  obtain ⟨j, e1, e2⟩ := Option.bind_eq_some_iff.mp h
  obtain ⟨v, e3, q⟩ := r.get e2
  exact ⟨v, by rw [e1]; exact e3, q⟩
section
variable {X : Cx} {c : String → Addr}
theorem do_ix (hu : X.A.units + 65 < cLine) : IxR X (rD ⟨X.K, c⟩ oIx) := ixI (IxR.or ix_seq (ix_dict hu)) fun x y H Q ⟨Hf, d, e, r, l, r1, r2, ho, q⟩ => by
  unfold oIx at ho
  split at ho
  · split at ho
    · cases r2
      cases r1 with
      | lst s2 z2 q2 =>
        obtain ⟨v, ev, rv⟩ := atI_rel q2 ho
        exact .inl (.inl ⟨_, _, _, v, rfl, rfl, SqL.of (l.keep s2 (fun _ z => nomatch z)), ev, q _ _ _ (.refl l) rv⟩)
    · cases ho
  · split at ho
    · cases r2
      cases r1 with
      | scr s2 z2 q2 =>
        obtain ⟨v, ev, rv⟩ := atI_rel q2 ho
        exact .inl (.inl ⟨_, _, _, v, rfl, rfl, l.seqL s2, ev, q _ _ _ (.refl l) rv⟩)
    · cases ho
  · split at ho
    · cases r2
      cases r1 with
      | tup s2 z2 q2 =>
        obtain ⟨v, ev, rv⟩ := atI_rel q2 ho
        exact .inl (.inr (.inl ⟨_, _, _, v, rfl, rfl, SqT.of (l.keep s2 (fun _ z => nomatch z)), ev, q _ _ _ (.refl l) rv⟩))
    · cases ho
  · split at ho
    · cases r2; cases r1
      split at ho
      · rename_i hz
        obtain ⟨cc, ec, rfl⟩ := Option.map_eq_some_iff.mp ho
        exact .inl (.inr (.inr ⟨_, _, cc, rfl, rfl, hz, ec, q _ _ _ (.refl l) (.str _)⟩))
      · cases ho
    · cases ho
  · obtain ⟨k, ek, ho⟩ := Option.bind_eq_some_iff.mp ho
    obtain ⟨a, o, rfl, g, h⟩ := dget_dic l r2 r1 ek
    rcases h with ⟨rfl, h⟩ | ⟨u, e, rfl, h, ru⟩
    · rw [h] at ho; cases ho
    · rw [h] at ho; cases ho
      exact .inr ⟨a, u, rfl, g, q _ _ _ (.refl l) ru⟩
  · obtain ⟨k, ek, ho⟩ := Option.bind_eq_some_iff.mp ho
    obtain ⟨a, o, rfl, g, h⟩ := dget_dit l r2 r1 ek
    rcases h with ⟨rfl, h⟩ | ⟨u, e, rfl, h, ru⟩
    · rw [h] at ho; cases ho
    · rw [h] at ho; cases ho
      exact .inr ⟨a, u, rfl, g, q _ _ _ (.refl l) ru⟩
  · cases ho
variable {B : Bs} {a b : Expr} {f g : Ex} {pos : Pos}
theorem de_ix (hu : X.A.units + 65 < cLine) (ha : DE X B a f) (hb : DE X B b g) (hs : PlainIx b := by exact fun _ _ => rfl) : DE X B (.Subscript a b pos) (eOp oIx f g) := peI (pe_ix (do_ix hu) ha hb hs) fun _ _ _ h => tOp_of h
end
/-! ### slices -/
abbrev Os := Rho → R (Option Int)
def relI : Hp → Option Int → Option Int → Prop := fun _ a b => a = b
def tDo (K : KC) (B : Bs) (f : Os) : TO := fun σ H Q => ∃ Hf ρ, Env K B Hf H σ ρ ∧ Res B relI Hf H σ (f ρ) Q
abbrev DO (X : Cx) (B : Bs) (e : Option Expr) (f : Os) : Prop := PO X e (tDo (kc X B) B f)
def pNone : Os := fun _ => .ok none
def pSome (f : Ex) : Os := fun ρ => (f ρ).bind fun d => match d with
  | .int i => .ok (some i)
  | _ => .bad
def cutD (xs : List D) (lo hi : Option Int) : List D := (xs.drop (HT.sIx xs.length 0 lo)).take (HT.sIx xs.length xs.length hi - HT.sIx xs.length 0 lo)
theorem cut_rel {K : KC} {H : Hp} {vs : List V} {ds : List D} (r : RelL K H vs ds) (lo hi : Option Int) : RelL K H (cutV vs lo hi) (cutD ds lo hi) := by
  unfold cutV cutD
  rw [r.length]
  exact (r.drop _).take _
theorem cut_whole {xs : List V} {lo hi : Option Int} (h : HT.sIx xs.length 0 lo = 0 ∧ HT.sIx xs.length xs.length hi = xs.length) : cutV xs lo hi = xs := by
  unfold cutV
  rw [h.1, h.2]; simp
def oSl (d : D) (lo hi : Option Int) : Option D := match d with
  | .lst xs => some (.lst (cutD xs lo hi))
  | .scr xs => some (.lst (cutD xs lo hi))
  | .tup xs => some (.tup (cutD xs lo hi))
  | _ => none
def eSl (f : Ex) (lo hi : Os) : Ex := fun ρ => (f ρ).bind fun d => (lo ρ).bind fun l => (hi ρ).bind fun h => ofO (oSl d l h)
section
variable {X : Cx} {c : String → Addr} {B : Bs} {e : Expr} {f : Ex} {pos p2 : Pos} {lo hi : Option Expr} {fl fh : Os}
theorem do_none : DO X B none pNone := ⟨fun pins s σ H Q I ⟨Hf, ρ, E, q⟩ => po_none.run pins s σ H Q I (q none Hf H (.refl E.le) rfl)⟩
theorem do_some {e : Expr} (h : DE X B e f) : DO X B (some e) (pSome f) := ⟨fun pins s σ H Q I ⟨Hf, ρ, E, q⟩ => (po_some h).run pins s σ H Q I (by
  refine tD_then E q fun v d Hf1 H1 x1 r1 E1 h1 => ?_
  split at h1
  · cases r1; exact ⟨_, rfl, h1 _ _ _ (.refl E1.le) rfl⟩
  · exact h1.elim)⟩
def rDsl (K : KC) : V → Option Int → Option Int → Hp → VK → Prop := fun x lo hi H Q => ∃ Hf d r, Le Hf H ∧ Rel K Hf x d ∧ oSl d lo hi = some r ∧ ∀ v Hf' H', Ext Hf H Hf' H' → Rel K Hf' v r → Q v H'
theorem do_slice : SlR X (rDsl ⟨X.K, c⟩) := fun pins s σ H x v vl vu lo hi sl Q I rx hs pl pu ⟨Hf, d, r, l, r1, ho, q⟩ => by
  refine (SlR.or sl_list sl_tupA) pins s σ H x v vl vu lo hi sl Q I rx hs pl pu ?_
  unfold oSl at ho
  split at ho
  · cases ho
    cases r1 with
    | lst s2 z2 q2 =>
      exact .inl ⟨_, _, rfl, SqL.of (l.keep s2 (fun _ z => nomatch z)), fun p hp => q _ _ _ (.new l hp) (.lst upd_same (Nat.le_trans (cutV_length _ _ _) z2) (RelL.mono (.new (l.free hp)) (cut_rel q2 lo hi)))⟩
  · cases ho
    cases r1 with
    | scr s2 z2 q2 =>
      exact .inl ⟨_, _, rfl, l.seqL s2, fun p hp => q _ _ _ (.new l hp) (.lst upd_same (Nat.le_trans (cutV_length _ _ _) z2) (RelL.mono (.new (l.free hp)) (cut_rel q2 lo hi)))⟩
  · cases ho
    cases r1 with
    | tup s2 z2 q2 =>
      refine .inr ⟨_, _, rfl, SqT.of (l.keep s2 (fun _ z => nomatch z)), fun hw => ?_, fun _ p hp => q _ _ _ (.new l hp) (.tup upd_same (Nat.le_trans (cutV_length _ _ _) z2) (RelL.mono (.new (l.free hp)) (cut_rel q2 lo hi)))⟩
      have qq := cut_rel q2 lo hi
      rw [cut_whole hw] at qq
      exact q _ _ _ (.refl l) (.tup s2 z2 qq)
  · cases ho
theorem de_slice (he : DE X B e f) (hl : DO X B lo fl) (hh : DO X B hi fh) : DE X B (.Subscript e (.Slice lo hi none p2) pos) (eSl f fl fh) := peI (pe_slice (do_slice (c := B.cls)) he hl hh) fun σ H Q ⟨Hf, ρ, E, h⟩ => by
  refine tD_then E h fun v d Hf1 H1 x1 r1 E1 h1 => ?_
  refine ⟨Hf1, ρ, E1, h1.bind fun o o' Hf2 H2 x2 ro h2 => ?_⟩
  cases ro
  refine ⟨Hf2, ρ, E1.ext x2, h2.bind fun o o' Hf3 H3 x3 ro h3 => ?_⟩
  cases ro
  obtain ⟨z, ez, q⟩ := res_ofO h3
  exact ⟨Hf3, d, z, (E1.ext x2 |>.ext x3).le, r1.mono (x2.f.trans x3.f), ez, q⟩
end
/-! ### argument lists, displays -/
def evs : List Ex → Exs
  | [] => fun _ => .ok []
  | f :: fs => fun ρ => (f ρ).bind fun d => (evs fs ρ).bind fun ds => .ok (d :: ds)
theorem evs_len : ∀ {fs : List Ex} {ρ : Rho} {ds : List D}, evs fs ρ = .ok ds → ds.length = fs.length
  | [], ρ, ds, h => by cases h; rfl
  | f :: fs, ρ, ds, h => by
    unfold evs at h
    cases h1 : f ρ with
    | ok d =>
      rw [h1, bind_ok] at h
      cases h2 : evs fs ρ with
      | ok r => rw [h2, bind_ok] at h; cases h; simp [evs_len h2]
      | err c => rw [h2] at h; cases h
      | bad => rw [h2] at h; cases h
    | err c => rw [h1] at h; cases h
    | bad => rw [h1] at h; cases h
def eTup (fs : List Ex) : Ex := fun ρ => (evs fs ρ).bind fun ds => .ok (.tup ds)
def eLst (fs : List Ex) : Ex := fun ρ => (evs fs ρ).bind fun ds => .ok (.lst ds)
section
variable {X : Cx} {B : Bs} {e : Expr} {es : List Expr} {f : Ex} {fs : List Ex} {pos : Pos}
theorem da_nil : DA X B [] (evs []) := paI pa_nil fun σ H Q ⟨Hf, ρ, E, q⟩ => q [] Hf H (.refl E.le) .nil
theorem da_cons (h : DE X B e f) (t : DA X B es (evs fs)) (hn : starEach (e :: es) X.env = (false, eval e X.env) :: starEach es X.env := by rfl) : DA X B (e :: es) (evs (f :: fs)) := paI (pa_cons h t hn) fun σ H Q ⟨Hf, ρ, E, q⟩ => by
  refine tD_then E q fun v d Hf1 H1 x1 r1 E1 h1 => ?_
  refine tDs_then E1 h1 fun vs ds Hf2 H2 x2 r2 E2 h2 => ?_
  exact h2 _ _ _ (.refl E2.le) (.cons (r1.mono x2.f) r2)
theorem len_le {n : Nat} (h : decide (n ≤ 1000) = true) : n ≤ sizeLine := Nat.le_of_lt (small1000 (of_decide_eq_true h))
theorem evs_res {K : KC} {Hf H : Hp} {σ : L2.St} {ρ : Rho} {k : List D → R D} {Q : VK} {Q' : List V → Hp → Prop} (E : Env K B Hf H σ ρ) (h : Res B (Rel K) Hf H σ ((evs fs ρ).bind k) Q)
    (hk : ∀ v d Hf' H', d.length = fs.length → Ext Hf H Hf' H' → RelL K Hf' v d → Env K B Hf' H' σ ρ → Res B (Rel K) Hf' H' σ (k d) Q → Q' v H') : tDs K B (evs fs) σ H Q' := by
  refine ⟨Hf, ρ, E, ?_⟩
  cases h1 : evs fs ρ with
  | ok ds =>
    rw [h1] at h
    exact fun v Hf' H' x r => hk v ds Hf' H' (evs_len h1) x r (E.ext x) (Res.ext h x)
  | err c => rw [h1] at h; exact h
  | bad => rw [h1] at h; exact h
theorem de_tup {k} (h : DA X B es (evs fs)) (hz : decide (fs.length ≤ 1000) = true := by rfl) : DE X B (.Tuple es k pos) (eTup fs) := peI (pe_tup h) fun σ H Q ⟨Hf, ρ, E, q⟩ => by
  refine evs_res E q fun v d Hf1 H1 ln x1 r1 E1 h1 => ?_
  have z : v.length ≤ sizeLine := by rw [r1.length, ln]; exact len_le hz
  exact ⟨z, fun p hp => h1 _ _ _ (.new E1.le hp) (.tup upd_same z (RelL.mono (.new (E1.le.free hp)) r1))⟩
theorem de_lst (h : DA X B es (evs fs)) (hz : decide (fs.length ≤ 1000) = true := by rfl) : DE X B (.List es pos) (eLst fs) := peI (pe_lst h) fun σ H Q ⟨Hf, ρ, E, q⟩ => by
  refine evs_res E q fun v d Hf1 H1 ln x1 r1 E1 h1 => ?_
  have z : v.length ≤ sizeLine := by rw [r1.length, ln]; exact len_le hz
  exact ⟨z, fun p hp => h1 _ _ _ (.new E1.le hp) (.lst upd_same z (RelL.mono (.new (E1.le.free hp)) r1))⟩
end
/-! ### calls of built-in functions -/
def eCallB (op : List D → Option D) (fs : List Ex) : Ex := fun ρ => (evs fs ρ).bind fun ds => ofO (op ds)
/-- the names that the module leaves to the built-ins -/
def Plain (mg : Str → Option Value) (x : Str) : Prop := mg x = none
section
variable {X : Cx} {B : Bs} {c : String → Addr} {e : Expr} {es : List Expr} {f : Ex} {fs : List Ex} {pos p : Pos} {x : Str} {id T : String} {op : List D → Option D}
theorem tCB_of {K : KC} {σ : L2.St} {H : Hp} {Q : VK} (h : tD K B (eCallB op fs) σ H Q) : tCB (rDs K op) (tDs K B (evs fs)) σ H Q := by
  obtain ⟨Hf, ρ, E, h⟩ := h
  refine tDs_then E h fun v d Hf1 H1 x1 r1 E1 h1 => ?_
  obtain ⟨z, ez, q⟩ := res_ofO h1
  exact ⟨Hf1, d, z, E1.le, r1, ez, q⟩
theorem de_callB (hc : CallR X (.builtin id) (rDs (kc X B) op)) (hm : X.mg x = none) (ha : DA X B (e :: es) (evs fs)) (hg : Gl X x := by rfl) (hv : bootBuiltins x = some (.builtin id) := by decide +kernel) (hn : x ≠ "__name__" := by decide) (hdb : (x == ("__debug__" : Str)) = false := by decide)
    (he : starEach (e :: es) X.env = (false, eval e X.env) :: starEach es X.env := by rfl) (hpl : (backTo pos (starEach es X.env)).any (·.1) = false := by rfl) : DE X B (.Call (.Name x p) (e :: es) [] pos) (eCallB op fs) :=
  peI (pe_callB hc hg hm hv ha hn hdb he hpl) fun _ _ _ h => tCB_of h
theorem de_callTy (hc : CallR X (.type T) (rDs (kc X B) op)) (hm : X.mg x = none) (ha : DA X B (e :: es) (evs fs)) (hg : Gl X x := by rfl) (hv : bootBuiltins x = some (.type T) := by decide +kernel) (hn : x ≠ "__name__" := by decide) (hdb : (x == ("__debug__" : Str)) = false := by decide)
    (he : starEach (e :: es) X.env = (false, eval e X.env) :: starEach es X.env := by rfl) (hpl : (backTo pos (starEach es X.env)).any (·.1) = false := by rfl) : DE X B (.Call (.Name x p) (e :: es) [] pos) (eCallB op fs) :=
  peI (pe_callTy hc hg hm hv ha hn hdb he hpl) fun _ _ _ h => tCB_of h
/-- a built-in type's name as a value -/
theorem de_ty {n : String} (hm : X.mg x = none) (hg : Gl X x := by rfl) (hv : bootBuiltins x = some (.type n) := by decide +kernel) (hn : x ≠ "__name__" := by decide) (hd : (x == ("__debug__" : Str)) = false := by decide) : DE X B (.Name x pos) (eC (.ty n)) :=
  de_c (v := .ty n) (pe_bltn hg hm hv rfl hn hd) fun _ => .ty n
end
theorem callI {X : Cx} {f : Value} {r r' : List V → Hp → VK → Prop} (h : CallR X f r) (i : ∀ xs H Q, r' xs H Q → r xs H Q) : CallR X f r' := fun pins s σ H xs us Q I r q => h pins s σ H xs us Q I r (i xs H Q q)
theorem relL1 {K : KC} {H : Hp} {xs : List V} {d : D} (r : RelL K H xs [d]) : ∃ x, xs = [x] ∧ Rel K H x d := by
  cases r with | cons a b => cases b; exact ⟨_, rfl, a⟩
theorem relL2 {K : KC} {H : Hp} {xs : List V} {d e : D} (r : RelL K H xs [d, e]) : ∃ x y, xs = [x, y] ∧ Rel K H x d ∧ Rel K H y e := by
  cases r with | cons a b => cases b with | cons b1 b2 => cases b2; exact ⟨_, _, rfl, a, b1⟩
def oLen : List D → Option D
  | [.lst xs] => some (.int xs.length)
  | [.scr xs] => some (.int xs.length)
  | [.tup xs] => some (.int xs.length)
  | [.str x] => if x.length ≤ sizeLine then some (.int x.length) else none
  | [.dic xs] => some (.int xs.length)
  | _ => none
def oInt : List D → Option D
  | [.int i] => some (.int i)
  | [.bl b] => some (.int (if b then 1 else 0))
  | _ => none
def oBool : List D → Option D
  | [.int i] => some (.bl (i != 0))
  | [.bl b] => some (.bl b)
  | _ => none
def oList : List D → Option D
  | [.lst xs] => some (.lst xs)
  | [.scr xs] => some (.lst xs)
  | [.tup xs] => some (.lst xs)
  | _ => none
def oTuple : List D → Option D
  | [.lst xs] => some (.tup xs)
  | [.scr xs] => some (.tup xs)
  | [.tup xs] => some (.tup xs)
  | _ => none
/-- ints out of a list -/
def toInts : List D → Option (List Int)
  | [] => some []
  | .int i :: r => (toInts r).map fun is => i :: is
  | _ :: _ => none
def isort (ns : List Int) : List Int := ns.mergeSort fun a b => decide (a ≤ b)
def keyInts : List (Key × D) → Option (List Int)
  | [] => some []
  | (.inl i, _) :: r => (keyInts r).map fun is => i :: is
  | _ :: _ => none
def oSorted : List D → Option D
  | [.lst xs] => (toInts xs).map fun ns => .lst ((isort ns).map D.int)
  | [.dic es] => (keyInts es).map fun ns => .lst ((isort ns).map D.int)
  | _ => none
theorem toInts_map : ∀ {ds : List D} {ns : List Int}, toInts ds = some ns → ds = ns.map D.int
  | [], ns, h => by cases h; rfl
  | .int i :: r, ns, h => by
    obtain ⟨y, e, rfl⟩ := Option.map_eq_some_iff.mp (show _ = _ from h)
    rw [List.map_cons, ← toInts_map e]
  | .non :: _, _, h => by cases h
  | .bl _ :: _, _, h => by cases h
  | .str _ :: _, _, h => by cases h
  | .lst _ :: _, _, h => by cases h
  | .tup _ :: _, _, h => by cases h
  | .scr _ :: _, _, h => by cases h
  | .dic _ :: _, _, h => by cases h
  | .dit _ :: _, _, h => by cases h
  | .ins _ _ :: _, _, h => by cases h
  | .ref _ :: _, _, h => by cases h
  | .ty _ :: _, _, h => by cases h
theorem keyInts_map : ∀ {es : List (Key × D)} {ns : List Int}, keyInts es = some ns → es.map (·.1) = ns.map Sum.inl
  | [], ns, h => by cases h; rfl
  | (.inl i, d) :: r, ns, h => by
    obtain ⟨y, e, rfl⟩ := Option.map_eq_some_iff.mp (show _ = _ from h)
    rw [List.map_cons, List.map_cons, ← keyInts_map e]
  | (.inr _, _) :: _, _, h => by cases h
theorem isort_perm (ns : List Int) : (isort ns).Perm ns := List.mergeSort_perm _ _
theorem isort_sorted (ns : List Int) : (isort ns).Pairwise (· ≤ ·) := by
  have h := List.pairwise_mergeSort (le := fun a b : Int => decide (a ≤ b)) (fun a b c h1 h2 => by simp at *; omega) (fun a b => by simp; omega) ns
  exact h.imp fun {a b} h => of_decide_eq_true h
theorem isort_uniq {ys ns : List Int} (h : ys.Perm ns) (hs : ys.Pairwise (· ≤ ·)) : ys = isort ns :=
  List.Perm.eq_of_pairwise (fun x y _ _ h1 h2 => Int.le_antisymm h1 h2) hs (isort_sorted ns) (h.trans (isort_perm ns).symm)
section
variable {X : Cx} {c : String → Addr}
theorem fin_int {K : KC} {Hf H : Hp} {Q : VK} {i : Int} (l : Le Hf H) (q : ∀ v Hf' H', Ext Hf H Hf' H' → Rel K Hf' v (.int i) → Q v H') : Q (.int i) H := q _ _ _ (.refl l) (.int i)
theorem dc_len : CallR X (.builtin "len") (rDs ⟨X.K, c⟩ oLen) := fun pins s σ H xs us Q I ru ⟨Hf, ds, r, l, rl, ho, q⟩ => by
  unfold oLen at ho
  split at ho
  · cases ho
    obtain ⟨x, rfl, r1⟩ := relL1 rl
    cases r1 with
    | lst s2 z2 q2 => exact call_len pins s σ H _ us Q I ru ⟨_, _, rfl, .inl ⟨_, SqL.of (l.keep s2 (fun _ z => nomatch z)), rfl⟩, by rw [q2.length]; exact fin_int l q⟩
  · cases ho
    obtain ⟨x, rfl, r1⟩ := relL1 rl
    cases r1 with
    | scr s2 z2 q2 => exact call_len pins s σ H _ us Q I ru ⟨_, _, rfl, .inl ⟨_, l.seqL s2, rfl⟩, by rw [q2.length]; exact fin_int l q⟩
  · cases ho
    obtain ⟨x, rfl, r1⟩ := relL1 rl
    cases r1 with
    | tup s2 z2 q2 => exact call_len pins s σ H _ us Q I ru ⟨_, _, rfl, .inr ⟨_, SqT.of (l.keep s2 (fun _ z => nomatch z)), rfl⟩, by rw [q2.length]; exact fin_int l q⟩
  · split at ho
    · rename_i hz
      cases ho
      obtain ⟨x, rfl, r1⟩ := relL1 rl
      cases r1
      exact call_len pins s σ H _ us Q I ru ⟨_, _, rfl, ⟨hz, rfl⟩, fin_int l q⟩
    · cases ho
  · cases ho
    obtain ⟨x, rfl, r1⟩ := relL1 rl
    cases r1 with
    | dic s2 z2 e2 q2 =>
      obtain ⟨u, rfl, ru'⟩ := vals1 ru
      obtain rfl : u = Value.ref _ := ru'
      have hl := congrArg List.length e2
      rw [List.length_map, List.length_map] at hl
      refine d_len I (.inl (l.keep s2 (fun _ z => nomatch z))) fun t s' I' => ⟨.int _, H, I', ⟨t, rfl⟩, ?_⟩
      rw [hl]; exact fin_int l q
  · cases ho
theorem dc_int : CallR X (.type "int") (rDs ⟨X.K, c⟩ oInt) := callI call_int1 fun xs H Q ⟨Hf, ds, r, l, rl, ho, q⟩ => by
  unfold oInt at ho
  split at ho
  · cases ho
    obtain ⟨x, rfl, r1⟩ := relL1 rl
    cases r1
    exact .inl ⟨_, rfl, fin_int l q⟩
  · cases ho
    obtain ⟨x, rfl, r1⟩ := relL1 rl
    cases r1
    exact .inr ⟨_, rfl, fin_int l q⟩
  · cases ho
theorem dc_bool : CallR X (.type "bool") (rDs ⟨X.K, c⟩ oBool) := callI call_bool1 fun xs H Q ⟨Hf, ds, r, l, rl, ho, q⟩ => by
  unfold oBool at ho
  split at ho
  · cases ho
    obtain ⟨x, rfl, r1⟩ := relL1 rl
    cases r1
    exact .inl ⟨_, rfl, q _ _ _ (.refl l) (.bl _)⟩
  · cases ho
    obtain ⟨x, rfl, r1⟩ := relL1 rl
    cases r1
    exact .inr ⟨_, rfl, q _ _ _ (.refl l) (.bl _)⟩
  · cases ho
theorem dc_list : CallR X (.type "list") (rDs ⟨X.K, c⟩ oList) := callI call_list_of fun xs H Q ⟨Hf, ds, r, l, rl, ho, q⟩ => by
  unfold oList at ho
  split at ho
  · cases ho
    obtain ⟨x, rfl, r1⟩ := relL1 rl
    cases r1 with
    | lst s2 z2 q2 => exact ⟨_, _, rfl, .inl (SqL.of (l.keep s2 (fun _ z => nomatch z))), fun p hp => q _ _ _ (.new l hp) (.lst upd_same z2 (RelL.mono (.new (l.free hp)) q2))⟩
  · cases ho
    obtain ⟨x, rfl, r1⟩ := relL1 rl
    cases r1 with
    | scr s2 z2 q2 => exact ⟨_, _, rfl, .inl (l.seqL s2), fun p hp => q _ _ _ (.new l hp) (.lst upd_same z2 (RelL.mono (.new (l.free hp)) q2))⟩
  · cases ho
    obtain ⟨x, rfl, r1⟩ := relL1 rl
    cases r1 with
    | tup s2 z2 q2 => exact ⟨_, _, rfl, .inr (SqT.of (l.keep s2 (fun _ z => nomatch z))), fun p hp => q _ _ _ (.new l hp) (.lst upd_same z2 (RelL.mono (.new (l.free hp)) q2))⟩
  · cases ho
theorem dc_tuple : CallR X (.type "tuple") (rDs ⟨X.K, c⟩ oTuple) := callI call_tuple_of fun xs H Q ⟨Hf, ds, r, l, rl, ho, q⟩ => by
  unfold oTuple at ho
  split at ho
  · cases ho
    obtain ⟨x, rfl, r1⟩ := relL1 rl
    cases r1 with
    | lst s2 z2 q2 => exact ⟨_, _, rfl, .inl ⟨SqL.of (l.keep s2 (fun _ z => nomatch z)), fun p hp => q _ _ _ (.new l hp) (.tup upd_same z2 (RelL.mono (.new (l.free hp)) q2))⟩⟩
  · cases ho
    obtain ⟨x, rfl, r1⟩ := relL1 rl
    cases r1 with
    | scr s2 z2 q2 => exact ⟨_, _, rfl, .inl ⟨l.seqL s2, fun p hp => q _ _ _ (.new l hp) (.tup upd_same z2 (RelL.mono (.new (l.free hp)) q2))⟩⟩
  · cases ho
    obtain ⟨x, rfl, r1⟩ := relL1 rl
    cases r1 with
    | tup s2 z2 q2 => exact ⟨_, _, rfl, .inr ⟨SqT.of (l.keep s2 (fun _ z => nomatch z)), q _ _ _ (.refl l) (.tup s2 z2 q2)⟩⟩
  · cases ho
/-- sorted(d) of a dict of ints, any number of keys -/
theorem sortedDA (hcalm : X.calm = true) {pins : List (Addr × Obj)} {s : Shared} {σ : L2.St} {H : Hp} {Q : VK} {a : Addr} {kvs : List (Key × V)} {ks : List Int} (I : Inv X pins σ H s) (hd : Rd H a (.dK kvs)) (hks : kvs.map (·.1) = ks.map Sum.inl)
    (q : ∀ (p : Addr), H p = none → Q (.ref p) (upd H p (.lst ((isort ks).map V.int)))) : wpAny (model X.prog X.w) X.A (call (.builtin "sorted") [.ref a]) (EP X pins σ Q) X.xe s := by
  obtain ⟨z, lo, vs, rel, dd⟩ := dk_rd I.hok hd
  obtain ⟨ep, hat⟩ := dd.dictAt
  have hk1 : vs.map (·.1) = ks.map Sum.inl := by rw [← hks]; exact rel.keys.symm
  have hl : vs.length = ks.length := by
    have e := congrArg List.length hk1
    simpa using e
  have h16 : vs.length ≤ sizeLine := by rw [← rel.length]; exact z
  refine Calls.call_function_entry PyProof.Rows.kind_sorted PyProof.Rows.plain_sorted PyProof.Rows.entry_sorted (PyProof.Rows.args_sorted1 _) ?_
  unfold Builtin.«sorted»
  refine wpAny_bind (m := checkCount "sorted" 1 1 _) (wpAny_pure ?_)
  refine wpAny_bind (W.kdu_collect (A := X.A.in1) (W.kdl_dict (knd := mixKind X.prog X.w) (kvs := vs) (ep := ep) lo) (I.ok.hd hcalm) hat h16 fun h' tk acc hk hacc => ?_)
  have ha : acc.toList.length = ks.length := by rw [Array.length_toList, hacc.1, hl]
  have hS : IntsAre acc.toList ks := ints_each ha fun j v e => by
    obtain ⟨k, x, e1, e2⟩ := hacc.2 j v (by rw [← e, Array.getElem?_toList])
    have e3 : (vs.map (·.1))[j]? = some k := by rw [List.getElem?_map, e1]; rfl
    rw [hk1, List.getElem?_map] at e3
    obtain ⟨y, e4, e5⟩ := Option.map_eq_some_iff.mp e3
    subst e5
    obtain ⟨t, ev⟩ := Value.isInt_shape (k := y) (v := v) e2
    exact ⟨y, t, e4, ev⟩
  have I1 : Inv X pins σ H { s with heap := h', toks := tk } := I.kept hk
  have hz1 : acc.toList.length ≤ sizeLine := by rw [ha, ← hl]; exact h16
  refine wpAny_bind (wpAny_newList ?_ hz1)
  have hoL : (h'.push (seqObj "list" acc.toList.toArray 0)).get? h'.objs.size = some (seqObj "list" acc.toList.toArray 0) := Heap.get?_push_size _ rfl
  show wpAny _ _ _ _ _ { s with heap := h'.push (seqObj "list" acc.toList.toArray 0), toks := tk }
  refine wpAny_bind (wpAny_holding (wpAny_call_entry PyProof.Rows.slot_list_sort ⟨_, hoL, rfl⟩ PyProof.Rows.entry_list_sort (SrtO.list_sort_ord SrtO.swo_int hoL hz1 (fun h2 => SrtO.ints_sortable hS h2) fun out g1 g2 => ⟨_, rfl, ?_⟩) (PyProof.Rows.args_list_sort _)))
  obtain ⟨k1, k2, k3⟩ := SrtO.ints_out hS g1 g2
  have ks' := isort_uniq k2 k3
  rw [ks'] at k1
  obtain ⟨e', he'⟩ := PyProof.Rows.sortedHeap_at (vs := acc.toList) (out := out.toArray) hoL
  have hlen : ((isort ks).map V.int).length ≤ sizeLine := by rw [List.length_map, (isort_perm ks).length_eq, ← ha]; exact hz1
  refine wpAny_pure ⟨_, rfl, .ref h'.objs.size, upd H h'.objs.size (.lst ((isort ks).map V.int)), I1.laid (t' := tk) (fun b u e => ?_) (Nat.le_refl _) (show ObjOk X.prog X.w _ _ _ (.lst ((isort ks).map V.int)) from ⟨hlen, out, e', vals_of_ints k1, he'⟩), rfl, q _ (I1.hok.fresh (Nat.le_refl _))⟩
  rw [PyProof.Rows.sortedHeap_old (Nat.ne_of_lt (Heap.lt_size e)) (by rw [Heap.size_push]; exact Nat.lt_succ_of_lt (Heap.lt_size e))]
  exact Heap.get?_push_of_some _ e
theorem dc_sorted (hcalm : X.calm = true) : CallR X (.builtin "sorted") (rDs ⟨X.K, c⟩ oSorted) := fun pins s σ H xs us Q I ru ⟨Hf, ds, r, l, rl, ho, q⟩ => by
  unfold oSorted at ho
  split at ho
  · obtain ⟨ns, e1, rfl⟩ := Option.map_eq_some_iff.mp ho
    obtain ⟨x, rfl, r1⟩ := relL1 rl
    cases r1 with
    | lst s2 z2 q2 =>
      rw [toInts_map e1] at q2
      rw [q2.ints_inv] at s2 z2
      refine cr_sortedI pins s σ H _ us Q I ru ⟨_, ns, rfl, SqL.of (l.keep s2 (fun _ z => nomatch z)), fun ns' p hp hs hn => ?_⟩
      rw [isort_uniq hp hs]
      refine q _ _ _ (.new l hn) (.lst upd_same ?_ (.ints _))
      rw [List.length_map, (isort_perm ns).length_eq]
      rw [List.length_map] at z2
      exact z2
  · obtain ⟨ns, e1, rfl⟩ := Option.map_eq_some_iff.mp ho
    obtain ⟨x, rfl, r1⟩ := relL1 rl
    cases r1 with
    | dic s2 z2 e2 q2 =>
      obtain ⟨u, rfl, ru'⟩ := vals1 ru
      obtain rfl : u = Value.ref _ := ru'
      have hk := e2.trans (keyInts_map e1)
      refine sortedDA hcalm I (Rd.of (l.keep s2 (fun _ z => nomatch z))) hk fun p hp => ?_
      refine q _ _ _ (.new l hp) (.lst upd_same ?_ (.ints _))
      rw [List.length_map, (isort_perm ns).length_eq]
      have hl := congrArg List.length hk
      rw [List.length_map, List.length_map] at hl
      rw [← hl]; exact z2
  · cases ho
/-! ### isinstance of a built-in type -/
def tyOf : D → Option String
  | .non => some "NoneType"
  | .bl _ => some "bool"
  | .int _ => some "int"
  | .str _ => some "str"
  | .lst _ => some "list"
  | .tup _ => some "tuple"
  | .dic _ => some "dict"
  | _ => none
def oIsi : List D → Option D
  | [d, .ty n] => (tyOf d).bind fun t => (kitB t n).map fun b => .bl b
  | _ => none
theorem tyOf_rel {K : KC} {Hf H : Hp} (l : Le Hf H) {v : V} {d : D} (r : Rel K Hf v d) {t : String} (h : tyOf d = some t) : TyOf K.K H v (.type t) := by
  cases r with
  | non => cases h; exact .non
  | bl b => cases h; exact .bl b
  | int i => cases h; exact .int i
  | str x => cases h; exact .str x
  | lst s z q => cases h; exact .lst (l.keep s (fun _ z => nomatch z))
  | tup s z q => cases h; exact .tup (l.keep s (fun _ z => nomatch z))
  | dic s z e q => cases h; exact .dK (l.keep s (fun _ z => nomatch z))
  | _ => cases h
theorem dc_isi : CallR X (.builtin "isinstance") (rDs ⟨X.K, c⟩ oIsi) := callI call_isi fun xs H Q ⟨Hf, ds, r, l, rl, ho, q⟩ => by
  unfold oIsi at ho
  split at ho
  · obtain ⟨t, e1, ho⟩ := Option.bind_eq_some_iff.mp ho
    obtain ⟨b, e2, rfl⟩ := Option.map_eq_some_iff.mp ho
    obtain ⟨x, y, rfl, r1, r2⟩ := relL2 rl
    cases r2
    exact ⟨x, _, _, _, b, rfl, .ty _, .base (tyOf_rel l r1 e1), kit_ty e2, q _ _ _ (.refl l) (.bl _)⟩
  · cases ho
end
/-! ### truth, and, or, not -/
def truD : D → Option Bool
  | .non => some false
  | .bl b => some b
  | .int i => some (i != 0)
  | .str y => if y.length ≤ sizeLine then some ((y.length : Int) != 0) else none
  | .lst xs => some (!xs.isEmpty)
  | .scr xs => some (!xs.isEmpty)
  | .tup xs => some (!xs.isEmpty)
  | .dic xs => some (!xs.isEmpty)
  | _ => none
theorem isEmpty_rel {K : KC} {H : Hp} {vs : List V} {ds : List D} (r : RelL K H vs ds) : vs.isEmpty = ds.isEmpty := by cases r <;> rfl
theorem tru_rel {K : KC} {Hf H : Hp} (l : Le Hf H) {v : V} {d : D} (r : Rel K Hf v d) {k : Bool} (h : truD d = some k) : TruV K.K v H k := by
  cases r with
  | non => cases h; rfl
  | bl b => cases h; rfl
  | int b => cases h; rfl
  | str b =>
    unfold truD at h
    simp only at h
    split at h
    · rename_i hz; cases h; exact ⟨hz, rfl⟩
    · cases h
  | lst s z q => cases h; exact .inl ⟨_, SqL.of (l.keep s (fun _ z => nomatch z)), by rw [isEmpty_rel q]⟩
  | scr s z q => cases h; exact .inl ⟨_, l.seqL s, by rw [isEmpty_rel q]⟩
  | tup s z q => cases h; exact .inr (.inl ⟨_, SqT.of (l.keep s (fun _ z => nomatch z)), by rw [isEmpty_rel q]⟩)
  | dic s z e q =>
    cases h
    refine .inr (.inr ⟨_, l.keep s (fun _ z => nomatch z), ?_⟩)
    have hl := congrArg List.length e
    rw [List.length_map, List.length_map] at hl
    rename_i kvs es
    cases kvs <;> cases es <;> simp_all
  | _ => cases h

def asT (f : Ex) : Ts := fun ρ => (f ρ).bind fun d => ofO (truD d)
def eAnd (f g : Ex) : Ex := fun ρ => (f ρ).bind fun a => (ofO (truD a)).bind fun t => if t then g ρ else .ok a
def eOr (f g : Ex) : Ex := fun ρ => (f ρ).bind fun a => (ofO (truD a)).bind fun t => if t then .ok a else g ρ
def eNot (f : Ex) : Ex := fun ρ => (f ρ).bind fun a => (ofO (truD a)).bind fun t => .ok (.bl (!t))
def tAnd' (f g : Ts) : Ts := fun ρ => (f ρ).bind fun t => if t then g ρ else .ok false
def tOr' (f g : Ts) : Ts := fun ρ => (f ρ).bind fun t => if t then .ok true else g ρ
def tNot' (f : Ts) : Ts := fun ρ => (f ρ).bind fun t => .ok (!t)
def eIf (c : Ts) (f g : Ex) : Ex := fun ρ => (c ρ).bind fun t => if t then f ρ else g ρ
abbrev DW (X : Cx) (B : Bs) (e : Expr) (f : Ts) : Prop := PW X e (tDb (kc X B) B f)
theorem pwI {X : Cx} {e : Expr} {t t' : TT} (h : PW X e t) (i : ∀ σ H Q, t' σ H Q → t σ H Q) : PW X e t' := ⟨fun wh pins s σ H Q I q => h.run wh pins s σ H Q I (i σ H Q q)⟩
section
variable {X : Cx} {B : Bs} {a b e : Expr} {rest : List Expr} {f g : Ex} {tf tg : Ts} {pos : Pos}
theorem res_tru {K : KC} {Hf H : Hp} {σ : L2.St} {α β : Type} {rel : Hp → β → α → Prop} {d : D} {k : Bool → R α} {Q : β → Hp → Prop} (h : Res B rel Hf H σ ((ofO (truD d)).bind k) Q) : ∃ t, truD d = some t ∧ Res B rel Hf H σ (k t) Q := by
  cases e : truD d with
  | none => rw [e] at h; exact h.elim
  | some t => rw [e] at h; exact ⟨t, rfl, h⟩
theorem dt_truth (ha : DE X B a f) (he : ∀ whole, isTrue a X.env whole = (do let v ← whole; standAt a.pos; holding [v] (truthy v)) := by intro _; rfl) : DT X B a (asT f) := ptI (pt_truth ha he) fun σ H Q ⟨Hf, ρ, E, h⟩ => by
  refine tD_then E h fun v d Hf1 H1 x1 r1 E1 h1 => ?_
  obtain ⟨t, et, q⟩ := res_ofO h1
  exact ⟨t, tru_rel E1.le r1 et, q _ _ _ (.refl E1.le) rfl⟩
theorem de_one {op} (h : DE X B a f) : DE X B (.BoolOp op [a] pos) f := pe_one h
theorem de_and (ha : DE X B a f) (hb : DE X B (.BoolOp .And (b :: rest) pos) g) : DE X B (.BoolOp .And (a :: b :: rest) pos) (eAnd f g) := peI (pe_andT ha hb) fun σ H Q ⟨Hf, ρ, E, h⟩ => by
  refine tD_then E h fun v d Hf1 H1 x1 r1 E1 h1 => ?_
  obtain ⟨t, et, q⟩ := res_tru (K := kc X B) h1
  refine ⟨t, tru_rel E1.le r1 et, ?_⟩
  cases t with
  | true => exact iteT ⟨Hf1, ρ, E1, q⟩
  | false => exact iteF (q _ _ _ (.refl E1.le) r1)
theorem de_or (ha : DE X B a f) (hb : DE X B (.BoolOp .Or (b :: rest) pos) g) : DE X B (.BoolOp .Or (a :: b :: rest) pos) (eOr f g) := peI (pe_orT ha hb) fun σ H Q ⟨Hf, ρ, E, h⟩ => by
  refine tD_then E h fun v d Hf1 H1 x1 r1 E1 h1 => ?_
  obtain ⟨t, et, q⟩ := res_tru (K := kc X B) h1
  refine ⟨t, tru_rel E1.le r1 et, ?_⟩
  cases t with
  | true => exact iteT (q _ _ _ (.refl E1.le) r1)
  | false => exact iteF ⟨Hf1, ρ, E1, q⟩
theorem de_not (ha : DE X B a f) : DE X B (.UnaryOp .Not a pos) (eNot f) := peI (pe_notT ha) fun σ H Q ⟨Hf, ρ, E, h⟩ => by
  refine tD_then E h fun v d Hf1 H1 x1 r1 E1 h1 => ?_
  obtain ⟨t, et, q⟩ := res_tru (K := kc X B) h1
  exact ⟨t, tru_rel E1.le r1 et, q _ _ _ (.refl E1.le) (.bl _)⟩
theorem dw_and1 (ha : DT X B a tf) : DW X B (.BoolOp .And [a] pos) tf := pw_and1 ha
theorem dw_or1 (ha : DT X B a tf) : DW X B (.BoolOp .Or [a] pos) tf := pw_or1 ha
theorem dw_and (ha : DT X B a tf) (hb : DW X B (.BoolOp .And (b :: rest) pos) tg) : DW X B (.BoolOp .And (a :: b :: rest) pos) (tAnd' tf tg) := pwI (pw_and ha hb) fun σ H Q ⟨Hf, ρ, E, h⟩ => by
  refine tDb_then E h fun t Hf1 H1 x1 E1 h1 => ?_
  cases t with
  | true => exact iteT ⟨Hf1, ρ, E1, h1⟩
  | false => exact iteF (h1 _ _ _ (.refl E1.le) rfl)
theorem dw_or (ha : DT X B a tf) (hb : DW X B (.BoolOp .Or (b :: rest) pos) tg) : DW X B (.BoolOp .Or (a :: b :: rest) pos) (tOr' tf tg) := pwI (pw_or ha hb) fun σ H Q ⟨Hf, ρ, E, h⟩ => by
  refine tDb_then E h fun t Hf1 H1 x1 E1 h1 => ?_
  cases t with
  | true => exact iteT (h1 _ _ _ (.refl E1.le) rfl)
  | false => exact iteF ⟨Hf1, ρ, E1, h1⟩
theorem dt_bool (h : DW X B e tf) : DT X B e tf := h.pt
theorem dt_not (ha : DT X B a tf) : DT X B (.UnaryOp .Not a pos) (tNot' tf) := ptI (pt_not ha) fun σ H Q ⟨Hf, ρ, E, h⟩ => by
  refine tDb_then E h fun t Hf1 H1 x1 E1 h1 => ?_
  exact h1 _ _ _ (.refl E1.le) rfl
theorem de_if {c : Expr} (hc : DT X B c tf) (ha : DE X B a f) (hb : DE X B b g) : DE X B (.IfExp c a b pos) (eIf tf f g) := peI (pe_ifExp hc ha hb) fun σ H Q ⟨Hf, ρ, E, h⟩ => by
  refine tDb_then E h fun t Hf1 H1 x1 E1 h1 => ?_
  cases t with
  | true => exact iteT ⟨Hf1, ρ, E1, h1⟩
  | false => exact iteF ⟨Hf1, ρ, E1, h1⟩
/-- a op1 b op2 c -/
def eChain (op op' : D → D → Option D) (f g h : Ex) : Ex := fun ρ => (f ρ).bind fun x => (g ρ).bind fun y => (ofO (op x y)).bind fun z => match z with
  | .bl k => if k then (h ρ).bind fun w => ofO (op' y w) else .ok (.bl false)
  | _ => .bad
theorem tChain_of {K : KC} {op op' : D → D → Option D} {h : Ex} {σ : L2.St} {H : Hp} {Q : VK} (q : tD K B (eChain op op' f g h) σ H Q) : tChain (rD K op) (rD K op') (tD K B f) (tD K B g) (tD K B h) σ H Q := by
  obtain ⟨Hf, ρ, E, q⟩ := q
  refine tD_then E q fun v d Hf1 H1 x1 r1 E1 h1 => ?_
  refine tD_then E1 h1 fun u e Hf2 H2 x2 r2 E2 h2 => ?_
  cases eo : op d e with
  | none => rw [eo] at h2; exact h2.elim
  | some z =>
    rw [eo] at h2
    refine ⟨Hf2, d, e, z, E2.le, r1.mono x2.f, r2, eo, fun v3 Hf3 H3 x3 r3 => ?_⟩
    have h3 := Res.ext h2 x3
    cases z with
    | bl k =>
      cases r3
      refine ⟨k, rfl, ?_⟩
      cases k with
      | true =>
        refine iteT (tD_then (E2.ext x3) (show Res B (Rel K) Hf3 H3 σ ((h ρ).bind fun w => ofO (op' e w)) Q from h3) fun v4 d4 Hf4 H4 x4 r4 E4 h4 => ?_)
        obtain ⟨z, ez, q⟩ := res_ofO h4
        exact ⟨Hf4, e, d4, z, E4.le, r2.mono (x3.f.trans x4.f), r4, ez, q⟩
      | false => exact iteF (h3 _ _ _ (.refl x3.i) (.bl _))
    | _ => exact h3.elim
theorem de_chain {op op' : CmpOp} {o o' : D → D → Option D} {c : Expr} {h : Ex} (ho : OpR X (compareOp op) (rD (kc X B) o)) (ho' : OpR X (compareOp op') (rD (kc X B) o')) (ha : DE X B a f) (hb : DE X B b g) (hc : DE X B c h)
    (hm : lastMarks [op, op'] [b, c] = false := by with_unfolding_all rfl) : DE X B (.Compare a [op, op'] [b, c] pos) (eChain o o' f g h) := peI (pe_chain ho ho' ha hb hc hm) fun _ _ _ h => tChain_of h
theorem dt_chain {op op' : CmpOp} {o o' : D → D → Option D} {c : Expr} {h : Ex} (ho : OpR X (compareOp op) (rD (kc X B) o)) (ho' : OpR X (compareOp op') (rD (kc X B) o')) (ha : DE X B a f) (hb : DE X B b g) (hc : DE X B c h)
    (hm : lastMarks [op, op'] [b, c] = false := by with_unfolding_all rfl) : DT X B (.Compare a [op, op'] [b, c] pos) (asB (eChain o o' f g h)) := ptI (pt_chain ho ho' ha hb hc hm) fun _ _ _ h => tTest_of (fun _ _ _ h => tChain_of h) h
end
/-! ### calls of the text's defs -/
abbrev bsOf (K : KC) (Hf H : Hp) (E : XK) : Bs := ⟨Hf, H, fun cls d _ H => E cls d H, K.c⟩
/-- a def's promise: n arguments as trees, the answer as F tells -/
def spD (K : KC) (n : Nat) (F : List D → R D) : Sp := fun vs H Q E => vs.length = n ∧ ∃ Hf ds, Le Hf H ∧ RelL K Hf vs ds ∧ Res (bsOf K Hf H E) (Rel K) Hf H [] (F ds) Q
structure DFn (P : Program) (w : World) (K : PySem.W.Frag) (mg : Str → Option Value) (base : Heap) (c : String → Addr) (x : Str) (k n : Nat) (F : List D → R D) : Prop where
  ex : ∃ f fd ps, FnOk P w K mg base (L2.CX P w) k f fd ps (spD ⟨K, c⟩ n F) ∧ mg x = some (.ref f) ∧ PySem.W.keepIn K (.ref f) = true ∧ Binds K fd ps []
theorem DFn.mono {P : Program} {w : World} {K : PySem.W.Frag} {mg : Str → Option Value} {base : Heap} {c : String → Addr} {x : Str} {j k n : Nat} {F : List D → R D} (G : DFn P w K mg base c x j n F) (h : j ≤ k) : DFn P w K mg base c x k n F := by
  obtain ⟨f, fd, ps, a, b⟩ := G.ex
  exact ⟨f, fd, ps, a.mono h, b⟩
def eCall (F : List D → R D) (fs : List Ex) : Ex := fun ρ => (evs fs ρ).bind F
section
variable {X : Cx} {B : Bs} {e : Expr} {es : List Expr} {fs : List Ex} {pos p : Pos} {x : Str} {k n : Nat} {F : List D → R D}
theorem passesAt (tk : Takes X B.W) (σ : L2.St) : PassesAt (L2.CX X.prog X.w) X σ (fun cls d H => B.W cls d σ H) := passAt tk σ
theorem de_call (G : DFn X.prog X.w X.K X.mg X.base B.cls x k n F) (hr : Room k X.A) (tk : Takes X B.W) (ha : DA X B (e :: es) (evs fs)) (hg : Gl X x := by rfl) (hdb : (x == ("__debug__" : Str)) = false := by decide)
    (he : starEach (e :: es) X.env = (false, eval e X.env) :: starEach es X.env := by rfl) (hpl : (backTo pos (starEach es X.env)).any (·.1) = false := by rfl) (hn : fs.length = n := by rfl) : DE X B (.Call (.Name x p) (e :: es) [] pos) (eCall F fs) := by
  obtain ⟨f, fd, ps, G, hm, hk, hb⟩ := G.ex
  refine peI (pe_callSD (E := fun σ cls d H => B.W cls d σ H) G hr hg hm hk hb .nil (passAt tk) ha hdb he hpl) fun σ H Q ⟨Hf, ρ, E, h⟩ => ?_
  refine ⟨Hf, ρ, E, ?_⟩
  cases h1 : evs fs ρ with
  | ok ds =>
    unfold eCall at h
    rw [h1] at h
    intro vs Hf1 H1 x1 rl
    have h2 := Res.ext (show Res B (Rel (kc X B)) Hf H σ (F ds) Q from h) x1
    refine ⟨by rw [List.append_nil, rl.length, evs_len h1, hn], Hf1, ds, x1.i, by rw [List.append_nil]; exact rl, ?_⟩
    cases hF : F ds with
    | ok d => rw [hF] at h2; exact h2
    | err c => rw [hF] at h2; exact h2
    | bad => rw [hF] at h2; exact h2
  | err c => unfold eCall at h; rw [h1] at h; exact h
  | bad => unfold eCall at h; rw [h1] at h; exact h
end
/-! ### statements -/
inductive Out where
  | nx (ρ : Rho) | rt (d : D) | bk (ρ : Rho) | ct (ρ : Rho) | er (c : String) (ρ : Rho) | bad
abbrev Fs := Rho → Out
def Sat (K : KC) (B : Bs) (D : Ends) (Hf : Hp) : Out → Prop
  | .nx ρ => ∀ σ Hf' H', Le Hf Hf' → Env K B Hf' H' σ ρ → D.nx σ H'
  | .bk ρ => ∀ σ Hf' H', Le Hf Hf' → Env K B Hf' H' σ ρ → D.bk σ H'
  | .ct ρ => ∀ σ Hf' H', Le Hf Hf' → Env K B Hf' H' σ ρ → D.ct σ H'
  | .rt d => ∀ v Hf' H', Le Hf Hf' → Ext B.Hf0 B.H0 Hf' H' → Rel K Hf' v d → D.rt v H'
  | .er c ρ => ∀ σ Hf' H', Le Hf Hf' → Env K B Hf' H' σ ρ → B.W (.ref (B.cls c)) none σ H'
  | .bad => False
theorem Sat.le {K : KC} {B : Bs} {D : Ends} {Hf Hf1 : Hp} {o : Out} (h : Sat K B D Hf o) (l : Le Hf Hf1) : Sat K B D Hf1 o := by
  cases o with
  | nx ρ => exact fun σ Hf' H' l' E => h σ Hf' H' (l.trans l') E
  | bk ρ => exact fun σ Hf' H' l' E => h σ Hf' H' (l.trans l') E
  | ct ρ => exact fun σ Hf' H' l' E => h σ Hf' H' (l.trans l') E
  | rt d => exact fun v Hf' H' l' x r => h v Hf' H' (l.trans l') x r
  | er c ρ => exact fun σ Hf' H' l' E => h σ Hf' H' (l.trans l') E
  | bad => exact h
def tS (K : KC) (B : Bs) (F : Fs) : TS := fun D σ H => ∃ Hf ρ, Env K B Hf H σ ρ ∧ Sat K B D Hf (F ρ)
abbrev DS (X : Cx) (B : Bs) (st : Stmt) (F : Fs) : Prop := PS X st (tS (kc X B) B F)
abbrev DSs (X : Cx) (B : Bs) (st : List Stmt) (F : Fs) : Prop := PSs X st (tS (kc X B) B F)
/-- an expression within a statement -/
def Rthen {α : Type} (r : R α) (ρ : Rho) (k : α → Out) : Out := match r with
  | .ok a => k a
  | .err c => .er c ρ
  | .bad => .bad
@[simp] theorem Rthen_ok {α : Type} (a : α) (ρ : Rho) (k : α → Out) : Rthen (.ok a) ρ k = k a := rfl
section
variable {K : KC} {B : Bs}
theorem rthen_res {α β : Type} {rel : Hp → β → α → Prop} {Hf H : Hp} {σ : L2.St} {ρ : Rho} {r : R α} {k : α → Out} {D : Ends} {Q : β → Hp → Prop} (E : Env K B Hf H σ ρ) (h : Sat K B D Hf (Rthen r ρ k))
    (hk : ∀ v a Hf' H', Ext Hf H Hf' H' → rel Hf' v a → Env K B Hf' H' σ ρ → Sat K B D Hf' (k a) → Q v H') : Res B rel Hf H σ r Q := by
  cases r with
  | ok a => exact fun v Hf' H' x q => hk v a Hf' H' x q (E.ext x) (Sat.le h x.f)
  | err c => exact fun Hf' H' x => h σ Hf' H' x.f (E.ext x)
  | bad => exact h
end
def sSkip : Fs := fun ρ => .nx ρ
def sSeq (F G : Fs) : Fs := fun ρ => match F ρ with
  | .nx ρ' => G ρ'
  | o => o
def sRet (f : Ex) : Fs := fun ρ => Rthen (f ρ) ρ fun d => .rt d
def sRetN : Fs := fun _ => .rt .non
def sIf (c : Ts) (F G : Fs) : Fs := fun ρ => Rthen (c ρ) ρ fun b => if b then F ρ else G ρ
def sDrop (f : Ex) : Fs := fun ρ => Rthen (f ρ) ρ fun _ => .nx ρ
def sSet (i : Nat) (f : Ex) : Fs := fun ρ => Rthen (f ρ) ρ fun d => .nx (ρ.set i (.val d))
def sBreak : Fs := fun ρ => .bk ρ
def sCont : Fs := fun ρ => .ct ρ
section
variable {X : Cx} {B : Bs} {st : Stmt} {rest a b : List Stmt} {e c : Expr} {F G : Fs} {f : Ex} {tf : Ts} {pos : Pos} {i : Nat} {x : Str}
theorem dss_nil : DSs X B [] sSkip := pssI pss_nil fun D σ H ⟨Hf, ρ, E, h⟩ => h σ Hf H (.refl _) E
theorem dss_cons (h1 : DS X B st F) (h2 : DSs X B rest G) : DSs X B (st :: rest) (sSeq F G) := pssI (pss_cons h1 h2) fun D σ H ⟨Hf, ρ, E, h⟩ => by
  refine ⟨Hf, ρ, E, ?_⟩
  unfold sSeq at h
  cases e : F ρ with
  | nx ρ' => rw [e] at h; exact fun σ' Hf' H' l E' => ⟨Hf', ρ', E', Sat.le h l⟩
  | bk ρ' => rw [e] at h; exact h
  | ct ρ' => rw [e] at h; exact h
  | rt d => rw [e] at h; exact h
  | er c ρ' => rw [e] at h; exact h
  | bad => rw [e] at h; exact h
theorem dss_one (h1 : DS X B st F) : DSs X B [st] F := pss_one h1
theorem ds_ret (he : DE X B e f) : DS X B (.Return (some e) pos) (sRet f) := psI (ps_ret he) fun D σ H ⟨Hf, ρ, E, h⟩ =>
  ⟨Hf, ρ, E, rthen_res E h fun v a Hf' H' x r E' h' => h' v Hf' H' (.refl _) E'.fz r⟩
theorem ds_retN : DS X B (.Return none pos) sRetN := psI ps_retN fun D σ H ⟨Hf, ρ, E, h⟩ => h .non Hf H (.refl _) E.fz .non
theorem ds_if (hc : DT X B c tf) (ha : DSs X B a F) (hb : DSs X B b G) : DS X B (.If c a b pos) (sIf tf F G) := psI (ps_if hc ha hb) fun D σ H ⟨Hf, ρ, E, h⟩ => by
  refine ⟨Hf, ρ, E, rthen_res E h fun v t Hf' H' x r E' h' => ?_⟩
  cases r
  cases v with
  | true => exact iteT ⟨Hf', ρ, E', h'⟩
  | false => exact iteF ⟨Hf', ρ, E', h'⟩
theorem ds_expr (he : DE X B e f) (hs : swapsWith e none pos.line X.env = pure false := by rfl) : DS X B (.Expr e pos) (sDrop f) := psI (ps_expr he hs) fun D σ H ⟨Hf, ρ, E, h⟩ =>
  ⟨Hf, ρ, E, rthen_res E h fun v a Hf' H' x r E' h' => h' σ Hf' H' (.refl _) E'⟩
theorem ds_set (hN : X.N.Nodup) (i : Nat) {pos' : Pos} (he : DE X B e f) (hi : X.N[i]? = some x := by rfl) (hx : Loc X.env.scope x := by first | exact .inl rfl | exact .inr rfl) (hs : swapsWith e (some (.Name x pos')) pos.line X.env = pure false := by rfl)
    (hf : X.fn x = true ∨ X.env.scope.names.lookup x = some .local := by first | exact .inl rfl | exact .inr rfl) : DS X B (.Assign [.Name x pos'] e pos) (sSet i f) := psI (ps_set hN hi hx he hs hf) fun D σ H ⟨Hf, ρ, E, h⟩ =>
  ⟨Hf, ρ, E, rthen_res E h fun v a Hf' H' y r E' h' => h' _ Hf' H' (.refl _) (E'.set i r)⟩
theorem ds_doc {z j pos'} : DS X B (.Expr (.Constant (.str z) j pos) pos') sSkip := psI ps_doc fun D σ H ⟨Hf, ρ, E, h⟩ => h σ Hf H (.refl _) E
theorem ds_pass : DS X B (.Pass pos) sSkip := psI ps_pass fun D σ H ⟨Hf, ρ, E, h⟩ => h σ Hf H (.refl _) E
theorem ds_break : DS X B (.Break pos) sBreak := psI ps_break fun D σ H ⟨Hf, ρ, E, h⟩ => h σ Hf H (.refl _) E
theorem ds_cont : DS X B (.Continue pos) sCont := psI ps_continue fun D σ H ⟨Hf, ρ, E, h⟩ => h σ Hf H (.refl _) E
end

/-! ### targets -/
abbrev Tg := D → Rho → Option Rho
/-- a target assigned a tree: the slots, the heap stays -/
def tG (K : KC) (B : Bs) (g : Tg) (vs : List Nat) : TG := fun x σ H Q => ∃ Hf ρ d ρ', Env K B Hf H σ ρ ∧ Rel K Hf x d ∧ g d ρ = some ρ' ∧ ∀ σ', Env K B Hf H σ' ρ' → wipe σ' vs = wipe σ vs → Q σ' H
abbrev DG (X : Cx) (B : Bs) (e : Expr) (vs : List Nat) (g : Tg) : Prop := PG X e (tG (kc X B) B g vs)
def tGs (K : KC) (B : Bs) (g : List D → Rho → Option Rho) (vs : List Nat) : TGs := fun xs σ H Q => ∃ Hf ρ ds ρ', Env K B Hf H σ ρ ∧ RelL K Hf xs ds ∧ g ds ρ = some ρ' ∧ ∀ σ', Env K B Hf H σ' ρ' → wipe σ' vs = wipe σ vs → Q σ' H
abbrev DGs (X : Cx) (B : Bs) (es : List Expr) (vs : List Nat) (g : List D → Rho → Option Rho) : Prop := PGs X es (tGs (kc X B) B g vs)
def gSet (i : Nat) : Tg := fun d ρ => some (ρ.set i (.val d))
def gsNil : List D → Rho → Option Rho
  | [], ρ => some ρ
  | _ :: _, _ => none
def gsCons (g : Tg) (gs : List D → Rho → Option Rho) : List D → Rho → Option Rho
  | d :: ds, ρ => (g d ρ).bind fun ρ1 => gs ds ρ1
  | [], _ => none
def gUnp (n : Nat) (gs : List D → Rho → Option Rho) : Tg := fun d ρ => match d with
  | .tup ds => if ds.length = n then gs ds ρ else none
  | .lst ds => if ds.length = n then gs ds ρ else none
  | _ => none
theorem pgI {X : Cx} {e : Expr} {t t' : TG} (h : PG X e t) (i : ∀ v σ H Q, t' v σ H Q → t v σ H Q) : PG X e t' := ⟨fun pins s σ H v u Q I r q => h.run pins s σ H v u Q I r (i v σ H Q q)⟩
theorem pgsI {X : Cx} {e : List Expr} {t t' : TGs} (h : PGs X e t) (i : ∀ v σ H Q, t' v σ H Q → t v σ H Q) : PGs X e t' := ⟨fun pins s σ H v u Q I r q => h.run pins s σ H v u Q I r (i v σ H Q q)⟩
theorem wipe_set {σ : L2.St} {v : Option V} : ∀ {vs : List Nat} {i : Nat}, i ∈ vs → wipe (σ.set i v) vs = wipe σ vs := by
  intro vs
  induction vs with
  | nil => intro i h; cases h
  | cons j vs ih =>
    intro i h
    unfold wipe
    by_cases hj : i ∈ vs
    · rw [ih hj]
    · have e : i = j := by
        rcases List.mem_cons.mp h with e | e
        · exact e
        · exact absurd e hj
      subst e
      have hc : ∀ (ws : List Nat) (τ : L2.St), i ∉ ws → wipe (τ.set i v) ws = (wipe τ ws).set i v := by
        intro ws
        induction ws with
        | nil => intro τ _; rfl
        | cons k ws ihw =>
          intro τ hn
          unfold wipe
          rw [ihw τ (fun z => hn (List.mem_cons_of_mem _ z)), List.set_comm _ _ (fun z => hn (by rw [z]; exact List.mem_cons_self))]
      rw [hc vs σ hj, List.set_set]
section
variable {X : Cx} {B : Bs} {e : Expr} {es : List Expr} {pos : Pos} {x : Str} {vs : List Nat} {g : Tg} {gs : List D → Rho → Option Rho}
theorem dg_name (hN : X.N.Nodup) (i : Nat) (hi : X.N[i]? = some x := by rfl) (hx : Loc X.env.scope x := by first | exact .inl rfl | exact .inr rfl) (hf : X.fn x = true ∨ X.env.scope.names.lookup x = some .local := by first | exact .inl rfl | exact .inr rfl) (hv : i ∈ vs := by decide) : DG X B (.Name x pos) vs (gSet i) := pgI (pg_name hN hi hx hf) fun v σ H Q ⟨Hf, ρ, d, ρ', E, r, hg, q⟩ => by
  cases hg
  exact q _ (E.set i r) (wipe_set hv)
theorem dgs_nil : DGs X B [] vs gsNil := pgsI pgs_nil fun v σ H Q ⟨Hf, ρ, d, ρ', E, r, hg, q⟩ => by
  cases r with
  | nil => cases hg; exact ⟨rfl, q _ E rfl⟩
  | cons a b => cases hg
theorem dgs_cons (h1 : DG X B e vs g) (h2 : DGs X B es vs gs) (hs : (assignEach (e :: es) X.env).map (·.2) = assign e X.env :: (assignEach es X.env).map (·.2) := by rfl) : DGs X B (e :: es) vs (gsCons g gs) := pgsI (pgs_cons h1 h2 hs) fun v σ H Q ⟨Hf, ρ, d, ρ', E, r, hg, q⟩ => by
  cases r with
  | nil => cases hg
  | cons a b =>
    obtain ⟨ρ1, e1, e2⟩ := Option.bind_eq_some_iff.mp (show _ = _ from hg)
    exact ⟨_, _, rfl, Hf, ρ, _, ρ1, E, a, e1, fun σ' E' w1 => ⟨Hf, ρ1, _, ρ', E', b, e2, fun σ2 E2 w2 => q σ2 E2 (w2.trans w1)⟩⟩
theorem pgOr {e : Expr} {t u : TG} (h1 : PG X e t) (h2 : PG X e u) : PG X e (fun v σ H Q => t v σ H Q ∨ u v σ H Q) :=
  ⟨fun pins s σ H v z Q I r q => q.elim (h1.run pins s σ H v z Q I r) (h2.run pins s σ H v z Q I r)⟩
theorem dg_tup {k n : Nat} (hc : X.calm = true) (h : DGs X B es vs gs) (hn : (assignEach es X.env).length = n := by rfl) (hst : (assignEach es X.env).findIdx? (·.1) = none := by rfl) : DG X B (.Tuple es k pos) vs (gUnp n gs) := pgI (pgOr (pg_tup hc h hn hst) (pg_unl hc h hn hst)) fun v σ H Q ⟨Hf, ρ, d, ρ', E, r, hg, q⟩ => by
  unfold gUnp at hg
  split at hg
  · cases r with
    | tup s z rl =>
      split at hg
      · rename_i hl
        exact .inl ⟨_, _, rfl, SqT.of (E.le.keep s (fun _ z => nomatch z)), by rw [rl.length]; exact hl, Hf, ρ, _, ρ', E, rl, hg, q⟩
      · cases hg
  · cases r with
    | lst s z rl =>
      split at hg
      · rename_i hl
        exact .inr ⟨_, _, rfl, SqL.of (E.le.keep s (fun _ z => nomatch z)), by rw [rl.length]; exact hl, Hf, ρ, _, ρ', E, rl, hg, q⟩
      · cases hg
  · cases hg
end

/-! ### what is walked -/
abbrev Its' := Rho → R (List D)
/-- J yields the trees ds while the frozen part stands -/
def Walks (K : KC) (J : L2.It) (Hf1 : Hp) (ds : List D) : Prop := ∀ i Hf H, Le Hf1 Hf → Le Hf H →
  ((∃ d, ds[i]? = some d) → J.go i H) ∧ (∀ d, ds[i]? = some d → ∀ x H', J.yld i H x H' → ∃ Hf', Ext Hf H Hf' H' ∧ Rel K Hf' x d) ∧ (ds[i]? = none → J.stop i H)
def tI (K : KC) (B : Bs) (f : Its') : TI := fun σ H R => ∃ Hf ρ, Env K B Hf H σ ρ ∧ Res B (fun Hf' J ds => Walks K J Hf' ds ∧ ds.length ≤ sizeLine) Hf H σ (f ρ) R
abbrev DI (X : Cx) (B : Bs) (tg e : Expr) (f : Its') : Prop := PI X tg e (tI (kc X B) B f)
theorem piI {X : Cx} {tg e : Expr} {t t' : TI} (h : PI X tg e t) (i : ∀ σ H R, t' σ H R → t σ H R) : PI X tg e t' := ⟨fun pins s σ H R I q => h.run pins s σ H R I (i σ H R q)⟩
def iSeq (f : Ex) : Its' := fun ρ => (f ρ).bind fun d => match d with
  | .lst xs => .ok xs
  | .scr xs => .ok xs
  | _ => .bad
def iTupl (f : Ex) : Its' := fun ρ => (f ρ).bind fun d => match d with
  | .tup xs => .ok xs
  | _ => .bad
def irange (lo : Int) (n : Nat) : List D := (List.range n).map fun (k : Nat) => D.int (lo + (k : Int))
def rangeOk (n : Nat) (j : Int) : Bool := decide (n ≤ sizeLine ∧ -(2 ^ 62) ≤ j ∧ j < 2 ^ 62)
def iRange1 (f : Ex) : Its' := fun ρ => (f ρ).bind fun d => match d with
  | .int j => if rangeOk j.toNat j then .ok (irange 0 j.toNat) else .bad
  | _ => .bad
def iRange2 (f g : Ex) : Its' := fun ρ => (f ρ).bind fun d => (g ρ).bind fun e => match d, e with
  | .int i, .int j => if rangeOk (j - i).toNat i && rangeOk (j - i).toNat j then .ok (irange i (j - i).toNat) else .bad
  | _, _ => .bad
theorem walks_list {K : KC} {a : Addr} {xs : List V} {ds : List D} {Hf : Hp} (h : ∀ Hf1, Le Hf Hf1 → ∀ H1, Le Hf1 H1 → SqL K.K H1 a xs) (r : RelL K Hf xs ds) : Walks K (Itl K.K a) Hf ds := fun i Hf1 H1 l1 l2 => by
  have s := h Hf1 l1 H1 l2
  refine ⟨fun ⟨d, hd⟩ => ?_, fun d hd x H' hy => ?_, fun hn => ⟨xs, s, ?_⟩⟩
  · obtain ⟨x, e, _⟩ := r.get hd
    exact ⟨xs, x, s, e⟩
  · obtain ⟨rfl, hx⟩ := hy
    obtain ⟨y, e, q⟩ := r.get hd
    have e2 := (hx xs s).symm.trans e
    cases e2
    exact ⟨Hf1, .refl l2, q.mono l1⟩
  · rw [r.length]; exact List.getElem?_eq_none_iff.mp hn
theorem walks_tup {K : KC} {a : Addr} {xs : List V} {ds : List D} {Hf : Hp} (h : ∀ Hf1, Le Hf Hf1 → ∀ H1, Le Hf1 H1 → SqT K.K H1 a xs) (r : RelL K Hf xs ds) : Walks K (Itt K.K a) Hf ds := fun i Hf1 H1 l1 l2 => by
  have s := h Hf1 l1 H1 l2
  refine ⟨fun ⟨d, hd⟩ => ?_, fun d hd x H' hy => ?_, fun hn => ⟨xs, s, ?_⟩⟩
  · obtain ⟨x, e, _⟩ := r.get hd
    exact ⟨xs, x, s, e⟩
  · obtain ⟨rfl, hx⟩ := hy
    obtain ⟨y, e, q⟩ := r.get hd
    have e2 := (hx xs s).symm.trans e
    cases e2
    exact ⟨Hf1, .refl l2, q.mono l1⟩
  · rw [r.length]; exact List.getElem?_eq_none_iff.mp hn
theorem irange_get {lo : Int} {n i : Nat} : (irange lo n)[i]? = if i < n then some (.int (lo + i)) else none := by
  unfold irange
  by_cases h : i < n
  · rw [if_pos h, List.getElem?_map, List.getElem?_range h]; rfl
  · rw [if_neg h]
    exact List.getElem?_eq_none_iff.mpr (by simp; omega)
theorem irange_length {lo : Int} {n : Nat} : (irange lo n).length = n := by unfold irange; simp
theorem walks_range {K : KC} {lo : Int} {n : Nat} {Hf : Hp} : Walks K (Itr lo n) Hf (irange lo n) := fun i Hf1 H1 l1 l2 => by
  rw [irange_get]
  refine ⟨fun ⟨d, hd⟩ => ?_, fun d hd x H' hy => ?_, fun hn => ?_⟩
  · split at hd
    · assumption
    · cases hd
  · obtain ⟨rfl, rfl⟩ := hy
    split at hd
    · cases hd; exact ⟨Hf1, .refl l2, .int _⟩
    · cases hd
  · split at hn
    · cases hn
    · rename_i h; exact Nat.not_lt.mp h
section
variable {X : Cx} {B : Bs} {tg e a b : Expr} {f g : Ex} {pos p : Pos}
theorem di_seq (he : DE X B e f) : DI X B tg e (iSeq f) := piI (pi_list he) fun σ H R ⟨Hf, ρ, E, h⟩ => by
  refine tD_then E h fun v d Hf1 H1 x1 r1 E1 h1 => ?_
  split at h1
  · cases r1 with
    | lst s z rl => exact ⟨_, rfl, ⟨_, SqL.of (E1.le.keep s (fun _ z => nomatch z))⟩, h1 _ Hf1 H1 (.refl E1.le) ⟨walks_list (fun Hf2 l2 H2 l3 => SqL.of ((l2.trans l3).keep s (fun _ z => nomatch z))) rl, by rw [← rl.length]; exact z⟩⟩
  · cases r1 with
    | scr s z rl => exact ⟨_, rfl, ⟨_, E1.le.seqL s⟩, h1 _ Hf1 H1 (.refl E1.le) ⟨walks_list (fun Hf2 l2 H2 l3 => (l2.trans l3).seqL s) rl, by rw [← rl.length]; exact z⟩⟩
  · exact h1.elim
theorem di_tup (he : DE X B e f) : DI X B tg e (iTupl f) := piI (pi_tup he) fun σ H R ⟨Hf, ρ, E, h⟩ => by
  refine tD_then E h fun v d Hf1 H1 x1 r1 E1 h1 => ?_
  split at h1
  · cases r1 with
    | tup s z rl => exact ⟨_, rfl, ⟨_, SqT.of (E1.le.keep s (fun _ z => nomatch z))⟩, h1 _ Hf1 H1 (.refl E1.le) ⟨walks_tup (fun Hf2 l2 H2 l3 => SqT.of ((l2.trans l3).keep s (fun _ z => nomatch z))) rl, by rw [← rl.length]; exact z⟩⟩
  · exact h1.elim
theorem di_range1 (hm : X.mg "range" = none) (he : DE X B a f) (hg : Gl X "range" := by rfl) (hs : starEach [a] X.env = [(false, eval a X.env)] := by rfl) : DI X B tg (.Call (.Name "range" p) [a] [] pos) (iRange1 f) :=
  piI (pi_range1 hg hm (da_cons he da_nil hs) hs) fun σ H R ⟨Hf, ρ, E, h⟩ => by
  refine ⟨Hf, ρ, E, ?_⟩
  show Res B (RelL (kc X B)) Hf H σ ((f ρ).bind fun d => (evs [] ρ).bind fun ds => .ok (d :: ds)) _
  unfold iRange1 at h
  cases h1 : f ρ with
  | ok d =>
    rw [h1] at h
    intro vs Hf1 H1 x1 rl
    obtain ⟨v, rfl, r1⟩ := relL1 rl
    have h2 := Res.ext h x1
    simp only [bind_ok] at h2
    split at h2
    · cases r1
      split at h2
      · rename_i hz
        have hz := of_decide_eq_true hz
        exact ⟨_, rfl, hz.2.1, hz.2.2, h2 _ Hf1 H1 (.refl x1.i) ⟨walks_range, by rw [irange_length]; exact hz.1⟩⟩
      · exact h2.elim
    · exact h2.elim
  | err c => rw [h1] at h; exact h
  | bad => rw [h1] at h; exact h
theorem di_range2 (hm : X.mg "range" = none) (ha : DE X B a f) (hb : DE X B b g) (hg : Gl X "range" := by rfl) (hs : starEach [a, b] X.env = [(false, eval a X.env), (false, eval b X.env)] := by rfl) (hs2 : starEach [b] X.env = [(false, eval b X.env)] := by rfl) : DI X B tg (.Call (.Name "range" p) [a, b] [] pos) (iRange2 f g) :=
  piI (pi_range2 hg hm (da_cons ha (da_cons hb da_nil hs2) (by rw [hs, hs2])) hs hs2) fun σ H R ⟨Hf, ρ, E, h⟩ => by
  refine ⟨Hf, ρ, E, ?_⟩
  show Res B (RelL (kc X B)) Hf H σ ((f ρ).bind fun d => ((g ρ).bind fun e => (evs [] ρ).bind fun ds => .ok (e :: ds)).bind fun ds => .ok (d :: ds)) _
  unfold iRange2 at h
  cases h1 : f ρ with
  | ok d =>
    rw [h1] at h
    cases h2 : g ρ with
    | ok e =>
      rw [h2] at h
      intro vs Hf1 H1 x1 rl
      obtain ⟨v, u, rfl, r1, r2⟩ := relL2 rl
      have h3 := Res.ext h x1
      simp only [bind_ok] at h3
      split at h3
      · cases r1; cases r2
        split at h3
        · rename_i hz
          rw [Bool.and_eq_true] at hz
          have z1 := of_decide_eq_true hz.1
          have z2 := of_decide_eq_true hz.2
          exact ⟨_, _, rfl, ⟨z1.2.1, z1.2.2, z2.2.1, z2.2.2⟩, h3 _ Hf1 H1 (.refl x1.i) ⟨walks_range, by rw [irange_length]; exact z1.1⟩⟩
        · exact h3.elim
      · exact h3.elim
    | err c => rw [h2] at h; exact h
    | bad => rw [h2] at h; exact h
  | err c => rw [h1] at h; exact h
  | bad => rw [h1] at h; exact h
end
/-! ### for -/
def forD (g : Tg) (F : Fs) : List D → Fs
  | [], ρ => .nx ρ
  | d :: ds, ρ => match g d ρ with
    | none => .bad
    | some ρ1 => match F ρ1 with
      | .nx ρ2 => forD g F ds ρ2
      | .ct ρ2 => forD g F ds ρ2
      | .bk ρ2 => .nx ρ2
      | .rt d => .rt d
      | .er c ρ2 => .er c ρ2
      | .bad => .bad
def sFor (it : Its') (g : Tg) (F : Fs) : Fs := fun ρ => Rthen (it ρ) ρ fun ds => forD g F ds ρ
theorem drop_cons {α : Type} {l : List α} {i : Nat} {d : α} (h : l[i]? = some d) : l.drop i = d :: l.drop (i + 1) := by
  obtain ⟨hi, e⟩ := List.getElem?_eq_some_iff.mp h
  rw [← e]; exact (List.getElem_cons_drop hi).symm
theorem drop_nil {α : Type} {l : List α} {i : Nat} (h : l[i]? = none) : l.drop i = [] := List.drop_eq_nil_of_le (List.getElem?_eq_none_iff.mp h)
section
variable {X : Cx} {B : Bs} {tg iter : Expr} {body : List Stmt} {it : Its'} {g : Tg} {F : Fs} {vs : List Nat} {pos : Pos}
theorem ds_for (hp : PassesOwn (model X.prog X.w) X.A X.env X.xe) (hc : X.calm = true) (hi : DI X B tg iter it) (hg : DG X B tg vs g) (hb : DSs X B body F) (hs : ∀ x, foldedSetIterable iter X.env x = pure x := by intro _; rfl) : DS X B (.For tg iter body [] pos) (sFor it g F) :=
  psI (ps_for hp hc hi hg hb hs) fun D σ H ⟨Hf, ρ, E, h⟩ => by
  refine ⟨Hf, ρ, E, rthen_res E h fun J ds Hf1 H1 x1 ⟨wk, _⟩ E1 h1 => ?_⟩
  refine ⟨fun i m σ H => ∃ Hf2 ρ2, Env (kc X B) B Hf2 H σ ρ2 ∧ Le Hf1 Hf2 ∧ m = ds.length - i ∧ Sat (kc X B) B D Hf2 (forD g F (ds.drop i) ρ2), ⟨ds.length, Hf1, ρ, E1, .refl _, rfl, h1⟩, fun i m σ2 H2 ⟨Hf2, ρ2, E2, l2, em, h2⟩ => ?_⟩
  have w := wk i Hf2 H2 l2 E2.le
  cases hd : ds[i]? with
  | none =>
    rw [drop_nil hd] at h2
    exact .inl ⟨w.2.2 hd, h2 σ2 Hf2 H2 (.refl _) E2⟩
  | some d =>
    refine .inr ⟨w.1 ⟨d, hd⟩, fun σ3 H3 => ∃ Hf3 ρ3, Env (kc X B) B Hf3 H3 σ3 ρ3 ∧ Le Hf1 Hf3 ∧ Sat (kc X B) B D Hf3 (forD g F (ds.drop (i + 1)) ρ3), fun σ3 H3 ⟨Hf3, ρ3, E3, l3, h3⟩ => ⟨ds.length - (i + 1), ?_, Hf3, ρ3, E3, l3, rfl, h3⟩, fun x H3 hy => ?_⟩
    · have := (List.getElem?_eq_some_iff.mp hd).1
      omega
    · obtain ⟨Hf3, x3, r3⟩ := w.2.1 d hd x H3 hy
      rw [drop_cons hd] at h2
      unfold forD at h2
      cases hg2 : g d ρ2 with
      | none => rw [hg2] at h2; exact h2.elim
      | some ρ1 =>
        rw [hg2] at h2
        refine ⟨Hf3, ρ2, d, ρ1, E2.ext x3, r3, hg2, fun σ4 E4 _ => ⟨Hf3, ρ1, E4, ?_⟩⟩
        have l3 := l2.trans x3.f
        have h3 := Sat.le h2 x3.f
        cases hF : F ρ1 with
        | nx ρ5 =>
          simp only [hF] at h3
          exact fun σ5 Hf5 H5 l5 E5 => ⟨Hf5, ρ5, E5, l3.trans l5, Sat.le h3 l5⟩
        | ct ρ5 =>
          simp only [hF] at h3
          exact fun σ5 Hf5 H5 l5 E5 => ⟨Hf5, ρ5, E5, l3.trans l5, Sat.le h3 l5⟩
        | bk ρ5 => simp only [hF] at h3; exact h3
        | rt d => simp only [hF] at h3; exact h3
        | er c ρ5 => simp only [hF] at h3; exact h3
        | bad => simp only [hF] at h3; exact h3
end
/-! ### while -/
inductive WRun (c : Ts) (F : Fs) : Nat → Rho → Out → Prop
  | stop {ρ} : c ρ = .ok false → WRun c F 0 ρ (.nx ρ)
  | err {ρ s} : c ρ = .err s → WRun c F 0 ρ (.er s ρ)
  | next {n ρ ρ' o} : c ρ = .ok true → (F ρ = .nx ρ' ∨ F ρ = .ct ρ') → WRun c F n ρ' o → WRun c F (n + 1) ρ o
  | brk {ρ ρ'} : c ρ = .ok true → F ρ = .bk ρ' → WRun c F 0 ρ (.nx ρ')
  | ret {ρ d} : c ρ = .ok true → F ρ = .rt d → WRun c F 0 ρ (.rt d)
  | er {ρ s ρ'} : c ρ = .ok true → F ρ = .er s ρ' → WRun c F 0 ρ (.er s ρ')
theorem WRun.det {c : Ts} {F : Fs} {n m : Nat} {ρ : Rho} {o o' : Out} (h : WRun c F n ρ o) (h' : WRun c F m ρ o') : o = o' := by
  induction h generalizing m o' with
  | stop e => cases h' <;> simp_all
  | err e => cases h' <;> simp_all
  | next e f _ ih =>
    cases h' with
    | next e' f' w' =>
      rcases f with f | f <;> rcases f' with f' | f' <;> (rw [f] at f'; first | (cases f'; done) | (cases f'; exact ih w'))
    | stop e' => simp_all
    | err e' => simp_all
    | brk e' f' => rcases f with f | f <;> simp_all
    | ret e' f' => rcases f with f | f <;> simp_all
    | er e' f' => rcases f with f | f <;> simp_all
  | brk e f =>
    cases h' with
    | next e' f' w' => rcases f' with f' | f' <;> simp_all
    | _ => simp_all
  | ret e f =>
    cases h' with
    | next e' f' w' => rcases f' with f' | f' <;> simp_all
    | _ => simp_all
  | er e f =>
    cases h' with
    | next e' f' w' => rcases f' with f' | f' <;> simp_all
    | _ => simp_all
open Classical in
noncomputable def sWhile (c : Ts) (F : Fs) : Fs := fun ρ => if h : ∃ o, ∃ n, WRun c F n ρ o then h.choose else .bad
theorem sWhile_eq {c : Ts} {F : Fs} {n : Nat} {ρ : Rho} {o : Out} (h : WRun c F n ρ o) : sWhile c F ρ = o := by
  have hx : ∃ o, ∃ n, WRun c F n ρ o := ⟨o, n, h⟩
  unfold sWhile
  rw [dif_pos hx]
  obtain ⟨m, hm⟩ := hx.choose_spec
  exact hm.det h
theorem sWhile_run {c : Ts} {F : Fs} {ρ : Rho} (h : sWhile c F ρ ≠ .bad) : ∃ n, WRun c F n ρ (sWhile c F ρ) := by
  by_cases hx : ∃ o, ∃ n, WRun c F n ρ o
  · obtain ⟨o, n, w⟩ := hx
    exact ⟨n, by rw [sWhile_eq w]; exact w⟩
  · unfold sWhile at h
    rw [dif_neg hx] at h
    exact absurd rfl h
section
variable {X : Cx} {B : Bs} {c : Expr} {body : List Stmt} {tf : Ts} {F : Fs} {pos : Pos}
theorem ds_while (hp : PassesOwn (model X.prog X.w) X.A X.env X.xe) (hc : DT X B c tf) (hb : DSs X B body F) : DS X B (.While c body [] pos) (sWhile tf F) := psI (ps_while hp hc hb) fun D σ H ⟨Hf, ρ, E, h⟩ => by
  obtain ⟨n, w⟩ : ∃ n, WRun tf F n ρ (sWhile tf F ρ) := sWhile_run fun e => by rw [e] at h; exact h
  generalize sWhile tf F ρ = o at h w
  refine ⟨fun m σ H => ∃ Hf2 ρ2, Env (kc X B) B Hf2 H σ ρ2 ∧ WRun tf F m ρ2 o ∧ Sat (kc X B) B D Hf2 o, ⟨n, Hf, ρ, E, w, h⟩, fun m σ2 H2 ⟨Hf2, ρ2, E2, w2, h2⟩ => ?_⟩
  refine ⟨Hf2, ρ2, E2, ?_⟩
  cases w2 with
  | stop e =>
    rw [e]
    exact fun v Hf3 H3 x3 r3 => by cases r3; exact iteF (h2 _ _ _ x3.f (E2.ext x3))
  | err e => rw [e]; exact fun Hf3 H3 x3 => h2 _ _ _ x3.f (E2.ext x3)
  | @next n3 _ ρ3 _ e f w3 =>
    rw [e]
    refine fun v Hf3 H3 x3 r3 => by
      cases r3
      refine iteT ⟨fun σ4 H4 => ∃ Hf4, Env (kc X B) B Hf4 H4 σ4 ρ3 ∧ Sat (kc X B) B D Hf4 o, fun σ4 H4 ⟨Hf4, E4, h4⟩ => ⟨n3, Nat.lt_succ_self _, Hf4, ρ3, E4, w3, h4⟩, Hf3, ρ2, E2.ext x3, ?_⟩
      rcases f with f | f
      · rw [f]; exact fun σ5 Hf5 H5 l5 E5 => ⟨Hf5, E5, Sat.le h2 (x3.f.trans l5)⟩
      · rw [f]; exact fun σ5 Hf5 H5 l5 E5 => ⟨Hf5, E5, Sat.le h2 (x3.f.trans l5)⟩
  | brk e f =>
    rw [e]
    exact fun v Hf3 H3 x3 r3 => by
      cases r3
      refine iteT ⟨fun _ _ => False, fun _ _ z => z.elim, Hf3, ρ2, E2.ext x3, ?_⟩
      rw [f]; exact fun σ5 Hf5 H5 l5 E5 => h2 σ5 Hf5 H5 (x3.f.trans l5) E5
  | ret e f =>
    rw [e]
    exact fun v Hf3 H3 x3 r3 => by
      cases r3
      refine iteT ⟨fun _ _ => False, fun _ _ z => z.elim, Hf3, ρ2, E2.ext x3, ?_⟩
      rw [f]; exact fun v5 Hf5 H5 l5 E5 => h2 v5 Hf5 H5 (x3.f.trans l5) E5
  | er e f =>
    rw [e]
    exact fun v Hf3 H3 x3 r3 => by
      cases r3
      refine iteT ⟨fun _ _ => False, fun _ _ z => z.elim, Hf3, ρ2, E2.ext x3, ?_⟩
      rw [f]; exact fun σ5 Hf5 H5 l5 E5 => h2 σ5 Hf5 H5 (x3.f.trans l5) E5
end
/-! ### comprehensions -/
def wipeR (ρ : Rho) : List Nat → Rho
  | [] => ρ
  | v :: vs => (wipeR ρ vs).set v .none
theorem Env.wiped {K : KC} {B : Bs} {Hf H : Hp} {σ : L2.St} {ρ : Rho} (E : Env K B Hf H σ ρ) : ∀ vs : List Nat, Env K B Hf H (wipe σ vs) (wipeR ρ vs)
  | [] => E
  | v :: vs => (E.wiped vs).drop v none
theorem Env.quiet {K : KC} {B : Bs} {Hf H : Hp} {σ : L2.St} {ρ : Rho} (E : Env K B Hf H σ ρ) : Env K B.quiet Hf H σ ρ := ⟨E.fz, E.rel, E.dis⟩
theorem Env.loud {K : KC} {B : Bs} {Hf H : Hp} {σ : L2.St} {ρ : Rho} (E : Env K B.quiet Hf H σ ρ) : Env K B Hf H σ ρ := ⟨E.fz, E.rel, E.dis⟩
def lcD (g : Tg) (c : Ts) (e : Ex) (ρ0 : Rho) : List D → R (List D)
  | [] => .ok []
  | d :: ds => match g d ρ0 with
    | none => .bad
    | some ρ1 => (c ρ1).bind fun b => if b then (e ρ1).bind fun y => (lcD g c e ρ0 ds).bind fun ys => .ok (y :: ys) else lcD g c e ρ0 ds
def tYes' : Ts := fun _ => .ok true
def eLc (it : Its') (g : Tg) (c : Ts) (e : Ex) (vs : List Nat) : Ex := fun ρ => (it ρ).bind fun ds => (lcD g c e (wipeR ρ vs) ds).quiet.bind fun ys => .ok (.lst ys)
def dcD (g : Tg) (c : Ts) (k e : Ex) (ρ0 : Rho) : List (Key × D) → List D → R (List (Key × D))
  | acc, [] => .ok acc
  | acc, d :: ds => match g d ρ0 with
    | none => .bad
    | some ρ1 => (c ρ1).bind fun b => if b then (k ρ1).bind fun kd => (e ρ1).bind fun y => (ofO (dkey kd)).bind fun kk => dcD g c k e ρ0 (pt acc kk y) ds else dcD g c k e ρ0 acc ds
def eDc (it : Its') (g : Tg) (c : Ts) (k e : Ex) (vs : List Nat) : Ex := fun ρ => (it ρ).bind fun ds => (dcD g c k e (wipeR ρ vs) [] ds).quiet.bind fun ys => .ok (.dic ys)
abbrev DTs (X : Cx) (B : Bs) (ifs : List Expr) (c : Ts) : Prop := PTs X ifs (tDb (kc X B) B c)
section
variable {X : Cx} {B : Bs}
theorem dts_nil : DTs X B [] tYes' := ⟨fun pins s σ H Q I ⟨Hf, ρ, E, h⟩ => pts_nil.run pins s σ H Q I (h _ Hf H (.refl E.le) rfl)⟩
theorem dts_one {c : Expr} {t : Ts} (h : DT X B c t) : DTs X B [c] t := pts_one h
theorem length_pt {κ β : Type} [DecidableEq κ] (es : List (κ × β)) (k : κ) (v : β) : (pt es k v).length ≤ es.length + 1 := by
  unfold pt; split
  · rw [List.length_map]; omega
  · rw [List.length_append]; simp
/-- what a comprehension of data asks -/
theorem tLc_of {it : Its'} {g : Tg} {c : Ts} {e : Ex} {vs : List Nat} {σ : L2.St} {H : Hp} {Q : VK} (h : tD (kc X B) B (eLc it g c e vs) σ H Q) :
    tLc (tI (kc X B) B it) (tG (kc X B) B.quiet g vs) (tDb (kc X B) B.quiet c) (tD (kc X B) B.quiet e) vs σ H Q := by
  obtain ⟨Hf, ρ, E, h⟩ := h
  refine ⟨Hf, ρ, E, h.bind fun J ds Hf1 H1 x1 ⟨wk, hz⟩ h1 => ?_⟩
  have E1 := E.ext x1
  intro Dd hD
  have hDf : Hf1 Dd = none := E1.le.free hD
  cases hl : lcD g c e (wipeR ρ vs) ds with
  | err s => rw [hl] at h1; exact h1.elim
  | bad => rw [hl] at h1; exact h1.elim
  | ok total =>
    rw [hl] at h1
    have h1 : ∀ v Hf' H', Ext Hf1 H1 Hf' H' → Rel (kc X B) Hf' v (.lst total) → Q v H' := h1
    refine ⟨fun i m H2 => ∃ Hf2 acc accd rest, Ext Hf1 H1 Hf2 H2 ∧ Hf2 Dd = none ∧ H2 Dd = some (.lst acc) ∧ RelL (kc X B) Hf2 acc accd ∧ acc.length ≤ i ∧ i ≤ ds.length ∧ m = ds.length - i ∧ lcD g c e (wipeR ρ vs) (ds.drop i) = .ok rest ∧ total = accd ++ rest,
      ⟨ds.length, Hf1, [], [], total, .own E1.le hD, hDf, upd_same, .nil, Nat.le_refl _, Nat.zero_le _, rfl, hl, rfl⟩, fun i m H2 ⟨Hf2, acc, accd, rest, x2, hf2, hd2, r2, hi, hin, em, hrest, ht⟩ => ?_⟩
    have w := wk i Hf2 H2 x2.f x2.i
    cases hd : ds[i]? with
    | none =>
      refine .inl ⟨w.2.2 hd, ?_⟩
      rw [drop_nil hd] at hrest
      cases hrest
      rw [List.append_nil] at ht
      subst ht
      refine h1 _ (upd Hf2 Dd (.lst acc)) H2 ⟨x2.f.out hDf, x2.h, fun b u eb => ?_, fun a o ea na => ?_⟩ (.lst upd_same (by omega) (RelL.mono (.new hf2) r2))
      · by_cases hb : b = Dd
        · subst hb; rw [upd_same] at eb; cases eb; exact ⟨_, hd2, .inl rfl⟩
        · rw [upd_ne hb] at eb; exact x2.i b u eb
      · rw [upd_ne (ne_of_none ea hD)]; exact x2.o a o ea na
    | some d =>
      have hlt := (List.getElem?_eq_some_iff.mp hd).1
      rw [drop_cons hd] at hrest
      unfold lcD at hrest
      cases hg : g d (wipeR ρ vs) with
      | none => rw [hg] at hrest; cases hrest
      | some ρ1 =>
        simp only [hg] at hrest
        refine .inr ⟨w.1 ⟨d, hd⟩, fun H3 => ∃ Hf3 acc accd rest, Ext Hf1 H1 Hf3 H3 ∧ Hf3 Dd = none ∧ H3 Dd = some (.lst acc) ∧ RelL (kc X B) Hf3 acc accd ∧ acc.length ≤ i + 1 ∧ lcD g c e (wipeR ρ vs) (ds.drop (i + 1)) = .ok rest ∧ total = accd ++ rest,
          fun H3 ⟨Hf3, acc3, accd3, rest3, x3, a1, a2, a3, a4, a5, a6⟩ => ⟨ds.length - (i + 1), by omega, Hf3, acc3, accd3, rest3, x3, a1, a2, a3, a4, hlt, rfl, a5, a6⟩, fun x H3 hy => ?_⟩
        obtain ⟨Hf3, x3, r3⟩ := w.2.1 d hd x H3 hy
        have y3 := x2.trans x3
        have E3 : Env (kc X B) B.quiet Hf3 H3 (wipe σ vs) (wipeR ρ vs) := ((E1.ext y3).wiped vs).quiet
        refine ⟨Hf3, _, d, ρ1, E3, r3, hg, fun σ4 E4 hw => ⟨?_, Hf3, ρ1, E4, ?_⟩⟩
        · exact hw.trans (wipe_wipe σ vs)
        · cases hc : c ρ1 with
          | err s => rw [hc] at hrest; cases hrest
          | bad => rw [hc] at hrest; cases hrest
          | ok b =>
            rw [hc] at hrest
            simp only [bind_ok] at hrest
            intro b' Hf4 H4 x4 rb
            obtain rfl : b' = b := rb
            have y4 := y3.trans x4
            have hn4 : Hf4 Dd = none := (x3.trans x4).o Dd _ hd2 hf2
            have hD4 : H4 Dd = some (.lst acc) := (x3.trans x4).h.keep hd2 (fun _ z => nomatch z)
            cases b' with
            | false =>
              refine iteF ⟨Hf4, acc, accd, rest, y4, hn4, hD4, RelL.mono (x3.f.trans x4.f) r2, by omega, hrest, ht⟩
            | true =>
              refine iteT ⟨Hf4, ρ1, E4.ext x4, ?_⟩
              cases he : e ρ1 with
              | err s => rw [he] at hrest; cases hrest
              | bad => rw [he] at hrest; cases hrest
              | ok y =>
                rw [he] at hrest
                simp only [if_true, bind_ok] at hrest
                cases hr : lcD g c e (wipeR ρ vs) (ds.drop (i + 1)) with
                | err s => rw [hr] at hrest; cases hrest
                | bad => rw [hr] at hrest; cases hrest
                | ok rest' =>
                  rw [hr] at hrest
                  cases hrest
                  intro v5 Hf5 H5 x5 r5
                  have y5 := y4.trans x5
                  have hn5 : Hf5 Dd = none := x5.o Dd _ hD4 hn4
                  have hD5 : H5 Dd = some (.lst acc) := x5.h.keep hD4 (fun _ z => nomatch z)
                  refine ⟨acc, hD5, by omega, Hf5, acc ++ [v5], accd ++ [y], rest', ⟨y5.f, y5.h.out hD, x5.i.out hn5, y5.o⟩, hn5, upd_same, (RelL.mono ((x3.f.trans x4.f).trans x5.f) r2).append (.cons r5 .nil), by rw [List.length_append]; simp; omega, by first | exact hr | rfl, by rw [ht]; simp⟩
where
  wipe_wipe (σ : L2.St) (vs : List Nat) : wipe (wipe σ vs) vs = wipe σ vs := by
    have hs : ∀ (ws : List Nat) (τ : L2.St) (j : Nat), (wipe τ ws).set j none = wipe (τ.set j none) ws := by
      intro ws
      induction ws with
      | nil => intro τ j; rfl
      | cons k ws ih =>
        intro τ j
        unfold wipe
        rw [← ih τ j]
        by_cases e : k = j
        · subst e; rfl
        · rw [List.set_comm _ _ e]
    induction vs generalizing σ with
    | nil => rfl
    | cons k vs ih =>
      show (wipe ((wipe σ vs).set k none) vs).set k none = (wipe σ vs).set k none
      rw [← hs vs (wipe σ vs) k, ih, List.set_set]
end
section
variable {X : Cx} {B : Bs}
theorem tDc_of {it : Its'} {g : Tg} {c : Ts} {k e : Ex} {vs : List Nat} {σ : L2.St} {H : Hp} {Q : VK} (h : tD (kc X B) B (eDc it g c k e vs) σ H Q) :
    tDc (tI (kc X B) B it) (tG (kc X B) B.quiet g vs) (tDb (kc X B) B.quiet c) (tD (kc X B) B.quiet k) (tD (kc X B) B.quiet e) vs σ H Q := by
  obtain ⟨Hf, ρ, E, h⟩ := h
  refine ⟨Hf, ρ, E, h.bind fun J ds Hf1 H1 x1 ⟨wk, hz⟩ h1 => ?_⟩
  have E1 := E.ext x1
  intro Dd hD
  have hDf : Hf1 Dd = none := E1.le.free hD
  cases hl : dcD g c k e (wipeR ρ vs) [] ds with
  | err s => rw [hl] at h1; exact h1.elim
  | bad => rw [hl] at h1; exact h1.elim
  | ok total =>
    rw [hl] at h1
    have h1 : ∀ v Hf' H', Ext Hf1 H1 Hf' H' → Rel (kc X B) Hf' v (.dic total) → Q v H' := h1
    refine ⟨fun i m H2 => ∃ Hf2 acc accd, Ext Hf1 H1 Hf2 H2 ∧ Hf2 Dd = none ∧ H2 Dd = some (.dK acc) ∧ acc.map (·.1) = accd.map (·.1) ∧ RelL (kc X B) Hf2 (acc.map (·.2)) (accd.map (·.2)) ∧ acc.length ≤ i ∧ i ≤ ds.length ∧ m = ds.length - i ∧ dcD g c k e (wipeR ρ vs) accd (ds.drop i) = .ok total,
      ⟨ds.length, Hf1, [], [], .own E1.le hD, hDf, upd_same, rfl, .nil, Nat.le_refl _, Nat.zero_le _, rfl, hl⟩, fun i m H2 ⟨Hf2, acc, accd, x2, hf2, hd2, k2, r2, hi, hin, em, hrest⟩ => ?_⟩
    have w := wk i Hf2 H2 x2.f x2.i
    cases hd : ds[i]? with
    | none =>
      refine .inl ⟨w.2.2 hd, ?_⟩
      rw [drop_nil hd] at hrest
      cases hrest
      refine h1 _ (upd Hf2 Dd (.dK acc)) H2 ⟨x2.f.out hDf, x2.h, fun b u eb => ?_, fun a o ea na => ?_⟩ (.dic upd_same (by omega) k2 (RelL.mono (.new hf2) r2))
      · by_cases hb : b = Dd
        · subst hb; rw [upd_same] at eb; cases eb; exact ⟨_, hd2, .inl rfl⟩
        · rw [upd_ne hb] at eb; exact x2.i b u eb
      · rw [upd_ne (ne_of_none ea hD)]; exact x2.o a o ea na
    | some d =>
      have hlt := (List.getElem?_eq_some_iff.mp hd).1
      rw [drop_cons hd] at hrest
      unfold dcD at hrest
      cases hg : g d (wipeR ρ vs) with
      | none => rw [hg] at hrest; cases hrest
      | some ρ1 =>
        simp only [hg] at hrest
        refine .inr ⟨w.1 ⟨d, hd⟩, fun H3 => ∃ Hf3 acc accd, Ext Hf1 H1 Hf3 H3 ∧ Hf3 Dd = none ∧ H3 Dd = some (.dK acc) ∧ acc.map (·.1) = accd.map (·.1) ∧ RelL (kc X B) Hf3 (acc.map (·.2)) (accd.map (·.2)) ∧ acc.length ≤ i + 1 ∧ dcD g c k e (wipeR ρ vs) accd (ds.drop (i + 1)) = .ok total,
          fun H3 ⟨Hf3, acc3, accd3, x3, a1, a2, a3, a4, a5, a6⟩ => ⟨ds.length - (i + 1), by omega, Hf3, acc3, accd3, x3, a1, a2, a3, a4, a5, hlt, rfl, a6⟩, fun x H3 hy => ?_⟩
        obtain ⟨Hf3, x3, r3⟩ := w.2.1 d hd x H3 hy
        have y3 := x2.trans x3
        have E3 : Env (kc X B) B.quiet Hf3 H3 (wipe σ vs) (wipeR ρ vs) := ((E1.ext y3).wiped vs).quiet
        refine ⟨Hf3, _, d, ρ1, E3, r3, hg, fun σ4 E4 hw => ⟨?_, Hf3, ρ1, E4, ?_⟩⟩
        · exact hw.trans (tLc_of.wipe_wipe σ vs)
        · cases hc : c ρ1 with
          | err s => rw [hc] at hrest; cases hrest
          | bad => rw [hc] at hrest; cases hrest
          | ok b =>
            rw [hc] at hrest
            simp only [bind_ok] at hrest
            intro b' Hf4 H4 x4 rb
            obtain rfl : b' = b := rb
            have y4 := y3.trans x4
            have hn4 : Hf4 Dd = none := (x3.trans x4).o Dd _ hd2 hf2
            have hD4 : H4 Dd = some (.dK acc) := (x3.trans x4).h.keep hd2 (fun _ z => nomatch z)
            cases b' with
            | false => exact iteF ⟨Hf4, acc, accd, y4, hn4, hD4, k2, RelL.mono (x3.f.trans x4.f) r2, by omega, hrest⟩
            | true =>
              refine iteT ⟨Hf4, ρ1, E4.ext x4, ?_⟩
              cases hk : k ρ1 with
              | err s => rw [hk] at hrest; cases hrest
              | bad => rw [hk] at hrest; cases hrest
              | ok kd =>
                rw [hk] at hrest
                simp only [if_true, bind_ok] at hrest
                intro v5 Hf5 H5 x5 r5
                refine ⟨Hf5, ρ1, (E4.ext x4).ext x5, ?_⟩
                cases he : e ρ1 with
                | err s => rw [he] at hrest; cases hrest
                | bad => rw [he] at hrest; cases hrest
                | ok y =>
                  rw [he] at hrest
                  simp only [bind_ok] at hrest
                  cases hkk : dkey kd with
                  | none => rw [hkk] at hrest; cases hrest
                  | some kk =>
                    rw [hkk] at hrest
                    intro v6 Hf6 H6 x6 r6
                    have y6 := (y4.trans x5).trans x6
                    have hn6 : Hf6 Dd = none := (x5.trans x6).o Dd _ hD4 hn4
                    have hD6 : H6 Dd = some (.dK acc) := (x5.trans x6).h.keep hD4 (fun _ z => nomatch z)
                    have hp := pt_rel k2 (RelL.mono (((x3.f.trans x4.f).trans x5.f).trans x6.f) r2) kk r6
                    exact ⟨acc, kk, dkey_rel r5 hkk, hD6, by omega, Hf6, putK acc kk v6, pt accd kk y, ⟨y6.f, y6.h.out hD, (y6.i).out hn6, y6.o⟩, hn6, upd_same, hp.1, hp.2, by have := length_putK acc kk v6; omega, hrest⟩
end
/-! ### the rules -/
section
variable {X : Cx} {B : Bs} {elt kx vx tg iter : Expr} {ifs : List Expr} {scope : Scope} {own : List (Str × Nat)} {pos spos : Pos} {it : Its'} {g : Tg} {c : Ts} {k e : Ex}
theorem de_lc (own : List (Str × Nat)) (hc : X.calm = true) (hN : X.N.Nodup) (ok : BlkOk X.N X.env.scope scope own) (hi : DI X B tg iter it)
    (hg : ∀ (s : Shared) (H : Hp) (C : Addr) (cl : List (Str × Addr)) (fp : List Addr), DG (X.blk s H scope (compEnvC scope cl C X.env) fp) B.quiet tg (own.map (·.2)) g)
    (ht : ∀ (s : Shared) (H : Hp) (C : Addr) (cl : List (Str × Addr)) (fp : List Addr), DTs (X.blk s H scope (compEnvC scope cl C X.env) fp) B.quiet ifs c)
    (he : ∀ (s : Shared) (H : Hp) (C : Addr) (cl : List (Str × Addr)) (fp : List Addr), DE (X.blk s H scope (compEnvC scope cl C X.env) fp) B.quiet elt e) (hs : ∀ x, foldedSetIterable iter X.env x = pure x := by intro _; rfl) :
    DE X B (.ListComp elt [⟨tg, iter, ifs, 0⟩] scope pos) (eLc it g c e (own.map (·.2))) := peI (pe_lc hc hN hi ok hg ht he hs) fun _ _ _ h => tLc_of h
theorem de_dc (own : List (Str × Nat)) (hc : X.calm = true) (hN : X.N.Nodup) (ok : BlkOk X.N X.env.scope scope own) (hi : DI X B tg iter it)
    (hg : ∀ (s : Shared) (H : Hp) (C : Addr) (cl : List (Str × Addr)) (fp : List Addr), DG (X.blk s H scope (compEnvC scope cl C X.env) fp) B.quiet tg (own.map (·.2)) g)
    (ht : ∀ (s : Shared) (H : Hp) (C : Addr) (cl : List (Str × Addr)) (fp : List Addr), DTs (X.blk s H scope (compEnvC scope cl C X.env) fp) B.quiet ifs c)
    (hk : ∀ (s : Shared) (H : Hp) (C : Addr) (cl : List (Str × Addr)) (fp : List Addr), DE (X.blk s H scope (compEnvC scope cl C X.env) fp) B.quiet kx k)
    (he : ∀ (s : Shared) (H : Hp) (C : Addr) (cl : List (Str × Addr)) (fp : List Addr), DE (X.blk s H scope (compEnvC scope cl C X.env) fp) B.quiet vx e) (hs : ∀ x, foldedSetIterable iter X.env x = pure x := by intro _; rfl) :
    DE X B (.DictComp kx vx [⟨tg, iter, ifs, 0⟩] scope pos) (eDc it g c k e (own.map (·.2))) := peI (pe_dc hc hN hi ok hg ht hk he hs) fun _ _ _ h => tDc_of h
theorem tAsg_of {K : KC} {f : Ex} {i : Nat} {t : TE} {D : Ends} {σ : L2.St} {H : Hp} (ht : ∀ σ H Q, tD K B f σ H Q → t σ H Q) (h : tS K B (sSet i f) D σ H) : tAsg t (gName i) D σ H := by
  obtain ⟨Hf, ρ, E, h⟩ := h
  exact ht _ _ _ ⟨Hf, ρ, E, rthen_res E h fun v a Hf' H' x r E' h' => h' _ Hf' H' (.refl _) (E'.set i r)⟩
theorem ds_setLc (own : List (Str × Nat)) (i : Nat) {y : Str} {py : Pos} (hc : X.calm = true) (hN : X.N.Nodup) (hsw : swapsWith (.ListComp elt [⟨tg, iter, ifs, 0⟩] scope pos) (some (.Name y py)) spos.line X.env = pure true) (ok : BlkOk X.N X.env.scope scope own) (hi : DI X B tg iter it)
    (hg : ∀ (s : Shared) (H : Hp) (C : Addr) (cl : List (Str × Addr)) (fp : List Addr), DG (X.blk s H scope (compEnvC scope cl C X.env) fp) B.quiet tg (own.map (·.2)) g)
    (ht : ∀ (s : Shared) (H : Hp) (C : Addr) (cl : List (Str × Addr)) (fp : List Addr), DTs (X.blk s H scope (compEnvC scope cl C X.env) fp) B.quiet ifs c)
    (he : ∀ (s : Shared) (H : Hp) (C : Addr) (cl : List (Str × Addr)) (fp : List Addr), DE (X.blk s H scope (compEnvC scope cl C X.env) fp) B.quiet elt e) (hy : X.N[i]? = some y := by rfl) (hyl : X.env.scope.names.lookup y = some .local := by rfl) (hs : ∀ x, foldedSetIterable iter X.env x = pure x := by intro _; rfl) :
    DS X B (.Assign [.Name y py] (.ListComp elt [⟨tg, iter, ifs, 0⟩] scope pos) spos) (sSet i (eLc it g c e (own.map (·.2)))) := psI (ps_setLc hc hN hy hyl hsw hi ok hg ht he hs) fun _ _ _ h => tAsg_of (fun _ _ _ h => tLc_of h) h
/-- name = {..} on one line, the name a local -/
theorem ps_setDc {i : Nat} {y : Str} {py : Pos} {wi : TI} {g : TG} {tt : TT} {tk tv : TE} (hc : X.calm = true) (hN : X.N.Nodup) (hy : X.N[i]? = some y) (hyl : X.env.scope.names.lookup y = some .local) (hsw : swapsWith (.DictComp kx vx [⟨tg, iter, ifs, 0⟩] scope pos) (some (.Name y py)) spos.line X.env = pure true)
    (hi : PI X tg iter wi) (ok : BlkOk X.N X.env.scope scope own)
    (hg : ∀ (s : Shared) (H : Hp) (C : Addr) (cl : List (Str × Addr)) (fp : List Addr), PG (X.blk s H scope (compEnvC scope cl C X.env) fp) tg g) (ht : ∀ (s : Shared) (H : Hp) (C : Addr) (cl : List (Str × Addr)) (fp : List Addr), PTs (X.blk s H scope (compEnvC scope cl C X.env) fp) ifs tt)
    (hk : ∀ (s : Shared) (H : Hp) (C : Addr) (cl : List (Str × Addr)) (fp : List Addr), PE (X.blk s H scope (compEnvC scope cl C X.env) fp) kx tk) (hv : ∀ (s : Shared) (H : Hp) (C : Addr) (cl : List (Str × Addr)) (fp : List Addr), PE (X.blk s H scope (compEnvC scope cl C X.env) fp) vx tv)
    (hs : ∀ x, foldedSetIterable iter X.env x = pure x := by intro _; rfl) : PS X (.Assign [.Name y py] (.DictComp kx vx [⟨tg, iter, ifs, 0⟩] scope pos) spos) (tAsg (tDc wi g tt tk tv (own.map (·.2))) (gName i)) := by
  refine ⟨fun pins s σ H D I h => ?_⟩
  rw [exec_Assign_Name_used _ _ _ _ hsw]
  refine wpAny_bind (wpAny_standAt (wpAny_bind ?_))
  show wpAny _ X.A (do let _ ← comprehension (.DictComp kx vx [⟨tg, iter, ifs, 0⟩] scope pos) scope X.env (firstIterPos [⟨tg, iter, ifs, 0⟩] pos) newDict false (eval iter X.env) (some (assign (.Name y py) X.env))) _ _ s
  have hh : tDc wi g tt tk tv (own.map (·.2)) σ H (fun x H1 => gName i x σ H1 D.nx) := h
  refine wpAny_bind (thn (dc_core (Qf := fun _ s' => SP X pins D .next s') hc hN I hi ok hg ht hk hv hs hh fun L C s' m H' I' q hn f => ?_) fun _ s' hq => wpAny_pure (wpAny_pure hq))
  show wpAny _ _ (assign (.Name y py) X.env (.ref L)) _ _ _
  obtain ⟨f0, f1, f2, f3, f4, f5⟩ := f
  refine wpAny_assign_Name (store_ok2 (v := V.ref L) I' hN hy (.inl hyl) rfl (fun s2 I2 ⟨a, sb, ha⟩ => ?_) (.inr hyl))
  have hne : C ≠ a := by
    rcases ha with z | z
    · exact z ▸ f1
    · exact fun e => f4 y a z e.symm
  exact ⟨m, hn.sameBut sb hne, fun h3 sb3 => ⟨_, H', I2.turned (t' := s2.toks) (fun b o hb e => (sb3.2 b hb).trans e) f0 f1 f3 f4 f5, q⟩⟩
theorem ds_setDc (own : List (Str × Nat)) (i : Nat) {y : Str} {py : Pos} (hc : X.calm = true) (hN : X.N.Nodup) (hsw : swapsWith (.DictComp kx vx [⟨tg, iter, ifs, 0⟩] scope pos) (some (.Name y py)) spos.line X.env = pure true) (ok : BlkOk X.N X.env.scope scope own) (hi : DI X B tg iter it)
    (hg : ∀ (s : Shared) (H : Hp) (C : Addr) (cl : List (Str × Addr)) (fp : List Addr), DG (X.blk s H scope (compEnvC scope cl C X.env) fp) B.quiet tg (own.map (·.2)) g)
    (ht : ∀ (s : Shared) (H : Hp) (C : Addr) (cl : List (Str × Addr)) (fp : List Addr), DTs (X.blk s H scope (compEnvC scope cl C X.env) fp) B.quiet ifs c)
    (hk : ∀ (s : Shared) (H : Hp) (C : Addr) (cl : List (Str × Addr)) (fp : List Addr), DE (X.blk s H scope (compEnvC scope cl C X.env) fp) B.quiet kx k)
    (he : ∀ (s : Shared) (H : Hp) (C : Addr) (cl : List (Str × Addr)) (fp : List Addr), DE (X.blk s H scope (compEnvC scope cl C X.env) fp) B.quiet vx e) (hy : X.N[i]? = some y := by rfl) (hyl : X.env.scope.names.lookup y = some .local := by rfl) (hs : ∀ x, foldedSetIterable iter X.env x = pure x := by intro _; rfl) :
    DS X B (.Assign [.Name y py] (.DictComp kx vx [⟨tg, iter, ifs, 0⟩] scope pos) spos) (sSet i (eDc it g c k e (own.map (·.2)))) := psI (ps_setDc hc hN hy hyl hsw hi ok hg ht hk he hs) fun _ _ _ h => tAsg_of (fun _ _ _ h => tDc_of h) h
theorem sw_true' {gs : List Comprehension} {py : Pos} {y : Str} {l : Nat} {env : PySem.Env} (hk : env.scope.kind = .function) (hy : env.scope.names.lookup y = some .local) (hl : (py.line == pos.line) = true)
    (ha : (scope.names.any fun (n, k) => n == y && (k == .local || k == .cell)) = false) : swapsWith (.DictComp kx vx gs scope pos) (some (.Name y py)) l env = pure true := by
  have h1 : env.kindOf y = some .local := hy
  have h2 : env.blockKind = .function := by unfold PySem.Env.blockKind; rw [hk]; rfl
  unfold swapsWith
  simp only [h1, h2, ha, Expr.pos, hl]
  rfl
end
/-! ### lists that the def itself lengthens -/
def Slot.frozen : Slot → Slot
  | .own ds => .val (.lst ds)
  | .ownD es => .val (.dic es)
  | .ownT es => .val (.dit es)
  | s => s
def freeze (i : Nat) (ρ : Rho) : Rho := match ρ[i]? with
  | some s => ρ.set i s.frozen
  | none => ρ
theorem set_self {α : Type} {l : List α} {i : Nat} {x : α} (h : l[i]? = some x) : l.set i x = l := by
  obtain ⟨hi, e⟩ := List.getElem?_eq_some_iff.mp h
  rw [← e]; exact List.set_getElem_self hi
theorem SlotRel.up {K : KC} {H0 Hf H : Hp} {p : Addr} {o : HO} {sv : Option V} {s : Slot} (hn : Hf p = none) (r : SlotRel K H0 Hf H sv s) (hp : s.owns = true → sv ≠ some (.ref p)) : SlotRel K H0 (upd Hf p o) H sv s := by
  cases s with
  | none => trivial
  | val d => obtain ⟨v, e, q⟩ := r; exact ⟨v, e, Rel.mono (.new hn) q⟩
  | own ds =>
    obtain ⟨a, xs, e, h, n, n0, z, q⟩ := r
    exact ⟨a, xs, e, h, by rw [upd_ne (fun z => hp rfl (by rw [e, z]))]; exact n, n0, z, RelL.mono (.new hn) q⟩
  | ownD es =>
    obtain ⟨a, xs, e, h, n, n0, z, q1, q⟩ := r
    exact ⟨a, xs, e, h, by rw [upd_ne (fun z => hp rfl (by rw [e, z]))]; exact n, n0, z, q1, RelL.mono (.new hn) q⟩
  | ownT es =>
    obtain ⟨a, xs, e, h, n, n0, z, q1, q⟩ := r
    exact ⟨a, xs, e, h, by rw [upd_ne (fun z => hp rfl (by rw [e, z]))]; exact n, n0, z, q1, RelL.mono (.new hn) q⟩
theorem paired_at {α β : Type} {F G : α → β → Prop} : ∀ {xs : List α} {ys : List β}, Paired F xs ys → (∀ (i : Nat) (x : α) (y : β), xs[i]? = some x → ys[i]? = some y → F x y → G x y) → Paired G xs ys
  | _, _, .nil, _ => .nil
  | _, _, .cons r t, h => .cons (h 0 _ _ rfl rfl r) (paired_at t fun i x y e1 e2 q => h (i + 1) x y (by simpa using e1) (by simpa using e2) q)
theorem Env.freeze {K : KC} {B : Bs} {Hf H : Hp} {σ : L2.St} {ρ : Rho} (E : Env K B Hf H σ ρ) (i : Nat) : ∃ Hf', Le Hf Hf' ∧ Env K B Hf' H σ (freeze i ρ) := by
  unfold DL.freeze
  cases hs : ρ[i]? with
  | none => exact ⟨Hf, .refl _, E⟩
  | some s =>
    obtain ⟨sv, es, r⟩ := E.slot hs
    by_cases ho : s.owns = true
    · obtain ⟨a, o, hsv, ha, hna, h0, hr⟩ : ∃ a o, sv = some (.ref a) ∧ H a = some o ∧ Hf a = none ∧ B.H0 a = none ∧ SlotRel K B.H0 (upd Hf a o) H sv s.frozen := by
        cases s with
        | own ds => obtain ⟨a, xs, e, h, n, n0, z, q⟩ := r; exact ⟨a, _, e, h, n, n0, .ref a, e, .lst upd_same z (RelL.mono (.new n) q)⟩
        | ownD ds => obtain ⟨a, xs, e, h, n, n0, z, q1, q⟩ := r; exact ⟨a, _, e, h, n, n0, .ref a, e, .dic upd_same z q1 (RelL.mono (.new n) q)⟩
        | ownT ds => obtain ⟨a, xs, e, h, n, n0, z, q1, q⟩ := r; exact ⟨a, _, e, h, n, n0, .ref a, e, .dit upd_same z q1 (RelL.mono (.new n) q)⟩
        | none => cases ho
        | val _ => cases ho
      refine ⟨upd Hf a o, .new hna, ⟨⟨E.fz.f.trans (.new hna), E.fz.h, fun b u eb => ?_, fun b u eb nb => ?_⟩, ?_, ?_⟩⟩
      · by_cases hb : b = a
        · subst hb; rw [upd_same] at eb; cases eb; exact ⟨_, ha, .inl rfl⟩
        · rw [upd_ne hb] at eb; exact E.le b u eb
      · rw [upd_ne (ne_of_none eb h0)]; exact E.fz.o b u eb nb
      · have h1 : Paired (SlotRel K B.H0 (upd Hf a o) H) (σ.set i sv) (ρ.set i s.frozen) := by
          have h2 : Paired (fun x y => SlotRel K B.H0 (upd Hf a o) H x y ∨ (x = sv ∧ y = s)) σ ρ := paired_at E.rel fun j x y e1 e2 q => by
            by_cases hj : j = i
            · subst hj; rw [es] at e1; rw [hs] at e2; cases e1; cases e2; exact .inr ⟨rfl, rfl⟩
            · refine .inl (SlotRel.up hna q fun hy hx => ?_)
              exact hj (E.dis j i a ⟨by rw [e1, hx], y, e2, hy⟩ ⟨by rw [es, hsv], s, hs, ho⟩)
          exact paired_at (pset (F := fun x y => SlotRel K B.H0 (upd Hf a o) H x y ∨ (x = sv ∧ y = s)) (x := sv) (y := s.frozen) (.inl hr) i h2) fun j x y e1 e2 q => by
            rcases q with q | ⟨q1, q2⟩
            · exact q
            · subst q1 q2
              by_cases hj : i = j
              · subst hj
                rw [List.getElem?_set] at e2
                simp at e2
                exact e2.2 ▸ hr
              · rw [List.getElem?_set_ne hj] at e1 e2
                exact absurd (E.dis j i a ⟨by rw [e1, hsv], _, e2, ho⟩ ⟨by rw [es, hsv], _, hs, ho⟩) (fun z => hj z.symm)
        rw [set_self es] at h1
        exact h1
      · intro j k b h1 h2
        have hj : ∀ j, ownA σ (ρ.set i s.frozen) j b → ownA σ ρ j b := fun j ⟨q1, u, q2, q3⟩ => by
          by_cases e : i = j
          · subst e
            rw [List.getElem?_set] at q2
            simp at q2
            obtain ⟨_, rfl⟩ := q2
            cases s <;> cases q3
          · rw [List.getElem?_set_ne e] at q2
            exact ⟨q1, u, q2, q3⟩
        exact E.dis j k b (hj j h1) (hj k h2)
    · have e : s.frozen = s := by cases s <;> first | rfl | (exact absurd rfl ho)
      show ∃ Hf', Le Hf Hf' ∧ Env K B Hf' H σ (ρ.set i s.frozen)
      rw [e, set_self hs]
      exact ⟨Hf, .refl _, E⟩
/-- ahead of a statement a list or dict of the def's own is let go: from then on it is a value -/
theorem dss_freeze {X : Cx} {B : Bs} {st : List Stmt} {F : Fs} (i : Nat) (h : DSs X B st F) : DSs X B st (fun ρ => F (freeze i ρ)) := pssI h fun D σ H ⟨Hf, ρ, E, q⟩ => by
  obtain ⟨Hf', l, E'⟩ := E.freeze i
  exact ⟨Hf', freeze i ρ, E', Sat.le q l⟩
theorem ds_freeze {X : Cx} {B : Bs} {st : Stmt} {F : Fs} (i : Nat) (h : DS X B st F) : DS X B st (fun ρ => F (freeze i ρ)) := psI h fun D σ H ⟨Hf, ρ, E, q⟩ => by
  obtain ⟨Hf', l, E'⟩ := E.freeze i
  exact ⟨Hf', freeze i ρ, E', Sat.le q l⟩
/-! ### owned lists and dicts: made, lengthened, read -/
section
variable {K : KC} {B : Bs} {Hf H : Hp} {σ : L2.St} {ρ : Rho}
theorem SlotRel.touch {H0 : Hp} {p : Addr} {o : HO} {sv : Option V} {s : Slot} (r : SlotRel K H0 Hf H sv s) (hp : s.owns = true → sv ≠ some (.ref p)) : SlotRel K H0 Hf (upd H p o) sv s := by
  cases s with
  | none => trivial
  | val d => exact r
  | own ds => obtain ⟨a, xs, e, h, n⟩ := r; exact ⟨a, xs, e, by rw [upd_ne (fun z => hp rfl (by rw [e, z]))]; exact h, n⟩
  | ownD es => obtain ⟨a, xs, e, h, n⟩ := r; exact ⟨a, xs, e, by rw [upd_ne (fun z => hp rfl (by rw [e, z]))]; exact h, n⟩
  | ownT es => obtain ⟨a, xs, e, h, n⟩ := r; exact ⟨a, xs, e, by rw [upd_ne (fun z => hp rfl (by rw [e, z]))]; exact h, n⟩
theorem SlotRel.live {H0 : Hp} {a : Addr} {s : Slot} (r : SlotRel K H0 Hf H (some (.ref a)) s) (ho : s.owns = true) : ∃ o, H a = some o := by
  cases s with
  | none => cases ho
  | val d => cases ho
  | own ds => obtain ⟨b, xs, e, h, n⟩ := r; cases e; exact ⟨_, h⟩
  | ownD es => obtain ⟨b, xs, e, h, n⟩ := r; cases e; exact ⟨_, h⟩
  | ownT es => obtain ⟨b, xs, e, h, n⟩ := r; cases e; exact ⟨_, h⟩
theorem Env.owned (E : Env K B Hf H σ ρ) {i : Nat} {a : Addr} (h : ownA σ ρ i a) : ∃ o, H a = some o := by
  obtain ⟨h1, s, h2, h3⟩ := h
  obtain ⟨sv, e, r⟩ := E.slot h2
  rw [h1] at e
  cases e
  exact r.live h3
/-- a new thing is laid and owned by slot i -/
theorem Env.setOwn (E : Env K B Hf H σ ρ) (i : Nat) {p : Addr} {o : HO} {s : Slot} (hp : H p = none) (r : SlotRel K B.H0 Hf (upd H p o) (some (.ref p)) s) : Env K B Hf (upd H p o) (σ.set i (some (.ref p))) (ρ.set i s) := by
  refine ⟨E.fz.trans (.own E.le hp), pset r i (paired_at E.rel fun j x y e1 e2 q => SlotRel.touch q fun hy hx => ?_), fun j k a h1 h2 => ?_⟩
  · obtain ⟨o, e⟩ := E.owned (i := j) (a := p) ⟨by rw [e1, hx], y, e2, hy⟩
    rw [hp] at e; cases e
  · have hj : ∀ j, j ≠ i → ownA (σ.set i (some (.ref p))) (ρ.set i s) j a → ownA σ ρ j a ∧ a ≠ p := fun j hne ⟨q1, u, q2, q3⟩ => by
      rw [List.getElem?_set_ne (Ne.symm hne)] at q1 q2
      have q : ownA σ ρ j a := ⟨q1, u, q2, q3⟩
      refine ⟨q, fun z => ?_⟩
      obtain ⟨o, e⟩ := E.owned q
      rw [z, hp] at e; cases e
    have hi : ownA (σ.set i (some (.ref p))) (ρ.set i s) i a → a = p := fun ⟨q1, _⟩ => by
      rw [List.getElem?_set] at q1
      simp at q1
      exact q1.2.symm
    by_cases e1 : j = i
    · by_cases e2 : k = i
      · rw [e1, e2]
      · subst e1; exact absurd (hi h1) (hj k e2 h2).2
    · by_cases e2 : k = i
      · subst e2; exact absurd (hi h2) (hj j e1 h1).2
      · exact E.dis j k a (hj j e1 h1).1 (hj k e2 h2).1
/-- the thing that slot i owns is changed -/
theorem Env.updOwn (E : Env K B Hf H σ ρ) {i : Nat} {a : Addr} {o : HO} {s s' : Slot} (hs : ρ[i]? = some s) (ho : s.owns = true) (hv : σ[i]? = some (some (.ref a))) (hf : Hf a = none) (h0 : B.H0 a = none) (r : SlotRel K B.H0 Hf (upd H a o) (some (.ref a)) s') : Env K B Hf (upd H a o) σ (ρ.set i s') := by
  refine ⟨⟨E.fz.f, E.fz.h.out h0, E.le.out hf, E.fz.o⟩, ?_, fun j k b h1 h2 => ?_⟩
  · have h1 : Paired (fun x y => SlotRel K B.H0 Hf (upd H a o) x y ∨ (x = some (.ref a) ∧ y = s)) σ ρ := paired_at E.rel fun j x y e1 e2 q => by
      by_cases hj : j = i
      · subst hj; rw [hv] at e1; rw [hs] at e2; cases e1; cases e2; exact .inr ⟨rfl, rfl⟩
      · refine .inl (SlotRel.touch q fun hy hx => hj (E.dis j i a ⟨by rw [e1, hx], y, e2, hy⟩ ⟨hv, s, hs, ho⟩))
    have h2 := paired_at (pset (x := some (V.ref a)) (y := s') (.inl r) i h1) fun j x y e1 e2 q => by
      rcases q with q | ⟨q1, q2⟩
      · exact q
      · subst q1 q2
        by_cases hj : i = j
        · subst hj
          rw [List.getElem?_set] at e2
          simp at e2
          exact e2.2 ▸ r
        · rw [List.getElem?_set_ne hj] at e1 e2
          exact absurd (E.dis j i a ⟨e1, _, e2, ho⟩ ⟨hv, _, hs, ho⟩) (fun z => hj z.symm)
    rw [set_self hv] at h2
    exact h2
  · have hj : ∀ j, ownA σ (ρ.set i s') j b → ownA σ ρ j b := fun j ⟨q1, u, q2, q3⟩ => by
      by_cases e : i = j
      · subst e; exact ⟨q1, s, hs, ho⟩
      · rw [List.getElem?_set_ne e] at q2
        exact ⟨q1, u, q2, q3⟩
    exact E.dis j k b (hj j h1) (hj k h2)
end
def sOwn (i : Nat) (fs : List Ex) : Fs := fun ρ => Rthen (evs fs ρ) ρ fun ds => .nx (ρ.set i (.own ds))
def sOwnD (i : Nat) : Fs := fun ρ => .nx (ρ.set i (.ownD []))
def sOwnT (i : Nat) : Fs := fun ρ => .nx (ρ.set i (.ownT []))
def sApp (i : Nat) (f : Ex) : Fs := fun ρ => match ρ[i]? with
  | some (.own ds) => Rthen (f ρ) ρ fun d => if ds.length < sizeLine then .nx (ρ.set i (.own (ds ++ [d]))) else .bad
  | _ => .bad
def sPut (i : Nat) (k f : Ex) : Fs := fun ρ => match ρ[i]? with
  | some (.ownD es) => Rthen (f ρ) ρ fun d => Rthen (k ρ) ρ fun kd => Rthen (ofO (dkey kd)) ρ fun kk => if es.length < sizeLine then .nx (ρ.set i (.ownD (pt es kk d))) else .bad
  | some (.ownT es) => Rthen (f ρ) ρ fun d => Rthen (k ρ) ρ fun kd => Rthen (ofO (dkeys kd)) ρ fun kk => if es.length < sizeLine then .nx (ρ.set i (.ownT (pt es kk d))) else .bad
  | _ => .bad
def flatD (d : D) : Bool := (toV d).isSome
def ePeek (i : Nat) (f : Ex) : Ex := fun ρ => (f (freeze i ρ)).bind fun d => if flatD d then .ok d else .bad
def tPeek (i : Nat) (f : Ts) : Ts := fun ρ => f (freeze i ρ)
def eIxOwn (i : Nat) (g : Ex) : Ex := fun ρ => match ρ[i]? with
  | some (.own ds) => (g ρ).bind fun y => match y with
    | .int k => ofO (atI ds k)
    | _ => .bad
  | _ => .bad
section
variable {X : Cx} {B : Bs} {e b : Expr} {es : List Expr} {f g : Ex} {fs : List Ex} {tf : Ts} {pos apos cpos spos pos' : Pos} {x : Str}
theorem ds_own (hN : X.N.Nodup) (i : Nat) (ha : DA X B es (evs fs)) (hi : X.N[i]? = some x := by rfl) (hx : Loc X.env.scope x := by first | exact .inl rfl | exact .inr rfl) (hz : decide (fs.length ≤ 1000) = true := by rfl) (hs : swapsWith (.List es pos) (some (.Name x pos')) spos.line X.env = pure false := by rfl)
    (hf : X.fn x = true ∨ X.env.scope.names.lookup x = some .local := by first | exact .inl rfl | exact .inr rfl) : DS X B (.Assign [.Name x pos'] (.List es pos) spos) (sOwn i fs) := psI (ps_set hN hi hx (pe_lst ha) hs hf) fun D σ H ⟨Hf, ρ, E, h⟩ => by
  refine ⟨Hf, ρ, E, ?_⟩
  unfold sOwn at h
  cases h1 : evs fs ρ with
  | ok ds =>
    rw [h1] at h
    intro vs Hf1 H1 x1 r1
    have E1 := E.ext x1
    have z : vs.length ≤ sizeLine := by rw [r1.length, evs_len h1]; exact len_le hz
    refine ⟨z, fun p hp => ?_⟩
    exact h _ Hf1 _ x1.f (E1.setOwn i hp ⟨p, vs, rfl, upd_same, E1.le.free hp, E1.fz.h.free hp, z, r1⟩)
  | err c => rw [h1] at h; exact fun Hf' H' x => h σ Hf' H' x.f (E.ext x)
  | bad => rw [h1] at h; exact h
theorem ds_ownD (hN : X.N.Nodup) (i : Nat) (hi : X.N[i]? = some x := by rfl) (hx : Loc X.env.scope x := by first | exact .inl rfl | exact .inr rfl) (hs : swapsWith (.Dict [] [] pos) (some (.Name x pos')) spos.line X.env = pure false := by rfl)
    (hf : X.fn x = true ∨ X.env.scope.names.lookup x = some .local := by first | exact .inl rfl | exact .inr rfl) : DS X B (.Assign [.Name x pos'] (.Dict [] [] pos) spos) (sOwnD i) := psI (ps_set hN hi hx pe_dnewK hs hf) fun D σ H ⟨Hf, ρ, E, h⟩ => fun p hp =>
  h _ Hf _ (.refl _) (E.setOwn i hp ⟨p, [], rfl, upd_same, E.le.free hp, E.fz.h.free hp, Nat.zero_le _, rfl, .nil⟩)
theorem ds_ownT (hN : X.N.Nodup) (i : Nat) (hi : X.N[i]? = some x := by rfl) (hx : Loc X.env.scope x := by first | exact .inl rfl | exact .inr rfl) (hs : swapsWith (.Dict [] [] pos) (some (.Name x pos')) spos.line X.env = pure false := by rfl)
    (hf : X.fn x = true ∨ X.env.scope.names.lookup x = some .local := by first | exact .inl rfl | exact .inr rfl) : DS X B (.Assign [.Name x pos'] (.Dict [] [] pos) spos) (sOwnT i) := psI (ps_set hN hi hx pe_dnewT hs hf) fun D σ H ⟨Hf, ρ, E, h⟩ => fun p hp =>
  h _ Hf _ (.refl _) (E.setOwn i hp ⟨p, [], rfl, upd_same, E.le.free hp, E.fz.h.free hp, Nat.zero_le _, rfl, .nil⟩)
theorem ds_app (i : Nat) (he : DE X B e f) (hN : X.N[i]? = some x := by rfl) (hv : Vis X.env.scope x := by first | exact Or.inl rfl | exact Or.inr (Or.inl rfl) | exact Or.inr (Or.inr rfl)) (hd : (x == ("__debug__" : Str)) = false := by decide) (hcd : (x == ("__classdict__" : Str)) = false := by decide)
    {npos : Pos} (hb : ∀ t, PE X e t → PE X (.Call (.Attribute (.Name x npos) "append" apos) [e] [] cpos) (tBM X.K "list" rAppend (tVar i) (tCons t tNil)) := by exact fun _ h => pe_bm PySem.F.plainAttrs_list PySem.F.slot_list_append PySem.F.type_list_append mt_append (pv _) (pa_cons h pa_nil))
    (hs : swapsWith (.Call (.Attribute (.Name x npos) "append" apos) [e] [] cpos) none spos.line X.env = pure false := by rfl) : DS X B (.Expr (.Call (.Attribute (.Name x npos) "append" apos) [e] [] cpos) spos) (sApp i f) := psI (ps_expr (hb _ he) hs) fun D σ H ⟨Hf, ρ, E, h⟩ => by
  unfold sApp at h
  split at h
  · rename_i ds hs
    obtain ⟨sv, es, a, xs, rfl, ha, hn, h0, z, r⟩ := E.slot hs
    refine ⟨_, es, .inl ⟨rfl, xs, SqL.of ha⟩, ⟨Hf, ρ, E, rthen_res E h fun v d Hf1 H1 x1 r1 E1 h1 => ?_⟩⟩
    obtain ⟨sv, es1, a1, xs1, e1, ha1, hn1, h01, z1, rr⟩ := E1.slot hs
    rw [es] at es1
    cases es1
    cases e1
    split at h1
    · rename_i hl
      have hl' : xs1.length < sizeLine := by rw [rr.length]; exact hl
      refine ⟨a, xs1, v, rfl, rfl, ha1, hl', ?_⟩
      exact h1 _ Hf1 _ (.refl _) (E1.updOwn hs rfl es hn1 h01 ⟨a, xs1 ++ [v], rfl, upd_same, hn1, h01, by rw [List.length_append]; exact hl', rr.append (.cons r1 .nil)⟩)
    · exact h1.elim
  · exact h.elim
theorem de_peek (i : Nat) (he : DE X B e f) : DE X B e (ePeek i f) := peI he fun σ H Q ⟨Hf, ρ, E, h⟩ => by
  obtain ⟨Hf', l, E'⟩ := E.freeze i
  refine ⟨Hf', _, E', ?_⟩
  unfold ePeek at h
  cases h1 : f (freeze i ρ) with
  | ok d =>
    rw [h1] at h
    simp only [bind_ok] at h
    intro v Hf1 H1 x1 r1
    split at h
    · rename_i hfl
      obtain ⟨u, hu⟩ := Option.isSome_iff_exists.mp hfl
      obtain ⟨rfl, _⟩ := toV_rel r1 hu
      refine h _ Hf H1 ⟨.refl _, x1.h, E.le.trans x1.h, fun _ _ _ n => n⟩ ?_
      cases r1 <;> first | exact .non | exact .bl _ | exact .int _ | exact .str _ | cases hu
    · exact h.elim
  | err c => rw [h1] at h; exact fun Hf1 H1 x1 => h Hf H1 ⟨.refl _, x1.h, E.le.trans x1.h, fun _ _ _ n => n⟩
  | bad => rw [h1] at h; exact h
theorem dt_peek (i : Nat) (he : DT X B e tf) : DT X B e (tPeek i tf) := ptI he fun σ H Q ⟨Hf, ρ, E, h⟩ => by
  obtain ⟨Hf', l, E'⟩ := E.freeze i
  refine ⟨Hf', _, E', ?_⟩
  unfold tPeek at h
  cases h1 : tf (freeze i ρ) with
  | ok d => rw [h1] at h; exact fun v Hf1 H1 x1 r1 => h _ Hf H1 ⟨.refl _, x1.h, E.le.trans x1.h, fun _ _ _ n => n⟩ r1
  | err c => rw [h1] at h; exact fun Hf1 H1 x1 => h Hf H1 ⟨.refl _, x1.h, E.le.trans x1.h, fun _ _ _ n => n⟩
  | bad => rw [h1] at h; exact h
theorem de_ixOwn (i : Nat) (hb : DE X B b g) {npos : Pos} (hN : X.N[i]? = some x := by rfl) (hv : Vis X.env.scope x := by first | exact Or.inl rfl | exact Or.inr (Or.inl rfl) | exact Or.inr (Or.inr rfl)) (hd : (x == ("__debug__" : Str)) = false := by decide) (hcd : (x == ("__classdict__" : Str)) = false := by decide)
    (hs : PlainIx b := by exact fun _ _ => rfl) : DE X B (.Subscript (.Name x npos) b pos) (eIxOwn i g) := peI (pe_ix ix_list (pe_var hN hv hd hcd) hb hs) fun σ H Q ⟨Hf, ρ, E, h⟩ => by
  unfold eIxOwn at h
  split at h
  · rename_i ds hs
    obtain ⟨sv, es, a, xs, rfl, ha, hn, h0, z, r⟩ := E.slot hs
    refine ⟨_, es, tD_then E h fun v d Hf1 H1 x1 r1 E1 h1 => ?_⟩
    split at h1
    · cases r1
      obtain ⟨w, ew, q⟩ := res_ofO h1
      obtain ⟨u, eu, ru⟩ := atI_rel (RelL.mono x1.f r) ew
      exact ⟨a, xs, _, u, rfl, rfl, SqL.of (x1.h.keep ha (fun _ z => nomatch z)), eu, q _ _ _ (.refl E1.le) ru⟩
    · exact h1.elim
  · exact h.elim
theorem ds_put (i : Nat) {k : Ex} {v : Expr} (hu : X.A.units + 65 < cLine) (hk : DE X B b k) (he : DE X B v f) {npos tpos : Pos} (hN : X.N[i]? = some x := by rfl) (hv : Vis X.env.scope x := by first | exact Or.inl rfl | exact Or.inr (Or.inl rfl) | exact Or.inr (Or.inr rfl)) (hd : (x == ("__debug__" : Str)) = false := by decide) (hcd : (x == ("__classdict__" : Str)) = false := by decide)
    (hs : swapsWith v (some (.Subscript (.Name x npos) b tpos)) spos.line X.env = pure false := by rfl) : DS X B (.Assign [.Subscript (.Name x npos) b tpos] v spos) (sPut i k f) := psI (ps_dput (by omega) (pe_var hN hv hd hcd) hk he hs) fun D σ H ⟨Hf, ρ, E, h⟩ => by
  unfold sPut at h
  split at h
  · rename_i ds hs
    refine ⟨Hf, ρ, E, rthen_res E h fun v d Hf1 H1 x1 r1 E1 h1 => ?_⟩
    obtain ⟨sv, es, a, kvs, rfl, ha, hn, h0, z, km, r⟩ := E1.slot hs
    refine ⟨_, es, ⟨Hf1, ρ, E1, rthen_res E1 h1 fun y kd Hf2 H2 x2 r2 E2 h2 => ?_⟩⟩
    cases hkk : dkey kd with
    | none => rw [hkk] at h2; exact h2.elim
    | some kk =>
      rw [hkk] at h2
      have h2 : Sat _ _ _ _ (if ds.length < sizeLine then _ else _) := h2
      split at h2
      · rename_i hl
        have hlen : kvs.length = ds.length := by have := congrArg List.length km; simpa using this
        have hn2 := x2.o a _ ha hn
        have hp := pt_rel km (RelL.mono x2.f r) kk (r1.mono x2.f)
        refine ⟨a, _, rfl, .inl ⟨kvs, kk, x2.h.keep ha (fun _ z => nomatch z), dkey_rel r2 hkk, by rw [hlen]; exact hl, rfl⟩, ?_⟩
        refine h2 _ Hf2 _ (.refl _) (E2.updOwn hs rfl es hn2 h0 ⟨a, _, rfl, upd_same, hn2, h0, ?_, hp.1, hp.2⟩)
        have := length_putK kvs kk v
        omega
      · exact h2.elim
  · rename_i ds hs
    refine ⟨Hf, ρ, E, rthen_res E h fun v d Hf1 H1 x1 r1 E1 h1 => ?_⟩
    obtain ⟨sv, es, a, kvs, rfl, ha, hn, h0, z, km, r⟩ := E1.slot hs
    refine ⟨_, es, ⟨Hf1, ρ, E1, rthen_res E1 h1 fun y kd Hf2 H2 x2 r2 E2 h2 => ?_⟩⟩
    cases hkk : dkeys kd with
    | none => rw [hkk] at h2; exact h2.elim
    | some kk =>
      rw [hkk] at h2
      have h2 : Sat _ _ _ _ (if ds.length < sizeLine then _ else _) := h2
      split at h2
      · rename_i hl
        have hlen : kvs.length = ds.length := by have := congrArg List.length km; simpa using this
        have hn2 := x2.o a _ ha hn
        have hp := pt_rel km (RelL.mono x2.f r) kk (r1.mono x2.f)
        obtain ⟨bb, rfl, hb⟩ := dkeys_rel r2 hkk
        refine ⟨a, _, rfl, .inr ⟨kvs, kk, bb, x2.h.keep ha (fun _ z => nomatch z), rfl, E2.le.keep hb (fun _ z => nomatch z), by rw [hlen]; exact hl, rfl⟩, ?_⟩
        refine h2 _ Hf2 _ (.refl _) (E2.updOwn hs rfl es hn2 h0 ⟨a, _, rfl, upd_same, hn2, h0, ?_, hp.1, hp.2⟩)
        have := length_putK kvs kk v
        omega
      · exact h2.elim
  · exact h.elim
end
/-! ### name += e -/
def sAug (i : Nat) (op : D → D → Option D) (f : Ex) : Fs := fun ρ => match ρ[i]? with
  | some (.val a) => Rthen (f ρ) ρ fun d => Rthen (ofO (op a d)) ρ fun z => .nx (ρ.set i (.val z))
  | _ => .bad
def oAddI : D → D → Option D
  | .int i, .int j => some (.int (i + j))
  | _, _ => none
section
variable {X : Cx} {B : Bs} {e : Expr} {f : Ex} {pos pos' : Pos} {x : Str}
theorem ds_augAdd (hN : X.N.Nodup) (i : Nat) (he : DE X B e f) (hi : X.N[i]? = some x := by rfl) (hx : Loc X.env.scope x := by first | exact .inl rfl | exact .inr rfl) (hf : X.fn x = true ∨ X.env.scope.names.lookup x = some .local := by first | exact .inl rfl | exact .inr rfl) :
    DS X B (.AugAssign (.Name x pos') .Add e pos) (sAug i oAddI f) := psI (ps_aug hN hi hx he ip_add hf) fun D σ H ⟨Hf, ρ, E, h⟩ => by
  unfold sAug at h
  split at h
  · rename_i a hs
    obtain ⟨v, ev, rv⟩ := E.val hs
    refine ⟨v, ev, Hf, ρ, E, rthen_res E h fun u d Hf1 H1 x1 r1 E1 h1 => ?_⟩
    unfold oAddI at h1
    split at h1
    · cases rv; cases r1
      exact ⟨_, _, rfl, rfl, h1 _ Hf1 H1 (.refl _) (E1.set i (.int _))⟩
    · exact h1.elim
  · exact h.elim
end
/-! ### a def by its body -/
def fnD (m : Nat) (F : Fs) (ds : List D) : R D := match F (ds.map Slot.val ++ List.replicate m Slot.none) with
  | .nx _ => .ok .non
  | .rt d => .ok d
  | .er c _ => .err c
  | _ => .bad
theorem rel_start {K : KC} {H0 Hf H : Hp} : ∀ {vs : List V} {ds : List D}, RelL K Hf vs ds → Paired (SlotRel K H0 Hf H) (vs.map some) (ds.map Slot.val)
  | _, _, .nil => .nil
  | _, _, .cons a b => .cons ⟨_, rfl, a⟩ (rel_start b)
theorem rel_nones {K : KC} {H0 Hf H : Hp} : ∀ m : Nat, Paired (SlotRel K H0 Hf H) (List.replicate m Option.none) (List.replicate m Slot.none)
  | 0 => .nil
  | m + 1 => .cons True.intro (rel_nones m)
theorem pappend {α β : Type} {F : α → β → Prop} : ∀ {xs zs : List α} {ys ws : List β}, Paired F xs ys → Paired F zs ws → Paired F (xs ++ zs) (ys ++ ws)
  | _, _, _, _, .nil, s => s
  | _, _, _, _, .cons r t, s => .cons r (pappend t s)
theorem hu65 {A : Around} {k : Nat} (hr : Room k A) : A.units + 65 < cLine := by have := hr.un; omega
section
variable {P : Program} {w : World} {K : PySem.W.Frag} {mg : Str → Option Value} {base : Heap} {c : String → Addr}
theorem fn_mk {x qual : Str} {st : Stmt} {f : Addr} {fd : FuncData} {N ps : List Str} {k n m : Nat} {F : Fs} (Fn : Fun K x qual st f fd) (S : FnScope N ps (defScope st)) (hn : ps.length = n) (hm : N.length = n + m) (hg : mg x = some (.ref f)) (hb : Binds K fd ps [])
    (body : ∀ (cdv : Value) (A : Around) (outer : List PySem.Env) (s : Shared) (H : Hp) (E : XK) (Hf : Hp), Room k (A.deeper (envOfC qual (defScope st) s.heap.objs.size f cdv)) →
      Takes (cxOf (L2.CX P w) P w K mg base N qual (defScope st) f cdv A outer s H E) (bsOf ⟨K, c⟩ Hf H E).W → PassesOwn (model P w) (A.deeper (envOfC qual (defScope st) s.heap.objs.size f cdv)) (envOfC qual (defScope st) s.heap.objs.size f cdv) (cxOf (L2.CX P w) P w K mg base N qual (defScope st) f cdv A outer s H E).xe →
      DSs (cxOf (L2.CX P w) P w K mg base N qual (defScope st) f cdv A outer s H E) (bsOf ⟨K, c⟩ Hf H E) (defBody st) F) : DFn P w K mg base c x (k + 1) n (fnD m F) := by
  refine ⟨f, fd, ps, Fn.okX S (fun vs H Q E h => by rw [h.1, hn]) (fun cdv A outer s H vs Q E hr h => ?_), hg, Fn.kp, hb⟩
  obtain ⟨hl, Hf, ds, le, rl, h⟩ := h
  refine ⟨_, body cdv A outer s H E Hf hr (takes_of rfl rfl rfl rfl) (passes_of rfl), Hf, ds.map Slot.val ++ List.replicate m Slot.none, ⟨.refl le, ?_, ?_⟩, ?_⟩
  · have e : L2.start N vs = vs.map some ++ List.replicate m Option.none := by
      unfold L2.start; rw [hm, hl, Nat.add_sub_cancel_left]
    rw [e]
    exact pappend (rel_start rl) (rel_nones m)
  · intro i j a ⟨_, s1, h1, h2⟩
    rcases List.mem_append.mp (List.mem_of_getElem? h1) with z | z
    · obtain ⟨d, _, rfl⟩ := List.mem_map.mp z; cases h2
    · rw [(List.mem_replicate.mp z).2] at h2; cases h2
  · unfold fnD at h
    cases hF : F (ds.map Slot.val ++ List.replicate m Slot.none) with
    | nx ρ => rw [hF] at h; exact fun σ Hf' H' l E' => h .non Hf' H' E'.fz .non
    | rt d => rw [hF] at h; exact fun v Hf' H' l x r => h v Hf' H' x r
    | er s ρ => rw [hF] at h; exact fun σ Hf' H' l E' => h Hf' H' E'.fz
    | bk ρ => rw [hF] at h; exact h.elim
    | ct ρ => rw [hF] at h; exact h.elim
    | bad => rw [hF] at h; exact h.elim
end
/-! ### anything that is walked: lists, tuples, texts -/
def signs (z : Str) : List D := z.cps.toList.map fun c => D.str ⟨#[c]⟩
def iAny (f : Ex) : Its' := fun ρ => (f ρ).bind fun d => match d with
  | .lst xs => .ok xs
  | .scr xs => .ok xs
  | .tup xs => .ok xs
  | .str z => if z.cps.size ≤ sizeLine then .ok (signs z) else .bad
  | _ => .bad
def tAny (K : PySem.W.Frag) (te : TE) : TI := fun σ H R => te σ H fun x H1 => (∃ a, x = .ref a ∧ (∃ xs, SqL K H1 a xs) ∧ R (Itl K a) H1) ∨ (∃ a, x = .ref a ∧ (∃ xs, SqT K H1 a xs) ∧ R (Itt K a) H1) ∨ ∃ z, x = .str z ∧ R (L2.Its z) H1
theorem pi_any {X : Cx} {tg e : Expr} {te : TE} (he : PE X e te) : PI X tg e (tAny X.K te) := by
  refine ⟨fun pins s σ H R I h => ?_⟩
  refine thn (he.run pins s σ H _ I h) fun v s1 ⟨x, H1, I1, r1, q1⟩ => ?_
  rcases q1 with ⟨a, rfl, ⟨xs, hq⟩, q⟩ | ⟨a, rfl, ⟨xs, hq⟩, q⟩ | ⟨z, rfl, q⟩
  · obtain rfl : v = Value.ref a := r1
    obtain ⟨its, _, pl, _⟩ := I1.list hq
    exact wpAny_pyIter_list pl.isList (pi_one (tk := s1.toks) I1 _ (turn_list a _) ⟨_, Heap.get?_push_size _ rfl, rfl, rfl⟩ q)
  · obtain rfl : v = Value.ref a := r1
    obtain ⟨its, _, pl, _⟩ := I1.tuple hq
    exact wpAny_pyIter_tuple (show s1.heap.IsTuple a its.toArray from pl) (pi_one (tk := s1.toks) I1 _ (turn_tuple a _) ⟨_, Heap.get?_push_size _ rfl, rfl, rfl⟩ q)
  · obtain ⟨t, rfl⟩ := r1
    cases ha : z.cps.all (· < 128)
    · exact wpAny_pyIter_wide ha (pi_one (tk := s1.toks) I1 _ (turn_str _ z t "str_iterator" (.inr rfl)) ⟨_, Heap.get?_push_size _ rfl, rfl, rfl⟩ q)
    · exact wpAny_pyIter_ascii ha (pi_one (tk := s1.toks) I1 _ (turn_str _ z t "str_ascii_iterator" (.inl rfl)) ⟨_, Heap.get?_push_size _ rfl, rfl, rfl⟩ q)
theorem walks_str {K : KC} {z : Str} {Hf : Hp} : Walks K (L2.Its z) Hf (signs z) := fun i Hf1 H1 l1 l2 => by
  have hs : (signs z)[i]? = (z.cps[i]?).map fun c => D.str ⟨#[c]⟩ := by unfold signs; rw [List.getElem?_map, Array.getElem?_toList]
  have hsz : (signs z).length = z.cps.size := by unfold signs; simp
  refine ⟨fun ⟨d, hd⟩ => ?_, fun d hd x H' hy => ?_, fun hn => ?_⟩
  · have := (List.getElem?_eq_some_iff.mp hd).1
    rw [hsz] at this
    exact this
  · obtain ⟨rfl, c, hc, rfl⟩ := hy
    rw [hs, hc] at hd
    cases hd
    exact ⟨Hf1, .refl l2, .str _⟩
  · have := List.getElem?_eq_none_iff.mp hn
    rw [hsz] at this
    exact this
section
variable {X : Cx} {B : Bs} {tg e a b : Expr} {f g : Ex} {pos p : Pos}
theorem di_any (he : DE X B e f) : DI X B tg e (iAny f) := piI (pi_any he) fun σ H R ⟨Hf, ρ, E, h⟩ => by
  refine tD_then E h fun v d Hf1 H1 x1 r1 E1 h1 => ?_
  split at h1
  · cases r1 with
    | lst s z rl => exact .inl ⟨_, rfl, ⟨_, SqL.of (E1.le.keep s (fun _ z => nomatch z))⟩, h1 _ Hf1 H1 (.refl E1.le) ⟨walks_list (fun Hf2 l2 H2 l3 => SqL.of ((l2.trans l3).keep s (fun _ z => nomatch z))) rl, by rw [← rl.length]; exact z⟩⟩
  · cases r1 with
    | scr s z rl => exact .inl ⟨_, rfl, ⟨_, E1.le.seqL s⟩, h1 _ Hf1 H1 (.refl E1.le) ⟨walks_list (fun Hf2 l2 H2 l3 => (l2.trans l3).seqL s) rl, by rw [← rl.length]; exact z⟩⟩
  · cases r1 with
    | tup s z rl => exact .inr (.inl ⟨_, rfl, ⟨_, SqT.of (E1.le.keep s (fun _ z => nomatch z))⟩, h1 _ Hf1 H1 (.refl E1.le) ⟨walks_tup (fun Hf2 l2 H2 l3 => SqT.of ((l2.trans l3).keep s (fun _ z => nomatch z))) rl, by rw [← rl.length]; exact z⟩⟩)
  · split at h1
    · rename_i hz
      cases r1
      exact .inr (.inr ⟨_, rfl, h1 _ Hf1 H1 (.refl E1.le) ⟨walks_str, by unfold signs; simpa using hz⟩⟩)
    · exact h1.elim
  · exact h1.elim
/-- enumerate of a list -/
def enumD (xs : List D) : List D := xs.mapIdx fun i d => D.tup [.int (i : Nat), d]
def iEnumD (f : Ex) : Its' := fun ρ => (f ρ).bind fun d => match d with
  | .lst xs => .ok (enumD xs)
  | .scr xs => .ok (enumD xs)
  | _ => .bad
theorem walks_enum {K : KC} {a : Addr} {xs : List V} {ds : List D} {Hf : Hp} (h : ∀ Hf1, Le Hf Hf1 → ∀ H1, Le Hf1 H1 → SqL K.K H1 a xs) (r : RelL K Hf xs ds) : Walks K (Ite K.K a) Hf (enumD ds) := fun i Hf1 H1 l1 l2 => by
  have s := h Hf1 l1 H1 l2
  have he : (enumD ds)[i]? = (ds[i]?).map fun d => D.tup [.int (i : Nat), d] := by unfold enumD; rw [List.getElem?_mapIdx]
  have hlen : (enumD ds).length = ds.length := by unfold enumD; simp
  refine ⟨fun ⟨d, hd⟩ => ?_, fun d hd x H' hy => ?_, fun hn => ⟨xs, s, ?_⟩⟩
  · rw [he] at hd
    obtain ⟨e, e1, rfl⟩ := Option.map_eq_some_iff.mp hd
    obtain ⟨x, e, _⟩ := r.get e1
    exact ⟨xs, x, s, e⟩
  · obtain ⟨T, y, rfl, hT, rfl, hx⟩ := hy
    rw [he] at hd
    obtain ⟨e, e1, rfl⟩ := Option.map_eq_some_iff.mp hd
    obtain ⟨z, e2, q⟩ := r.get e1
    have e3 := (hx xs s).symm.trans e2
    cases e3
    refine ⟨upd Hf1 T (.tup [.int (i : Nat), y]), .new l2 hT, .tup upd_same (by show 2 ≤ sizeLine; decide) ?_⟩
    exact .cons (.int _) (.cons (Rel.mono (l1.trans (.new (l2.free hT))) q) .nil)
  · rw [r.length, ← hlen]; exact List.getElem?_eq_none_iff.mp hn
theorem di_enum {elts : List Expr} {kk : Nat} {tpos : Pos} (hm : X.mg "enumerate" = none) (he : DE X B a f) (hg : Gl X "enumerate" := by rfl) (hs : starEach [a] X.env = [(false, eval a X.env)] := by rfl) : DI X B (.Tuple elts kk tpos) (.Call (.Name "enumerate" p) [a] [] pos) (iEnumD f) :=
  piI (pi_enum hg hm (da_cons he da_nil hs) hs) fun σ H R ⟨Hf, ρ, E, h⟩ => by
  refine ⟨Hf, ρ, E, ?_⟩
  show Res B (RelL (kc X B)) Hf H σ ((f ρ).bind fun d => (evs [] ρ).bind fun ds => .ok (d :: ds)) _
  unfold iEnumD at h
  cases h1 : f ρ with
  | ok d =>
    rw [h1] at h
    intro vs Hf1 H1 x1 rl
    obtain ⟨v, rfl, r1⟩ := relL1 rl
    have h2 := Res.ext h x1
    simp only [bind_ok] at h2
    have hlen : ∀ xs : List D, (enumD xs).length = xs.length := fun xs => by unfold enumD; simp
    split at h2
    · cases r1 with
      | lst s z rl => exact ⟨_, _, rfl, SqL.of (x1.i.keep s (fun _ z => nomatch z)), h2 _ Hf1 H1 (.refl x1.i) ⟨walks_enum (fun Hf2 l2 H2 l3 => SqL.of ((l2.trans l3).keep s (fun _ z => nomatch z))) rl, by rw [hlen, ← rl.length]; exact z⟩⟩
    · cases r1 with
      | scr s z rl => exact ⟨_, _, rfl, x1.i.seqL s, h2 _ Hf1 H1 (.refl x1.i) ⟨walks_enum (fun Hf2 l2 H2 l3 => (l2.trans l3).seqL s) rl, by rw [hlen, ← rl.length]; exact z⟩⟩
    · exact h2.elim
  | err c => rw [h1] at h; exact h
  | bad => rw [h1] at h; exact h
end
/-! ### where a def stands -/
structure DefAt (K : PySem.W.Frag) (mg : Str → Option Value) (x : Str) (st : Stmt) (ps : List Str) : Prop where
  ex : ∃ f fd, Fun K x x st f fd ∧ mg x = some (.ref f) ∧ Binds K fd ps []
theorem fn_at {P : Program} {w : World} {K : PySem.W.Frag} {mg : Str → Option Value} {base : Heap} {c : String → Addr} {x : Str} {st : Stmt} {N ps : List Str} {k n m : Nat} {F : Fs} (A : DefAt K mg x st ps) (S : FnScope N ps (defScope st)) (hn : ps.length = n) (hm : N.length = n + m)
    (body : ∀ (f : Addr) (cdv : Value) (A : Around) (outer : List PySem.Env) (s : Shared) (H : Hp) (E : XK) (Hf : Hp), Room k (A.deeper (envOfC x (defScope st) s.heap.objs.size f cdv)) →
      Takes (cxOf (L2.CX P w) P w K mg base N x (defScope st) f cdv A outer s H E) (bsOf ⟨K, c⟩ Hf H E).W → PassesOwn (model P w) (A.deeper (envOfC x (defScope st) s.heap.objs.size f cdv)) (envOfC x (defScope st) s.heap.objs.size f cdv) (cxOf (L2.CX P w) P w K mg base N x (defScope st) f cdv A outer s H E).xe →
      DSs (cxOf (L2.CX P w) P w K mg base N x (defScope st) f cdv A outer s H E) (bsOf ⟨K, c⟩ Hf H E) (defBody st) F) : DFn P w K mg base c x (k + 1) n (fnD m F) := by
  obtain ⟨f, fd, Fn, hg, hb⟩ := A.ex
  exact fn_mk Fn S hn hm hg hb (body f)
theorem defAt_mk {K : PySem.W.Frag} {mg : Str → Option Value} {x : Str} {st : Stmt} {f : Addr} {oc : Value} {od an : Option Addr} {osl : Array (Option Value)} {kV doc pm cdv ct : Value} {ps : List Str} (hg : mg x = some (.ref f))
    (l : K.lookup f = some ⟨oc, od, .func (PySem.W.fnOf x x (defArgs st) (defBody st) (defScope st) .none kV doc pm an cdv ct), osl⟩) (c : PySem.W.codeIn K cdv x = true) (k : PySem.W.keepIn K (.ref f) = true)
    (h : ∀ (kV doc pm : Value) (an : Option Addr) (cdv ct : Value) (us : List Value), us.length = ps.length → bindArgs (PySem.W.fnOf x x (defArgs st) (defBody st) (defScope st) .none kV doc pm an cdv ct) ⟨us, []⟩ = pure (ps.zip us)) : DefAt K mg x st ps :=
  have F := fun_mk (st := st) l c k
  ⟨f, _, F, hg, F.binds h⟩
/-- the law's promise -/
def spLaw (K : PySem.W.Frag) : Sp := fun vs H Q _ => ∃ (a : Addr) (ns : List Int), vs = [.ref a] ∧ SqL K H a (ns.map V.int) ∧ ns.length ≤ 63 ∧ ∀ H', Q (.bl true) H'
theorem cx_no {P : Program} {w : World} {outer : List PySem.Env} {H : Hp} {s : Shared} {e : Value} {s' : Shared} (h : L2.CX P w outer H s (fun _ _ _ => False) e s') : False := by
  obtain ⟨_, _, _, _, _, _, _, _, _, _, _, _, z⟩ := h
  exact z
section
variable {P : Program} {w : World} {K : PySem.W.Frag} {mg : Str → Option Value} {base : Heap} {c : String → Addr}
/-- as fn_at, the function kept -/
theorem fn_keep {x qual : Str} {st : Stmt} {f : Addr} {fd : FuncData} {N ps : List Str} {k n m : Nat} {F : Fs} (Fn : Fun K x qual st f fd) (S : FnScope N ps (defScope st)) (hn : ps.length = n) (hm : N.length = n + m)
    (body : ∀ (cdv : Value) (A : Around) (outer : List PySem.Env) (s : Shared) (H : Hp) (E : XK) (Hf : Hp), Room k (A.deeper (envOfC qual (defScope st) s.heap.objs.size f cdv)) →
      Takes (cxOf (L2.CX P w) P w K mg base N qual (defScope st) f cdv A outer s H E) (bsOf ⟨K, c⟩ Hf H E).W → PassesOwn (model P w) (A.deeper (envOfC qual (defScope st) s.heap.objs.size f cdv)) (envOfC qual (defScope st) s.heap.objs.size f cdv) (cxOf (L2.CX P w) P w K mg base N qual (defScope st) f cdv A outer s H E).xe →
      DSs (cxOf (L2.CX P w) P w K mg base N qual (defScope st) f cdv A outer s H E) (bsOf ⟨K, c⟩ Hf H E) (defBody st) F) : FnOk P w K mg base (L2.CX P w) (k + 1) f fd ps (spD ⟨K, c⟩ n (fnD m F)) := by
  refine Fn.okX S (fun vs H Q E h => by rw [h.1, hn]) (fun cdv A outer s H vs Q E hr h => ?_)
  obtain ⟨hl, Hf, ds, le, rl, h⟩ := h
  refine ⟨_, body cdv A outer s H E Hf hr (takes_of rfl rfl rfl rfl) (passes_of rfl), Hf, ds.map Slot.val ++ List.replicate m Slot.none, ⟨.refl le, ?_, ?_⟩, ?_⟩
  · have e : L2.start N vs = vs.map some ++ List.replicate m Option.none := by
      unfold L2.start; rw [hm, hl, Nat.add_sub_cancel_left]
    rw [e]
    exact pappend (rel_start rl) (rel_nones m)
  · intro i j a ⟨_, s1, h1, h2⟩
    rcases List.mem_append.mp (List.mem_of_getElem? h1) with z | z
    · obtain ⟨d, _, rfl⟩ := List.mem_map.mp z; cases h2
    · rw [(List.mem_replicate.mp z).2] at h2; cases h2
  · unfold fnD at h
    cases hF : F (ds.map Slot.val ++ List.replicate m Slot.none) with
    | nx ρ => rw [hF] at h; exact fun σ Hf' H' l E' => h .non Hf' H' E'.fz .non
    | rt d => rw [hF] at h; exact fun v Hf' H' l x r => h v Hf' H' x r
    | er s ρ => rw [hF] at h; exact fun σ Hf' H' l E' => h Hf' H' E'.fz
    | bk ρ => rw [hF] at h; exact h.elim
    | ct ρ => rw [hF] at h; exact h.elim
    | bad => rw [hF] at h; exact h.elim
/-- from the function on data to the law's promise -/
theorem law_ok {f : Addr} {fd : FuncData} {ps : List Str} {k : Nat} {F : List D → R D} (h : FnOk P w K mg base (L2.CX P w) k f fd ps (spD ⟨K, c⟩ 1 F)) (hF : ∀ ns : List Int, ns.length ≤ 63 → F [.scr (ns.map D.int)] = .ok (.bl true)) : FnOk P w K mg base (L2.CX P w) k f fd ps (spLaw K) :=
  h.imp fun vs H Q E ⟨a, ns, ev, hS, hl, q⟩ => by
    subst ev
    have z : (ns.map V.int).length ≤ sizeLine := by rw [List.length_map]; exact Nat.le_of_lt (small1000 (Nat.le_trans hl (by decide)))
    refine ⟨rfl, H, [.scr (ns.map D.int)], .refl _, .cons (.scr hS z (.ints ns)) .nil, ?_⟩
    rw [hF ns hl]
    exact fun v Hf' H' x r => by cases r; exact q H'
end
/-! ### order of nested data -/
def ordD (d e : D) : Option (PyData × PyData) := (toPy d).bind fun p => (toPy e).bind fun q => if SeqAt.shaped p && SeqAt.shaped q && PySem.W.alike p q && !isNon d then some (p, q) else none
def oLtA (d e : D) : Option D := (ordD d e).map fun z => .bl (PySem.W.dataLt z.1 z.2)
def oGtA (d e : D) : Option D := (ordD d e).map fun z => .bl (PySem.W.dataLt z.2 z.1)
theorem ordD_some {d e : D} {p q : PyData} (h : ordD d e = some (p, q)) : toPy d = some p ∧ toPy e = some q ∧ SeqAt.shaped p = true ∧ SeqAt.shaped q = true ∧ PySem.W.alike p q = true ∧ p ≠ .none := by
  obtain ⟨p', e1, h⟩ := Option.bind_eq_some_iff.mp h
  obtain ⟨q', e2, h⟩ := Option.bind_eq_some_iff.mp h
  split at h
  · rename_i hc
    cases h
    simp only [Bool.and_eq_true, Bool.not_eq_true'] at hc
    refine ⟨e1, e2, hc.1.1.1, hc.1.1.2, hc.1.2, fun z => ?_⟩
    subst z
    cases d with
    | non => cases hc.2
    | lst xs => obtain ⟨_, _, z⟩ := Option.map_eq_some_iff.mp (show (toPyL xs).map _ = _ from e1); cases z
    | scr xs => obtain ⟨_, _, z⟩ := Option.map_eq_some_iff.mp (show (toPyL xs).map _ = _ from e1); cases z
    | tup xs => obtain ⟨_, _, z⟩ := Option.map_eq_some_iff.mp (show (toPyL xs).map _ = _ from e1); cases z
    | _ => cases e1
  · cases h
section
variable {X : Cx} {c : String → Addr}
theorem room_sh {p q : PyData} {u : Nat} (h : SeqAt.shaped p = true) (hu : u + 65 < cLine) : u + min p.depth q.depth < cLine := by
  have := SeqAt.depth_of_shaped h
  omega
theorem do_ltA (hu : X.A.units + 65 < cLine) : OpR X (compareOp .Lt) (rD ⟨X.K, c⟩ oLtA) := fun pins s σ H x y v u Q I rx ry ⟨Hf, d, e, r, l, r1, r2, ho, q⟩ => by
  obtain ⟨⟨p, p2⟩, h, rfl⟩ := Option.map_eq_some_iff.mp ho
  obtain ⟨e1, e2, s1, s2, al, hn⟩ := ordD_some h
  obtain ⟨as, t1⟩ := Dp.reads I p x v (rel_dp l r1 p e1) rx
  obtain ⟨bs, t2⟩ := Dp.reads I p2 y u (rel_dp l r2 p2 e2) ry
  exact PySem.W.lt_data t1 t2 al hn (room_sh s1 hu) ⟨.bl _, H, I, rfl, q _ _ _ (.refl l) (.bl _)⟩
theorem do_gtA (hu : X.A.units + 65 < cLine) : OpR X (compareOp .Gt) (rD ⟨X.K, c⟩ oGtA) := fun pins s σ H x y v u Q I rx ry ⟨Hf, d, e, r, l, r1, r2, ho, q⟩ => by
  obtain ⟨⟨p, p2⟩, h, rfl⟩ := Option.map_eq_some_iff.mp ho
  obtain ⟨e1, e2, s1, s2, al, hn⟩ := ordD_some h
  obtain ⟨as, t1⟩ := Dp.reads I p x v (rel_dp l r1 p e1) rx
  obtain ⟨bs, t2⟩ := Dp.reads I p2 y u (rel_dp l r2 p2 e2) ry
  exact PySem.W.gt_data t1 t2 al hn (room_sh s1 hu) ⟨.bl _, H, I, rfl, q _ _ _ (.refl l) (.bl _)⟩
end
/-! ### built-in types' methods -/
def tyD (T : String) : D → Bool
  | .lst _ => T == "list"
  | .str _ => T == "str"
  | .dic _ => T == "dict"
  | .dit _ => T == "dict"
  | _ => false
def eMt (T : String) (op : D → List D → Option D) (f : Ex) (fs : List Ex) : Ex := fun ρ => (f ρ).bind fun d => if tyD T d = true then (evs fs ρ).bind fun ds => ofO (op d ds) else .bad
def rM (K : KC) (op : D → List D → Option D) : V → List V → Hp → VK → Prop := fun x xs H Q => ∃ Hf d ds r, Le Hf H ∧ Rel K Hf x d ∧ RelL K Hf xs ds ∧ op d ds = some r ∧ ∀ v Hf' H', Ext Hf H Hf' H' → Rel K Hf' v r → Q v H'
section
variable {X : Cx} {B : Bs} {c : String → Addr} {o e : Expr} {es : List Expr} {f : Ex} {fs : List Ex} {cpos apos : Pos} {name : Str} {id T : String} {op : D → List D → Option D}
theorem tyD_v {K : KC} {Hf H : Hp} {x : V} {d : D} (l : Le Hf H) (r : Rel K Hf x d) (h : tyD T d = true) : tyV K.K T x H := by
  cases r with
  | lst s _ _ => exact .inl ⟨eq_of_beq h, _, SqL.of (l.keep s (fun _ z => nomatch z))⟩
  | str s => exact eq_of_beq h
  | dic s _ _ _ => exact .inr (.inr (.inl ⟨eq_of_beq h, .inl ⟨_, l.keep s (fun _ z => nomatch z)⟩⟩))
  | dit s _ _ _ => exact .inr (.inr (.inl ⟨eq_of_beq h, .inr ⟨_, l.keep s (fun _ z => nomatch z)⟩⟩))
  | _ => cases h
theorem tBM_of {σ : L2.St} {H : Hp} {Q : VK} (h : tD (kc X B) B (eMt T op f fs) σ H Q) : tBM X.K T (rM (kc X B) op) (tD (kc X B) B f) (tDs (kc X B) B (evs fs)) σ H Q := by
  obtain ⟨Hf, ρ, E, h⟩ := h
  refine tD_then E h fun v d Hf1 H1 x1 r1 E1 h1 => ?_
  split at h1
  · rename_i hT
    refine ⟨tyD_v (K := kc X B) E1.le r1 hT, tDs_then E1 h1 fun vs ds Hf2 H2 x2 r2 E2 h2 => ?_⟩
    obtain ⟨z, ez, q⟩ := res_ofO h2
    exact ⟨Hf2, d, ds, z, E2.le, r1.mono x2.f, r2, ez, q⟩
  · exact h1.elim
theorem tBM0_of {σ : L2.St} {H : Hp} {Q : VK} (h : tD (kc X B) B (eMt T op f []) σ H Q) : tBM0 X.K T (rM (kc X B) op) (tD (kc X B) B f) σ H Q := by
  obtain ⟨Hf, ρ, E, h⟩ := h
  refine tD_then E h fun v d Hf1 H1 x1 r1 E1 h1 => ?_
  split at h1
  · rename_i hT
    have h2 : Res B (Rel (kc X B)) Hf1 H1 σ (ofO (op d [])) Q := h1
    obtain ⟨z, ez, q⟩ := res_ofO h2
    exact ⟨tyD_v (K := kc X B) E1.le r1 hT, Hf1, d, [], z, E1.le, r1, .nil, ez, q⟩
  · exact h1.elim
theorem de_bm (pa : PlainAttrs T) (slot : PySem.Slot T name id) (hty : typeOf (.builtin id) = pure (.type "method_descriptor")) (hm : MtR X id (rM (kc X B) op)) (ho : DE X B o f) (ha : DA X B (e :: es) (evs fs))
    (hbase : attributeBase o name X.env (eval o X.env) = eval o X.env := by rfl)
    (hfew : ((backTo cpos (starEach (e :: es) X.env)).all (fun x => !x.1) && (backToKw cpos (keywordEach [] X.env)).all (fun x => x.1.isSome)
      && decide ((e :: es).length + ([] : List Keyword).length + (if ([] : List Keyword).isEmpty then 0 else 1) < 30)) = true := by rfl)
    (hline : (apos.endLine == cpos.line) = true := by rfl) (hs : starEach (e :: es) X.env = (false, eval e X.env) :: starEach es X.env := by rfl) (hplain : (backTo cpos (starEach es X.env)).any (·.1) = false := by rfl) :
    DE X B (.Call (.Attribute o name apos) (e :: es) [] cpos) (eMt T op f fs) :=
  peI (pe_bm pa slot hty hm ho ha hbase hfew hline hs hplain) fun _ _ _ h => tBM_of h
theorem de_bm0 (pa : PlainAttrs T) (slot : PySem.Slot T name id) (hty : typeOf (.builtin id) = pure (.type "method_descriptor")) (hm : MtR X id (rM (kc X B) op)) (ho : DE X B o f)
    (hbase : attributeBase o name X.env (eval o X.env) = eval o X.env := by rfl) (hline : (apos.endLine == cpos.line) = true := by rfl) : DE X B (.Call (.Attribute o name apos) [] [] cpos) (eMt T op f []) :=
  peI (pe_bm0 pa slot hty hm ho hbase hline) fun _ _ _ h => tBM0_of h
end
theorem mtI {X : Cx} {id : String} {r r' : V → List V → Hp → VK → Prop} (h : MtR X id r) (i : ∀ x xs H Q, r' x xs H Q → r x xs H Q) : MtR X id r' := fun pins s σ H x xs v us Q I rx ru q => h pins s σ H x xs v us Q I rx ru (i x xs H Q q)
/-! ### l.index(x) -/
def firstAt (ps : List PyData) (q : PyData) : Option Nat := ps.findIdx? fun p => PyData.eqv p q
def oIndex (d : D) (ds : List D) : Option D := match d, ds with
  | .lst xs, [e] => (toPyL xs).bind fun ps => (toPy e).bind fun q => if SeqAt.shaped (.list ps) && SeqAt.shaped q then (firstAt ps q).map fun j => .int (j : Nat) else none
  | _, _ => none
theorem dm_index {X : Cx} {c : String → Addr} (hu : X.A.units + 65 < cLine) : MtR X "list.index" (rM ⟨X.K, c⟩ oIndex) := mtI (mt_indexD hu) fun x xs H Q ⟨Hf, d, ds, r, l, r1, r2, ho, q⟩ => by
  unfold oIndex at ho
  split at ho
  · rename_i xs' e
    obtain ⟨ps, e1, ho⟩ := Option.bind_eq_some_iff.mp ho
    obtain ⟨q1, e2, ho⟩ := Option.bind_eq_some_iff.mp ho
    split at ho
    · rename_i hc
      rw [Bool.and_eq_true] at hc
      obtain ⟨j, hj, rfl⟩ := Option.map_eq_some_iff.mp ho
      obtain ⟨y, rfl, ry⟩ := relL1 r2
      have d1 := rel_dp l r1 (.list ps) (by show (toPyL xs').map _ = _; rw [e1]; rfl)
      have d2 := rel_dp l ry q1 e2
      obtain ⟨hlt, h1, h2⟩ := List.findIdx?_eq_some_iff_getElem.mp hj
      cases r1 with
      | lst s _ _ =>
        exact ⟨_, y, q1, ps, j, ps[j], rfl, rfl, d1, d2, hc.1, hc.2, List.getElem?_eq_getElem hlt, h1, fun m z' hm hz => by
          have hml : m < ps.length := Nat.lt_trans hm hlt
          rw [List.getElem?_eq_getElem hml] at hz
          cases hz
          have := h2 m hm
          simpa using this, q _ _ _ (.refl l) (.int _)⟩
    · cases ho
  · cases ho
/-! ### turns of loops and comprehensions over typed items -/
theorem forD_rel {α : Type} {g : Tg} {F : Fs} (enc : α → D) (as : List α) (Pv : List α → Rho → Prop) {ρ : Rho} (h0 : Pv [] ρ)
    (hs : ∀ pre a post ρ, as = pre ++ a :: post → Pv pre ρ → ∃ ρ1, g (enc a) ρ = some ρ1 ∧ ∃ ρ2, (F ρ1 = .nx ρ2 ∨ F ρ1 = .ct ρ2) ∧ Pv (pre ++ [a]) ρ2) :
    ∃ ρ', forD g F (as.map enc) ρ = .nx ρ' ∧ Pv as ρ' := by
  have key : ∀ (post pre : List α) (ρ : Rho), as = pre ++ post → Pv pre ρ → ∃ ρ', forD g F (post.map enc) ρ = .nx ρ' ∧ Pv as ρ' := by
    intro post
    induction post with
    | nil => intro pre ρ e h; exact ⟨ρ, rfl, by rw [e, List.append_nil]; exact h⟩
    | cons a post ih =>
      intro pre ρ e h
      obtain ⟨ρ1, h1, ρ2, h2, h3⟩ := hs pre a post ρ e h
      obtain ⟨ρ', h4, h5⟩ := ih (pre ++ [a]) ρ2 (by rw [e]; simp) h3
      refine ⟨ρ', ?_, h5⟩
      rw [List.map_cons]
      unfold forD
      rw [h1]
      rcases h2 with h2 | h2 <;> simp only [h2] <;> exact h4
  exact key as [] ρ rfl h0
theorem forD_out {α : Type} {g : Tg} {F : Fs} {enc : α → D} {as : List α} {ρ : Rho} {o : Out} (hf : forD g F (as.map enc) ρ = o) (Pv : List α → Rho → Prop) (h0 : Pv [] ρ)
    (hs : ∀ pre a post ρ, as = pre ++ a :: post → Pv pre ρ → ∃ ρ1, g (enc a) ρ = some ρ1 ∧ ∃ ρ2, (F ρ1 = .nx ρ2 ∨ F ρ1 = .ct ρ2) ∧ Pv (pre ++ [a]) ρ2) : ∃ ρ', o = .nx ρ' ∧ Pv as ρ' := by
  obtain ⟨ρ', h1, h2⟩ := forD_rel enc as Pv h0 hs
  exact ⟨ρ', hf.symm.trans h1, h2⟩
theorem forD_some {α : Type} {g : Tg} {F : Fs} (enc : α → D) (as : List α) (Pv : List α → Rho → Prop) {Pw : Rho → Prop} {ρ : Rho} (h0 : Pv [] ρ)
    (hs : ∀ pre a post ρ, as = pre ++ a :: post → Pv pre ρ → ∃ ρ1, g (enc a) ρ = some ρ1 ∧ ∃ ρ2, (F ρ1 = .nx ρ2 ∨ F ρ1 = .ct ρ2) ∧ Pv (pre ++ [a]) ρ2) (hw : ∀ ρ', Pv as ρ' → Pw ρ') :
    ∃ ρ2, forD g F (as.map enc) ρ = .nx ρ2 ∧ Pw ρ2 := by
  obtain ⟨ρ', h1, h2⟩ := forD_rel enc as Pv h0 hs
  exact ⟨ρ', h1, hw ρ' h2⟩
theorem forD_turn {α : Type} {g : Tg} {F : Fs} (enc : α → D) (as : List α) (Pv : List α → Rho → Prop) {Pw : Rho → Prop} {ρ : Rho} (h0 : Pv [] ρ)
    (hs : ∀ pre a post ρ, as = pre ++ a :: post → Pv pre ρ → ∃ ρ1, g (enc a) ρ = some ρ1 ∧ ∃ ρ2, (F ρ1 = .nx ρ2 ∨ F ρ1 = .ct ρ2) ∧ Pv (pre ++ [a]) ρ2) (hw : ∀ ρ', Pv as ρ' → Pw ρ') :
    ∃ ρ2, (forD g F (as.map enc) ρ = .nx ρ2 ∨ forD g F (as.map enc) ρ = .ct ρ2) ∧ Pw ρ2 := by
  obtain ⟨ρ', h1, h2⟩ := forD_rel enc as Pv h0 hs
  exact ⟨ρ', .inl h1, hw ρ' h2⟩
/-- a loop that leaves at the first item of which q holds -/
theorem forD_find {α : Type} {g : Tg} {F : Fs} (enc : α → D) (as : List α) (q : α → Bool) (r : α → D) (Pv : Rho → Prop) {ρ : Rho} (h0 : Pv ρ)
    (hs : ∀ a ρ, a ∈ as → Pv ρ → ∃ ρ1, g (enc a) ρ = some ρ1 ∧ if q a then F ρ1 = .rt (r a) else ∃ ρ2, (F ρ1 = .nx ρ2 ∨ F ρ1 = .ct ρ2) ∧ Pv ρ2) :
    (∃ a, as.find? q = some a ∧ forD g F (as.map enc) ρ = .rt (r a)) ∨ (as.find? q = none ∧ ∃ ρ', forD g F (as.map enc) ρ = .nx ρ' ∧ Pv ρ') := by
  induction as generalizing ρ with
  | nil => exact .inr ⟨rfl, ρ, rfl, h0⟩
  | cons a as ih =>
    obtain ⟨ρ1, h1, h2⟩ := hs a ρ List.mem_cons_self h0
    rw [List.map_cons]
    unfold forD
    rw [h1]
    cases hq : q a with
    | true =>
      rw [hq] at h2
      simp only [if_true] at h2
      exact .inl ⟨a, by rw [List.find?_cons, hq], by simp only [h2]⟩
    | false =>
      rw [hq] at h2
      obtain ⟨ρ2, h3, h4⟩ := h2
      rw [List.find?_cons, hq]
      rcases h3 with h3 | h3 <;> simp only [h3] <;> exact ih h4 fun b ρ hb => hs b ρ (List.mem_cons_of_mem _ hb)
theorem lcD_filter {α : Type} {g : Tg} {c : Ts} {e : Ex} {ρ : Rho} (enc : α → D) (p : α → Bool) (f : α → D) : ∀ as : List α, (∀ a ∈ as, ∃ ρ1, g (enc a) ρ = some ρ1 ∧ c ρ1 = .ok (p a) ∧ (p a = true → e ρ1 = .ok (f a))) → lcD g c e ρ (as.map enc) = .ok ((as.filter p).map f)
  | [], _ => rfl
  | a :: as, h => by
    obtain ⟨ρ1, h1, h2, h3⟩ := h a List.mem_cons_self
    have ih := lcD_filter enc p f as fun b hb => h b (List.mem_cons_of_mem _ hb)
    rw [List.map_cons]
    unfold lcD
    rw [h1]
    simp only [h2, bind_ok]
    cases hp : p a with
    | true => simp only [if_true, h3 hp, bind_ok, ih, List.filter_cons_of_pos hp, List.map_cons]
    | false => rw [List.filter_cons_of_neg (by simp [hp])]; simpa using ih
theorem lcD_map {α : Type} {g : Tg} {c : Ts} {e : Ex} {ρ : Rho} (enc : α → D) (f : α → D) (as : List α) (h : ∀ a ∈ as, ∃ ρ1, g (enc a) ρ = some ρ1 ∧ c ρ1 = .ok true ∧ e ρ1 = .ok (f a)) : lcD g c e ρ (as.map enc) = .ok (as.map f) := by
  have := lcD_filter (c := c) enc (fun _ => true) f as fun a ha => by obtain ⟨ρ1, a1, a2, a3⟩ := h a ha; exact ⟨ρ1, a1, a2, fun _ => a3⟩
  rw [this, List.filter_eq_self.mpr (fun _ _ => rfl)]
theorem dcD_fold {α : Type} {g : Tg} {c : Ts} {k e : Ex} {ρ : Rho} (enc : α → D) (kf : α → Key) (f : α → D) : ∀ (as : List α) (acc : List (Key × D)), (∀ a ∈ as, ∃ ρ1 kd, g (enc a) ρ = some ρ1 ∧ c ρ1 = .ok true ∧ k ρ1 = .ok kd ∧ dkey kd = some (kf a) ∧ e ρ1 = .ok (f a)) →
    dcD g c k e ρ acc (as.map enc) = .ok (as.foldl (fun acc a => pt acc (kf a) (f a)) acc)
  | [], acc, _ => rfl
  | a :: as, acc, h => by
    obtain ⟨ρ1, kd, h1, h2, h3, h4, h5⟩ := h a List.mem_cons_self
    rw [List.map_cons]
    unfold dcD
    rw [h1]
    simp only [h2, bind_ok, if_true, h3, h4, h5, ofO]
    rw [dcD_fold enc kf f as _ fun b hb => h b (List.mem_cons_of_mem _ hb)]
    rfl

/-! ### statement by statement -/
theorem seq_step {F G : Fs} {ρ ρ1 : Rho} {o : Out} (h : F ρ = .nx ρ1) (k : G ρ1 = o) : sSeq F G ρ = o := by unfold sSeq; rw [h]; exact k
theorem seq_some {F G : Fs} {ρ : Rho} {o : Out} (Pv : Rho → Prop) (h : ∃ ρ1, F ρ = .nx ρ1 ∧ Pv ρ1) (k : ∀ ρ1, Pv ρ1 → G ρ1 = o) : sSeq F G ρ = o := by
  obtain ⟨ρ1, h1, h2⟩ := h
  exact seq_step h1 (k ρ1 h2)
theorem seq_rt {F G : Fs} {ρ : Rho} {d : D} (h : F ρ = .rt d) : sSeq F G ρ = .rt d := by unfold sSeq; rw [h]
theorem fn_rt {m : Nat} {F : Fs} {ds : List D} {d : D} (h : F (ds.map Slot.val ++ List.replicate m Slot.none) = .rt d) : fnD m F ds = .ok d := by unfold fnD; rw [h]
theorem fn_nx {m : Nat} {F : Fs} {ds : List D} {ρ : Rho} (h : F (ds.map Slot.val ++ List.replicate m Slot.none) = .nx ρ) : fnD m F ds = .ok .non := by unfold fnD; rw [h]
/-! ### equality of data -/
structure EqE {α : Type} [DecidableEq α] (enc : α → D) (ok : α → Prop) (n : Nat) : Prop where
  h : ∃ py : α → PyData, (∀ a, toPy (enc a) = some (py a)) ∧ (∀ a, ok a → (py a).canLay0 = true) ∧ (∀ a, (py a).depth ≤ n) ∧ ∀ a b, PyData.eqv (py a) (py b) = decide (a = b)
theorem EqE.int : EqE D.int (fun _ => True) 0 := ⟨PyData.int, fun _ => rfl, fun _ _ => rfl, fun _ => Nat.le_refl _, fun a b => by simp only [PyData.eqv]; exact Bool.beq_eq_decide_eq _ _⟩
theorem EqE.str : EqE D.str (fun x => PyData.strOk x = true) 0 := ⟨PyData.str, fun _ => rfl, fun _ h => by simpa only [PyData.canLay0] using h, fun _ => Nat.le_refl _, fun a b => by simp only [PyData.eqv]; exact Bool.beq_eq_decide_eq _ _⟩
theorem EqE.bl : EqE D.bl (fun _ => True) 0 := ⟨PyData.bool, fun _ => rfl, fun _ _ => rfl, fun _ => Nat.le_refl _, fun a b => by simp only [PyData.eqv]; exact Bool.beq_eq_decide_eq _ _⟩
section
variable {α β : Type} [DecidableEq α] [DecidableEq β] {enc : α → D} {ok : α → Prop} {n m : Nat}
theorem toPyL_map {py : α → PyData} (h : ∀ a, toPy (enc a) = some (py a)) : ∀ l : List α, toPyL (l.map enc) = some (l.map py)
  | [] => rfl
  | a :: l => by simp only [List.map_cons, toPyL, h a, toPyL_map h l]; rfl
theorem canLayAll_map {py : α → PyData} : ∀ l : List α, (∀ a ∈ l, (py a).canLay0 = true) → PyData.canLayAll0 (l.map py) = true
  | [], _ => rfl
  | a :: l, h => by simp only [List.map_cons, PyData.canLayAll0, h a List.mem_cons_self, canLayAll_map l fun b hb => h b (List.mem_cons_of_mem _ hb)]; rfl
theorem depthAll_map {py : α → PyData} (h : ∀ a, (py a).depth ≤ n) : ∀ l : List α, PyData.depthAll (l.map py) ≤ n
  | [] => by simp [PyData.depthAll]
  | a :: l => by have := depthAll_map h l; have := h a; simp only [List.map_cons, PyData.depthAll]; omega
theorem eqvAll_map {py : α → PyData} (h : ∀ a b, PyData.eqv (py a) (py b) = decide (a = b)) : ∀ l r : List α, PyData.eqvAll (l.map py) (r.map py) = decide (l = r)
  | [], [] => rfl
  | [], _ :: _ => rfl
  | _ :: _, [] => rfl
  | a :: l, b :: r => by
    simp only [List.map_cons, PyData.eqvAll, h a b, eqvAll_map h l r]
    by_cases e : a = b <;> by_cases e2 : l = r <;> simp [e, e2]
theorem EqE.lst (h : EqE enc ok n) : EqE (fun l : List α => D.lst (l.map enc)) (fun l => ∀ a ∈ l, ok a) (n + 1) := by
  obtain ⟨py, h1, h2, h3, h4⟩ := h
  refine ⟨fun l => .list (l.map py), fun l => ?_, fun l hl => ?_, fun l => ?_, fun l r => ?_⟩
  · simp only [toPy, toPyL_map h1]; rfl
  · simp only [PyData.canLay0]; exact canLayAll_map l fun a ha => h2 a (hl a ha)
  · have := depthAll_map h3 l; simp only [PyData.depth]; omega
  · simp only [PyData.eqv]; exact eqvAll_map h4 l r
theorem EqE.tup (h : EqE enc ok n) : EqE (fun l : List α => D.tup (l.map enc)) (fun l => ∀ a ∈ l, ok a) (n + 1) := by
  obtain ⟨py, h1, h2, h3, h4⟩ := h
  refine ⟨fun l => .tuple (l.map py), fun l => ?_, fun l hl => ?_, fun l => ?_, fun l r => ?_⟩
  · simp only [toPy, toPyL_map h1]; rfl
  · simp only [PyData.canLay0]; exact canLayAll_map l fun a ha => h2 a (hl a ha)
  · have := depthAll_map h3 l; simp only [PyData.depth]; omega
  · simp only [PyData.eqv]; exact eqvAll_map h4 l r
theorem EqE.pair {enc2 : β → D} {ok2 : β → Prop} (h : EqE enc ok n) (k : EqE enc2 ok2 m) : EqE (fun p : α × β => D.tup [enc p.1, enc2 p.2]) (fun p => ok p.1 ∧ ok2 p.2) (n + m + 1) := by
  obtain ⟨py, h1, h2, h3, h4⟩ := h
  obtain ⟨qy, k1, k2, k3, k4⟩ := k
  refine ⟨fun p => .tuple [py p.1, qy p.2], fun p => ?_, fun p hp => ?_, fun p => ?_, fun p r => ?_⟩
  · simp only [toPy, toPyL, h1, k1]; rfl
  · simp only [PyData.canLay0, PyData.canLayAll0, h2 _ hp.1, k2 _ hp.2]; rfl
  · have := h3 p.1; have := k3 p.2; simp only [PyData.depth, PyData.depthAll]; omega
  · obtain ⟨a, b⟩ := p
    obtain ⟨c, d⟩ := r
    simp only [PyData.eqv, PyData.eqvAll, h4, k4]
    by_cases e : a = c <;> by_cases e2 : b = d <;> simp [e, e2]
theorem EqE.eq (h : EqE enc ok n) {a b : α} (ha : ok a) (hb : ok b) (hn : n ≤ 64 := by decide) : oEq (enc a) (enc b) = some (.bl (decide (a = b))) := by
  obtain ⟨py, h1, h2, h3, h4⟩ := h
  have s : ∀ a, ok a → SeqAt.shaped (py a) = true := fun a ha => by
    unfold SeqAt.shaped; rw [h2 a ha, decide_eq_true (Nat.le_trans (h3 a) hn)]; rfl
  unfold oEq
  simp only [h1, Option.bind_some, s a ha, s b hb, h4, Bool.and_self, if_true]
theorem EqE.ne (h : EqE enc ok n) {a b : α} (ha : ok a) (hb : ok b) (hn : n ≤ 64 := by decide) : oNe (enc a) (enc b) = some (.bl (!decide (a = b))) := by
  obtain ⟨py, h1, h2, h3, h4⟩ := h
  have s : ∀ a, ok a → SeqAt.shaped (py a) = true := fun a ha => by
    unfold SeqAt.shaped; rw [h2 a ha, decide_eq_true (Nat.le_trans (h3 a) hn)]; rfl
  unfold oNe
  simp only [h1, Option.bind_some, s a ha, s b hb, h4, Bool.and_self, if_true]
end
/-! ### in, of flat items -/
theorem toVs_ints : ∀ xs : List Int, toVs (xs.map D.int) = some (xs.map V.int)
  | [] => rfl
  | x :: xs => by simp only [List.map_cons, toVs, toV, toVs_ints xs]; rfl
theorem toVs_strs : ∀ xs : List Str, toVs (xs.map D.str) = some (xs.map V.str)
  | [] => rfl
  | x :: xs => by simp only [List.map_cons, toVs, toV, toVs_strs xs]; rfl
theorem inV_ints (x : Int) (xs : List Int) : inV (V.int x) (xs.map V.int) = decide (x ∈ xs) := by
  unfold inV
  induction xs with
  | nil => rfl
  | cons y ys ih =>
    rw [List.map_cons, List.any_cons, ih]
    by_cases e : y = x
    · subst e; simp [eqV]
    · have e' : ¬ x = y := fun z => e z.symm
      simp [eqV, e, e']
theorem inV_strs (x : Str) (xs : List Str) : inV (V.str x) (xs.map V.str) = decide (x ∈ xs) := by
  unfold inV
  induction xs with
  | nil => rfl
  | cons y ys ih =>
    rw [List.map_cons, List.any_cons, ih]
    by_cases e : y = x
    · subst e; simp [eqV]
    · have e' : ¬ x = y := fun z => e z.symm
      simp [eqV, e, e']
theorem oIn_ints (x : Int) (xs : List Int) : oIn (.int x) (.lst (xs.map D.int)) = some (.bl (decide (x ∈ xs))) := by simp only [oIn, toV, toVs_ints, inV_ints]
theorem oIn_strs (x : Str) (xs : List Str) : oIn (.str x) (.lst (xs.map D.str)) = some (.bl (decide (x ∈ xs))) := by simp only [oIn, toV, toVs_strs, inV_strs]
theorem oIn_strsT (x : Str) (xs : List Str) : oIn (.str x) (.tup (xs.map D.str)) = some (.bl (decide (x ∈ xs))) := by simp only [oIn, toV, toVs_strs, inV_strs, Option.bind_some, Option.map_some]
theorem oIn_intsT (x : Int) (xs : List Int) : oIn (.int x) (.tup (xs.map D.int)) = some (.bl (decide (x ∈ xs))) := by simp only [oIn, toV, toVs_ints, inV_ints, Option.bind_some, Option.map_some]
theorem oEq_int (a b : Int) : oEq (.int a) (.int b) = some (.bl (decide (a = b))) := EqE.int.eq trivial trivial
theorem oNe_int (a b : Int) : oNe (.int a) (.int b) = some (.bl (!decide (a = b))) := EqE.int.ne trivial trivial
theorem oEq_bl (a b : Bool) : oEq (.bl a) (.bl b) = some (.bl (decide (a = b))) := EqE.bl.eq trivial trivial
theorem oNe_bl (a b : Bool) : oNe (.bl a) (.bl b) = some (.bl (!decide (a = b))) := EqE.bl.ne trivial trivial
theorem oIx_lst (es : List D) (i : Int) : oIx (.lst es) (.int i) = atI es i := rfl
theorem oIx_scr (es : List D) (i : Int) : oIx (.scr es) (.int i) = atI es i := rfl
theorem oIx_tup (es : List D) (i : Int) : oIx (.tup es) (.int i) = atI es i := rfl
theorem oAdd_int (i j : Int) : oAdd (.int i) (.int j) = some (.int (i + j)) := rfl
theorem oAdd_lst {xs ys : List D} (h : xs.length + ys.length ≤ 1000000) : oAdd (.lst xs) (.lst ys) = some (.lst (xs ++ ys)) := by
  simp only [oAdd]; rw [if_pos (Nat.le_trans h (by decide))]
theorem oAdd_tup {xs ys : List D} (h : xs.length + ys.length ≤ 1000000) : oAdd (.tup xs) (.tup ys) = some (.tup (xs ++ ys)) := by
  simp only [oAdd]; rw [if_pos (Nat.le_trans h (by decide))]
theorem at0 {α : Type} (x : α) (xs : List α) : atI (x :: xs) 0 = some x := atI_nat (j := 0) rfl
theorem at1 {α : Type} (x y : α) (xs : List α) : atI (x :: y :: xs) 1 = some y := atI_nat (j := 1) rfl
theorem at2 {α : Type} (x y z : α) (xs : List α) : atI (x :: y :: z :: xs) 2 = some z := atI_nat (j := 2) rfl
theorem at3 {α : Type} (x y z u : α) (xs : List α) : atI (x :: y :: z :: u :: xs) 3 = some u := atI_nat (j := 3) rfl
theorem at4 {α : Type} (x y z u v : α) (xs : List α) : atI (x :: y :: z :: u :: v :: xs) 4 = some v := atI_nat (j := 4) rfl
theorem atI_map {α : Type} (enc : α → D) (xs : List α) (k : Int) : atI (xs.map enc) k = (atI xs k).map enc := by
  unfold atI
  rw [List.length_map]
  cases ixN xs.length k with
  | none => rfl
  | some j => simp [List.getElem?_map]
theorem atI_lt {α : Type} {xs : List α} {k : Int} (h0 : 0 ≤ k) (h : k < xs.length) : ∃ x, atI xs k = some x ∧ xs[k.toNat]? = some x := by
  have hk : k.toNat < xs.length := by omega
  refine ⟨xs[k.toNat], ?_, List.getElem?_eq_getElem hk⟩
  have := atI_nat (List.getElem?_eq_getElem hk)
  rwa [Int.toNat_of_nonneg h0] at this
theorem cut_from (xs : List D) (k : Nat) : cutD xs (some (k : Int)) none = xs.drop k := by
  unfold cutD
  rw [HT.sIx_nat, HT.sIx_none]
  by_cases h : k ≤ xs.length
  · rw [Nat.min_eq_left h]; exact List.take_of_length_le (by simp)
  · rw [Nat.min_eq_right (by omega), Nat.sub_self, List.take_zero, List.drop_eq_nil_of_le (by omega)]
theorem cut_to (xs : List D) (k : Nat) : cutD xs none (some (k : Int)) = xs.take k := by
  unfold cutD
  rw [HT.sIx_nat, HT.sIx_none, List.drop_zero, Nat.sub_zero]
  by_cases h : k ≤ xs.length
  · rw [Nat.min_eq_left h]
  · rw [Nat.min_eq_right (by omega), List.take_of_length_le (Nat.le_refl _), List.take_of_length_le (by omega)]
theorem mod_nat {a : Int} {n : Int} (hn : 0 < n) : ∃ k : Nat, a % n = (k : Int) ∧ (k : Int) < n :=
  ⟨(a % n).toNat, by have := Int.emod_nonneg a (show n ≠ 0 by omega); omega, by have := Int.emod_nonneg a (show n ≠ 0 by omega); have := Int.emod_lt_of_pos a hn; omega⟩
theorem atI_any {α : Type} {xs : List α} {i : Int} (h0 : -(xs.length : Int) ≤ i) (h : i < xs.length) : ∃ x, atI xs i = some x ∧ x ∈ xs := by
  by_cases hi : 0 ≤ i
  · obtain ⟨x, e1, e2⟩ := atI_lt hi h
    exact ⟨x, e1, List.mem_of_getElem? e2⟩
  · have hk : (i + xs.length).toNat < xs.length := by omega
    refine ⟨xs[(i + xs.length).toNat], ?_, List.getElem_mem hk⟩
    unfold atI ixN
    rw [if_neg hi, if_pos h0]
    exact List.getElem?_eq_getElem hk
theorem line_le {n : Nat} (h : n ≤ 1000000) : n ≤ sizeLine := Nat.le_trans h (by decide)
theorem line_lt {n : Nat} (h : n ≤ 1000000) : n < sizeLine := Nat.lt_of_le_of_lt h (by decide)
theorem range_split {n k : Nat} {pre post : List Nat} (he : List.range n = pre ++ k :: post) : k = pre.length ∧ pre.length < n := by
  have hlen : pre.length < n := by
    have := congrArg List.length he
    rw [List.length_range, List.length_append, List.length_cons] at this
    omega
  have h1 := congrArg (fun l : List Nat => l[pre.length]?) he
  simp only [List.getElem?_range hlen, List.getElem?_append_right (Nat.le_refl _), Nat.sub_self, List.getElem?_cons_zero] at h1
  exact ⟨(Option.some.inj h1).symm, hlen⟩
theorem snoc_int (xs : List Int) (x : Int) : xs.map D.int ++ [D.int x] = (xs ++ [x]).map D.int := by simp
theorem snoc_str (xs : List Str) (x : Str) : xs.map D.str ++ [D.str x] = (xs ++ [x]).map D.str := by simp
theorem snoc_len {α : Type} {f : α → D} {xs : List α} {n : Nat} (h : xs.length ≤ n) (hn : n ≤ 1000000) : (xs.map f).length < sizeLine := by rw [List.length_map]; exact line_lt (by omega)
theorem pow18 : oPow (.int 10) (.int 18) = some (.int (10 ^ 18)) := by
  simp only [oPow]
  rw [if_pos (by decide)]
  rfl
theorem irange_eq (n : Nat) : irange 0 n = (List.range n).map fun k : Nat => D.int (0 + (k : Int)) := rfl
theorem rangeOk_nat {n : Nat} (h : n ≤ 1000000) : rangeOk ((n : Int)).toNat (n : Int) = true := by
  have := line_le h
  unfold rangeOk
  rw [decide_eq_true]
  omega
noncomputable def b__law_cell : Fs :=
  (sSeq (sIf (asB (eOp oLt (eVar 1) (eCallB oLen [(eVar 0)]))) (sRet (eOp oIx (eVar 0) (eVar 1))) sSkip)
    (sRet (eC (.int 0))))
noncomputable def f__law_cell : List D → R D := fnD 0 b__law_cell
noncomputable def b__law_dense : Fs :=
  (sSeq (sOwn 1 [])
    (sSeq (sFor (iAny (eVar 0)) (gSet 2)
    (sIf (tPeek 1 (asB (eOp oNotIn (eOp oIx (eVar 2) (eC (.int 1))) (eVar 1)))) (sApp 1 (eOp oIx (eVar 2) (eC (.int 1)))) sSkip))
    (sRet (eLc (iAny (eVar 0)) (gSet 2) tYes' (eTup [(eOp oIx (eVar 2) (eC (.int 0))), (ePeek 1 (eCallB oLen [(eLc (iAny (eVar 1)) (gSet 3) (asB (eOp oLt (eVar 3) (eOp oIx (eVar 2) (eC (.int 1))))) (eVar 3) [3])]))]) [2]))))
noncomputable def f__law_dense : List D → R D := fnD 3 b__law_dense
noncomputable def b__law_distinct : Fs :=
  (sSeq (sOwn 1 [])
    (sSeq (sFor (iAny (eVar 0)) (gSet 2)
    (sIf (tPeek 1 (asB (eOp oNotIn (eOp oIx (eVar 2) (eC (.int 1))) (eVar 1)))) (sApp 1 (eOp oIx (eVar 2) (eC (.int 1)))) sSkip))
    (fun ρ => (sRet (eCallB oSorted [(eVar 1)])) (freeze 1 ρ))))
noncomputable def f__law_distinct : List D → R D := fnD 2 b__law_distinct
noncomputable def b__law_joined : Fs :=
  (sSeq (sSet 3 (eCall f__law_distinct [(eVar 0)]))
    (sSeq (sSet 4 (eCall f__law_distinct [(eVar 1)]))
    (sSeq (sOwn 5 [])
    (sSeq (sFor (iAny (eVar 0)) (gSet 6)
    (sSeq (sSet 7 (eCallB oLen [(eLc (iAny (eVar 3)) (gSet 9) (asB (eOp oLt (eVar 9) (eOp oIx (eVar 6) (eC (.int 1))))) (eVar 9) [9])]))
    (sSeq (sSet 8 (eOp oAdd (eOp oMul (eC (.int 100)) (eOp oFdiv (eOp oIx (eVar 2) (eVar 7)) (eC (.int 2)))) (eOp oIx (eLst [(eOp oAdd (eVar 7) (eC (.int 1))), (eC (.int 100))]) (eOp oMod (eOp oIx (eVar 2) (eVar 7)) (eC (.int 2))))))
    (sApp 5 (eTup [(eOp oIx (eVar 6) (eC (.int 0))), (eVar 8)])))))
    (fun ρ => (sRet (eCall f__law_dense [(eOp oAdd (eVar 5) (eLc (iAny (eVar 1)) (gSet 6) tYes' (eTup [(eOp oIx (eVar 6) (eC (.int 0))), (eOp oAdd (eC (.int 100)) (eOp oMul (eC (.int 100)) (eCallB oLen [(eLc (iAny (eVar 4)) (gSet 9) (asB (eOp oLt (eVar 9) (eOp oIx (eVar 6) (eC (.int 1))))) (eVar 9) [9])])))]) [6]))])) (freeze 5 ρ))))))
noncomputable def f__law_joined : List D → R D := fnD 7 b__law_joined
noncomputable def b__law_placings : Fs :=
  (sSeq (sSet 2 (eCallB oLen [(eCall f__law_distinct [(eVar 1)])]))
    (sSeq (sSet 3 (eLst [(eTup [])]))
    (sSeq (sFor (iRange1 (eCallB oLen [(eCall f__law_distinct [(eVar 0)])])) (gSet 4)
    (sSeq (sOwn 5 [])
    (sSeq (sFor (iAny (eVar 3)) (gSet 6)
    (sFor (iRange1 (eOp oAdd (eOp oMul (eC (.int 2)) (eVar 2)) (eC (.int 1)))) (gSet 7)
    (sIf (tOr' (asB (eOp oEq (eCallB oLen [(eVar 6)]) (eC (.int 0)))) (tOr' (asB (eOp oGt (eVar 7) (eOp oIx (eVar 6) (eUn oNeg (eC (.int 1)))))) (tAnd' (asB (eOp oEq (eVar 7) (eOp oIx (eVar 6) (eUn oNeg (eC (.int 1)))))) (asB (eOp oEq (eOp oMod (eVar 7) (eC (.int 2))) (eC (.int 0))))))) (sApp 5 (eOp oAdd (eVar 6) (eTup [(eVar 7)]))) sSkip)))
    (fun ρ => (sSet 3 (eVar 5)) (freeze 5 ρ)))))
    (sRet (eVar 3)))))
noncomputable def f__law_placings : List D → R D := fnD 6 b__law_placings
noncomputable def b__law_position : Fs :=
  (sSeq (sSet 2 (eCallB oLen [(eLc (iAny (eVar 1)) (gSet 3) (asB (eOp oLt (eVar 3) (eVar 0))) (eVar 3) [3])]))
    (sRet (eOp oAdd (eOp oMul (eC (.int 2)) (eVar 2)) (eCallB oLen [(eLc (iAny (eVar 1)) (gSet 3) (asB (eOp oEq (eVar 3) (eVar 0))) (eVar 3) [3])]))))
noncomputable def f__law_position : List D → R D := fnD 2 b__law_position
noncomputable def b__law_positions : Fs :=
  (sSeq (sSet 2 (eCall f__law_distinct [(eSl (eVar 0) pNone (pSome (eVar 1)))]))
    (sSeq (sSet 3 (eCall f__law_distinct [(eSl (eVar 0) (pSome (eVar 1)) pNone)]))
    (sRet (eCallB oTuple [(eLc (iAny (eVar 2)) (gSet 4) tYes' (eCall f__law_position [(eVar 4), (eVar 3)]) [4])]))))
noncomputable def f__law_positions : List D → R D := fnD 3 b__law_positions
noncomputable def b__law_row : Fs :=
  (sSeq (sOwn 2 [])
    (sSeq (sSet 3 (eVar 0))
    (sSeq (sSet 4 (eOp oAdd (eOp oMod (eCallB oInt [(eVar 0)]) (eC (.int 2147483629))) (eC (.int 1))))
    (sSeq (sFor (iRange1 (eVar 1)) (gSet 5)
    (sIf (asB (eOp oGe (eVar 0) (eOp oPow (eC (.int 10)) (eC (.int 18))))) (sSeq (sApp 2 (eOp oMod (eCallB oInt [(eVar 3)]) (eC (.int 840))))
    (sSet 3 (eOp oFdiv (eVar 3) (eC (.int 840))))) (sSeq (sSet 4 (eOp oMod (eCallB oInt [(eOp oAdd (eOp oMul (eVar 4) (eC (.int 48271))) (eVar 5))]) (eC (.int 2147483647))))
    (sApp 2 (eOp oMod (eOp oFdiv (eOp oMod (eCallB oInt [(eOp oMul (eVar 4) (eC (.int 69621)))]) (eC (.int 2147483629))) (eC (.int 7))) (eC (.int 840)))))))
    (fun ρ => (sRet (eVar 2)) (freeze 2 ρ))))))
noncomputable def f__law_row : List D → R D := fnD 4 b__law_row
noncomputable def b__law_input : Fs :=
  (sSeq (sOwn 3 [])
    (sSeq (sFor (iAny (eCall f__law_row [(eVar 1), (eVar 2)])) (gSet 4)
    (sApp 3 (eTup [(eOp oIx (eVar 0) (eOp oMod (eVar 4) (eCallB oLen [(eVar 0)]))), (eOp oSub (eOp oMod (eOp oFdiv (eVar 4) (eC (.int 4))) (eC (.int 5))) (eC (.int 2)))])))
    (sSeq (fun ρ => (sIf (asB (eOp oEq (eOp oMod (eCallB oInt [(eVar 1)]) (eC (.int 3))) (eC (.int 0)))) (sSet 3 (eLc (iAny (eVar 3)) (gSet 5) tYes' (eTup [(eOp oIx (eVar 5) (eC (.int 0))), (eOp oAdd (eOp oMul (eOp oIx (eVar 5) (eC (.int 1))) (eC (.int 1000003))) (eC (.int 17)))]) [5])) sSkip) (freeze 3 ρ))
    (sRet (eVar 3)))))
noncomputable def f__law_input : List D → R D := fnD 3 b__law_input
noncomputable def b__law_small : Fs :=
  (sSeq (sIf (asB (eOp oEq (eOp oMod (eOp oFdiv (eCallB oInt [(eVar 1)]) (eC (.int 35))) (eC (.int 6))) (eC (.int 0)))) (sRet (eLc (iAny (eCall f__law_input [(eVar 0), (eVar 1), (eOp oAdd (eC (.int 4)) (eOp oMod (eOp oFdiv (eCallB oInt [(eVar 1)]) (eC (.int 7))) (eC (.int 3))))])) (gSet 2) tYes' (eTup [(eOp oIx (eVar 2) (eC (.int 0))), (eOp oMod (eOp oIx (eVar 2) (eC (.int 1))) (eC (.int 5)))]) [2])) sSkip)
    (sRet (eLc (iAny (eCall f__law_input [(eVar 0), (eVar 1), (eOp oMod (eOp oFdiv (eCallB oInt [(eVar 1)]) (eC (.int 7))) (eC (.int 5)))])) (gSet 2) tYes' (eTup [(eOp oIx (eVar 2) (eC (.int 0))), (eOp oMod (eOp oIx (eVar 2) (eC (.int 1))) (eC (.int 3)))]) [2])))
noncomputable def f__law_small : List D → R D := fnD 1 b__law_small
noncomputable def b__law_spread : Fs :=
  (sSeq (sSet 2 (eCall f__law_distinct [(eVar 0)]))
    (sSeq (sOwn 3 [])
    (sSeq (sSet 4 (eUn oNeg (eC (.int 3))))
    (sSeq (sFor (iRange1 (eCallB oLen [(eVar 2)])) (gSet 5)
    (sSeq (sSet 4 (eOp oAdd (eOp oAdd (eVar 4) (eC (.int 1))) (eOp oMod (eOp oIx (eVar 1) (eVar 5)) (eC (.int 4)))))
    (sApp 3 (eVar 4))))
    (sRet (eLc (iAny (eVar 0)) (gSet 6) tYes' (eTup [(eOp oIx (eVar 6) (eC (.int 0))), (eIxOwn 3 (eCallB oLen [(eLc (iAny (eVar 2)) (gSet 7) (asB (eOp oLt (eVar 7) (eOp oIx (eVar 6) (eC (.int 1))))) (eVar 7) [7])]))]) [6]))))))
noncomputable def f__law_spread : List D → R D := fnD 6 b__law_spread
noncomputable def b__law_word : Fs :=
  (sSeq (sSet 1 (eC (.str "abcdefghijklmnopqrstuvwxyz")))
    (sSeq (sSet 2 (eOp oIx (eVar 1) (eOp oMod (eVar 0) (eC (.int 26)))))
    (sSeq (sIf (asB (eOp oGt (eOp oMod (eOp oFdiv (eVar 0) (eC (.int 26))) (eC (.int 3))) (eC (.int 0)))) (sSet 2 (eOp oAdd (eVar 2) (eOp oIx (eVar 1) (eOp oMod (eOp oFdiv (eVar 0) (eC (.int 3))) (eC (.int 26)))))) sSkip)
    (sSeq (sIf (asB (eOp oEq (eOp oMod (eOp oFdiv (eVar 0) (eC (.int 26))) (eC (.int 3))) (eC (.int 2)))) (sSet 2 (eOp oAdd (eOp oAdd (eOp oAdd (eVar 2) (eOp oIx (eVar 1) (eOp oMod (eOp oFdiv (eVar 0) (eC (.int 5))) (eC (.int 26))))) (eOp oIx (eVar 1) (eOp oMod (eOp oFdiv (eVar 0) (eC (.int 11))) (eC (.int 26))))) (eOp oIx (eVar 1) (eOp oMod (eOp oFdiv (eVar 0) (eC (.int 2))) (eC (.int 26)))))) sSkip)
    (sRet (eVar 2))))))
noncomputable def f__law_word : List D → R D := fnD 2 b__law_word
noncomputable def b__law_words : Fs :=
  (sSeq (sOwn 2 [])
    (sSeq (sFor (iRange1 (eVar 1)) (gSet 3)
    (sSeq (sSet 4 (eCall f__law_word [(eOp oIx (eVar 0) (eVar 3))]))
    (sSeq (sFor (iRange1 (eC (.int 3))) (gSet 5)
    (sIf (tPeek 2 (asB (eOp oIn (eVar 4) (eVar 2)))) (sSet 4 (eOp oAdd (eVar 4) (eC (.str "q")))) sSkip))
    (sApp 2 (eVar 4)))))
    (fun ρ => (sRet (eCallB oTuple [(eVar 2)])) (freeze 2 ρ))))
noncomputable def f__law_words : List D → R D := fnD 4 b__law_words
noncomputable def b_integers_of : Fs :=
  (sRet (eCallB oSorted [(eDc (iAny (eVar 0)) (gUnp 2 (gsCons (gSet 1) (gsCons (gSet 2) gsNil))) tYes' (eVar 2) (eC (.bl true)) [1, 2])]))
noncomputable def f_integers_of : List D → R D := fnD 2 b_integers_of
noncomputable def b_dense : Fs :=
  (sSeq (sSet 1 (eDc (iEnumD (eCall f_integers_of [(eVar 0)])) (gUnp 2 (gsCons (gSet 2) (gsCons (gSet 3) gsNil))) tYes' (eVar 3) (eVar 2) [2, 3]))
    (sRet (eLc (iAny (eVar 0)) (gSet 4) tYes' (eTup [(eOp oIx (eVar 4) (eC (.int 0))), (eOp oIx (eVar 1) (eOp oIx (eVar 4) (eC (.int 1))))]) [4])))
noncomputable def f_dense : List D → R D := fnD 4 b_dense
noncomputable def b_alike : Fs :=
  (sRet (eOp oEq (eCall f_dense [(eVar 0)]) (eCall f_dense [(eVar 1)])))
noncomputable def f_alike : List D → R D := fnD 0 b_alike
noncomputable def b_joined : Fs :=
  (sSeq (sSet 3 (eCall f_integers_of [(eVar 0)]))
    (sSeq (sSet 4 (eCall f_integers_of [(eVar 1)]))
    (sSeq (sSet 5 (eOp oAdd (eCallB oLen [(eVar 3)]) (eC (.int 1))))
    (sSeq (sOwnD 6)
    (sSeq (sFor (iEnumD (eVar 3)) (gUnp 2 (gsCons (gSet 7) (gsCons (gSet 8) gsNil)))
    (sSeq (sSet 9 (eOp oIx (eVar 2) (eVar 7)))
    (sPut 6 (eVar 8) (eOp oAdd (eOp oMul (eVar 5) (eOp oFdiv (eOp oAdd (eVar 9) (eC (.int 1))) (eC (.int 2)))) (eOp oMul (eOp oSub (eC (.int 1)) (eOp oMod (eVar 9) (eC (.int 2)))) (eOp oAdd (eVar 7) (eC (.int 1))))))))
    (sSeq (sSet 10 (eDc (iEnumD (eVar 4)) (gUnp 2 (gsCons (gSet 7) (gsCons (gSet 8) gsNil))) tYes' (eVar 8) (eOp oMul (eVar 5) (eOp oAdd (eVar 7) (eC (.int 1)))) [7, 8]))
    (sSeq (fun ρ => (sSet 11 (eLc (iAny (eVar 0)) (gSet 12) tYes' (eTup [(eOp oIx (eVar 12) (eC (.int 0))), (eOp oIx (eVar 6) (eOp oIx (eVar 12) (eC (.int 1))))]) [12])) (freeze 6 ρ))
    (sRet (eCall f_dense [(eOp oAdd (eVar 11) (eLc (iAny (eVar 1)) (gSet 12) tYes' (eTup [(eOp oIx (eVar 12) (eC (.int 0))), (eOp oIx (eVar 10) (eOp oIx (eVar 12) (eC (.int 1))))]) [12]))])))))))))
noncomputable def f_joined : List D → R D := fnD 10 b_joined
noncomputable def b_position_rows : Fs :=
  (sSeq (sSet 2 (eLst [(eTup [])]))
    (sSeq (sFor (iRange1 (eVar 0)) (gSet 3)
    (sSeq (sSet 4 (eLst []))
    (sSeq (sFor (iAny (eVar 2)) (gSet 5)
    (sSeq (sSet 6 (eC (.int 0)))
    (sSeq (sIf (asT (eVar 5)) (sSet 6 (eOp oAdd (eOp oIx (eVar 5) (eUn oNeg (eC (.int 1)))) (eOp oMod (eOp oIx (eVar 5) (eUn oNeg (eC (.int 1)))) (eC (.int 2))))) sSkip)
    (sSet 4 (eOp oAdd (eVar 4) (eLc (iRange2 (eVar 6) (eOp oAdd (eOp oMul (eC (.int 2)) (eVar 1)) (eC (.int 1)))) (gSet 7) tYes' (eOp oAdd (eVar 5) (eTup [(eVar 7)])) [7]))))))
    (sSet 2 (eVar 4)))))
    (sRet (eVar 2))))
noncomputable def f_position_rows : List D → R D := fnD 6 b_position_rows
noncomputable def b_placings : Fs :=
  (sRet (eCall f_position_rows [(eCallB oLen [(eCall f_integers_of [(eVar 0)])]), (eCallB oLen [(eCall f_integers_of [(eVar 1)])])]))
noncomputable def f_placings : List D → R D := fnD 0 b_placings
noncomputable def b_law : Fs :=
  (sSeq (sSet 1 (eCall f__law_words [(eCall f__law_row [(eCall f__law_cell [(eVar 0), (eC (.int 0))]), (eC (.int 4))]), (eOp oAdd (eC (.int 1)) (eOp oMod (eCall f__law_cell [(eVar 0), (eC (.int 1))]) (eC (.int 3))))]))
    (sSeq (sSet 2 (eCall f__law_small [(eVar 1), (eCall f__law_cell [(eVar 0), (eC (.int 2))])]))
    (sSeq (sSet 3 (eCall f__law_small [(eVar 1), (eCall f__law_cell [(eVar 0), (eC (.int 3))])]))
    (sSeq (sIf (asB (eOp oGt (eCallB oLen [(eCall f__law_distinct [(eVar 2)])]) (eC (.int 3)))) (sSet 3 (eSl (eVar 3) pNone (pSome (eC (.int 2))))) sSkip)
    (sSeq (sSet 4 (eCall f__law_placings [(eVar 2), (eVar 3)]))
    (sSeq (sSet 5 (eLst [(eCallB oList [(eVar 2)]), (eCallB oList [(eVar 3)])]))
    (sSeq (sSet 6 (eCall f_placings [(eOp oIx (eVar 5) (eC (.int 0))), (eOp oIx (eVar 5) (eC (.int 1)))]))
    (sSeq (sIf (tOr' (asB (eOp oNe (eVar 6) (eVar 4))) (asB (eOp oNe (eCall f_placings [(eCallB oTuple [(eLc (iAny (eVar 2)) (gSet 13) tYes' (eCallB oList [(eVar 13)]) [13])]), (eVar 3)]) (eVar 4)))) (sRet (eC (.bl false))) sSkip)
    (sSeq (sOwn 7 [])
    (sSeq (sFor (iAny (eVar 4)) (gSet 8)
    (sSeq (sSet 9 (eCall f_joined [(eVar 2), (eVar 3), (eVar 8)]))
    (sSeq (sIf (tOr' (asB (eOp oNe (eVar 9) (eCall f__law_joined [(eVar 2), (eVar 3), (eVar 8)]))) (asB (eOp oNe (eCall f__law_positions [(eVar 9), (eCallB oLen [(eVar 2)])]) (eVar 8)))) (sRet (eC (.bl false))) sSkip)
    (sSeq (sIf (tOr' (tNot' (asT (eCall f_alike [(eSl (eVar 9) pNone (pSome (eCallB oLen [(eVar 2)]))), (eVar 2)]))) (tOr' (tNot' (asT (eCall f_alike [(eSl (eVar 9) (pSome (eCallB oLen [(eVar 2)])) pNone), (eVar 3)]))) (tPeek 7 (asB (eOp oIn (eVar 9) (eVar 7)))))) (sRet (eC (.bl false))) sSkip)
    (sSeq (sApp 7 (eVar 9))
    (sIf (tOr' (asB (eOp oNe (eCall f_joined [(eOp oIx (eVar 5) (eC (.int 0))), (eOp oIx (eVar 5) (eC (.int 1))), (eCallB oList [(eVar 8)])]) (eVar 9))) (asB (eOp oNe (eVar 5) (eLst [(eCallB oList [(eVar 2)]), (eCallB oList [(eVar 3)])])))) (sRet (eC (.bl false))) sSkip))))))
    (sSeq (sFor (iAny (eOp oAdd (eLst [(eCall f__law_cell [(eVar 0), (eC (.int 4))]), (eCall f__law_cell [(eVar 0), (eC (.int 5))])]) (eSl (eVar 0) (pSome (eC (.int 6))) (pSome (eC (.int 14)))))) (gSet 10)
    (sSeq (sSet 11 (eCall f__law_row [(eVar 10), (eC (.int 12))]))
    (sSeq (sSet 12 (eCall f__law_dense [(eOp oAdd (eCall f__law_spread [(eVar 2), (eSl (eVar 11) pNone (pSome (eC (.int 6))))]) (eCall f__law_spread [(eVar 3), (eSl (eVar 11) (pSome (eC (.int 6))) pNone)]))]))
    (sIf (tPeek 7 (asB (eOp oNe (eCallB oLen [(eLc (iAny (eVar 7)) (gSet 9) (asB (eOp oEq (eVar 9) (eVar 12))) (eC (.int 1)) [9])]) (eC (.int 1))))) (sRet (eC (.bl false))) sSkip))))
    (sRet (eC (.bl true))))))))))))))
noncomputable def f_law : List D → R D := fnD 13 b_law
local macro_rules | `(tactic| walk_at "ev") => `(tactic| simp only [fnD, sSeq, sSet, sRet, sRetN, sIf, sSkip, sDrop, sOwn, sOwnD, sOwnT, sApp, sFor, sAug, Rthen, eVar, eC, eOp, eUn, eCall, eCallB, evs, eTup, eLst, ofO, asB, asT, eAnd, eOr, eNot, tAnd', tOr', tNot', eIf, R.bind, eLc, eDc, tYes', wipeR, iAny, iRange1, iRange2, iEnumD, gSet, gUnp, gsCons, gsNil, ePeek, tPeek, eIxOwn, freeze, Slot.frozen, eSl, pNone, pSome, oSl, R.quiet,
  oAdd_int, oSub, oMul, oFdiv, oMod, pow18, oLt, oLe, oGt, oGe, oEq_int, oNe_int, oEq_bl, oNe_bl, oIx_lst, oIx_scr, oIx_tup, at0, at1, at2, at3, at4, oLen, oInt, oNeg, oList, oTuple, oAddI, truD, oNot, oNotIn, smallI, List.map_cons, List.map_nil, List.cons_append, List.nil_append, List.replicate, List.getElem?_cons_zero, List.getElem?_cons_succ, List.set_cons_zero, List.set_cons_succ, List.length_cons, List.length_nil, Option.bind_some, Option.bind_none, Option.map_some, Option.map_none, if_true, if_false, decide_true, decide_false,
  Int.reducePow, Int.reduceNeg, Int.reduceLT, Int.reduceLE, and_self, and_true, true_and, Bool.or_true, Bool.true_or, Bool.or_false, Bool.false_or, Bool.and_true, Bool.true_and, Bool.false_eq_true, rangeOk_nat, irange_eq, snoc_int, snoc_str, *])

/-! ### _law_cell -/
theorem cell_eq (ns : List Int) (k : Nat) : f__law_cell [.scr (ns.map D.int), .int k] = .ok (.int (ns.getD k 0)) := by
  unfold f__law_cell b__law_cell
  walk_at "ev"
  by_cases h : k < ns.length
  · rw [List.length_map, decide_eq_true (show (k : Int) < ns.length by omega), atI_map, atI_nat (List.getElem?_eq_getElem h)]
    simp [h]
  · rw [List.length_map, decide_eq_false (show ¬ (k : Int) < ns.length by omega)]
    simp [List.getElem?_eq_none (Nat.not_lt.mp h)]
/-! ### _law_row -/
def inRow (r : Int) : Prop := 0 ≤ r ∧ r < 840
theorem mod840 (x : Int) : inRow (x % 840) := ⟨Int.emod_nonneg _ (by decide), Int.emod_lt_of_pos _ (by decide)⟩
theorem row_eq (c : Int) (n : Nat) (hn : n ≤ 1000000) : ∃ rs : List Int, f__law_row [.int c, .int n] = .ok (.lst (rs.map D.int)) ∧ rs.length = n ∧ ∀ r ∈ rs, inRow r := by
  unfold f__law_row b__law_row
  walk_at "ev"
  rw [Int.toNat_natCast]
  generalize hf : forD _ _ _ _ = o
  obtain ⟨ρ', rfl, rs, rest, seed, z, rfl, h2, h3⟩ := forD_out hf (fun pre ρ => ∃ (rs : List Int) (rest seed : Int) (z : Slot), ρ = [.val (.int c), .val (.int n), .own (rs.map D.int), .val (.int rest), .val (.int seed), z] ∧ rs.length = pre.length ∧ ∀ r ∈ rs, inRow r) ⟨[], c, _, _, rfl, rfl, fun r h => by cases h⟩ (by
    rintro pre k post ρ he ⟨rs, rest, seed, z, rfl, hl, hb⟩
    refine ⟨_, rfl, ?_⟩
    obtain ⟨rfl, hlen⟩ := range_split he
    have hsz : (rs.map D.int).length < sizeLine := by rw [List.length_map, hl]; exact line_lt (by omega)
    have ha : ∀ x, inRow x → ∀ r ∈ rs ++ [x], inRow r := fun x hx r h => by
      rcases List.mem_append.mp h with h | h
      · exact hb r h
      · rw [List.mem_singleton.mp h]; exact hx
    by_cases hc : (1000000000000000000 : Int) ≤ c
    · walk_at "ev"
      exact ⟨_, .inl rfl, _, _, _, _, rfl, by simp [hl], ha _ (mod840 _)⟩
    · walk_at "ev"
      exact ⟨_, .inl rfl, _, _, _, _, rfl, by simp [hl], ha _ (mod840 _)⟩)
  refine ⟨rs, ?_, by rw [h2, List.length_range], h3⟩
  walk_at "ev"
/-! ### words -/
def isW (m : Nat) (s : Str) : Prop := 1 ≤ s.length ∧ s.length ≤ m ∧ ∀ c ∈ s.cps.toList, 97 ≤ c ∧ c ≤ 122
theorem isW.mono {m n : Nat} {s : Str} (h : isW m s) (l : m ≤ n) : isW n s := ⟨h.1, Nat.le_trans h.2.1 l, h.2.2⟩
theorem isW.ok {m : Nat} {s : Str} (h : isW m s) : PyData.strOk s = true := by
  unfold PyData.strOk
  rw [Array.all_eq_true]
  intro i hi
  have := h.2.2 s.cps[i] (by simp)
  exact decide_eq_true (by omega)
theorem app_len (x y : Str) : (x ++ y).length = x.length + y.length := by
  show (x.cps ++ y.cps).size = _
  rw [Array.size_append]; rfl
theorem isW.app {m n : Nat} {x y : Str} (hx : isW m x) (hy : isW n y) : isW (m + n) (x ++ y) := by
  refine ⟨by rw [app_len]; have := hx.1; omega, by rw [app_len]; have := hx.2.1; have := hy.2.1; omega, fun c hc => ?_⟩
  have e : (x ++ y).cps.toList = x.cps.toList ++ y.cps.toList := by show (x.cps ++ y.cps).toList = _; simp
  rw [e] at hc
  rcases List.mem_append.mp hc with h | h
  · exact hx.2.2 c h
  · exact hy.2.2 c h
abbrev letters : Str := "abcdefghijklmnopqrstuvwxyz"
theorem letters_eq : letters.cps.toList = (List.range 26).map (97 + ·) := by decide
theorem let_at (n : Int) (m : Int) (hm : 0 < m) : ∃ c, oIx (.str letters) (.int (n / m % 26)) = some (.str ⟨#[c]⟩) ∧ isW 1 ⟨#[c]⟩ := by
  have h0 : 0 ≤ n / m % 26 := Int.emod_nonneg _ (by decide)
  have h1 : n / m % 26 < 26 := Int.emod_lt_of_pos _ (by decide)
  have hl : letters.cps.toList.length = 26 := by decide
  obtain ⟨c, e1, e2⟩ := atI_lt (xs := letters.cps.toList) h0 (by rw [hl]; exact h1)
  refine ⟨c, ?_, ?_⟩
  · simp only [oIx]
    rw [if_pos (show letters.length ≤ sizeLine from line_le (by decide)), e1]; rfl
  · have hm := List.mem_of_getElem? e2
    rw [letters_eq] at hm
    obtain ⟨k, hk, rfl⟩ := List.mem_map.mp hm
    have hk := List.mem_range.mp hk
    exact ⟨Nat.le_refl _, Nat.le_refl _, fun c hc => by simp at hc; subst hc; omega⟩
theorem str_add {x y : Str} {m n : Nat} (hx : isW m x) (hy : isW n y) (h : m + n ≤ 1000 := by decide) : oAdd (.str x) (.str y) = some (.str (x ++ y)) := by
  simp only [oAdd]
  rw [if_pos (line_le (by have := hx.2.1; have := hy.2.1; omega))]
theorem word_eq (n : Int) : ∃ s, f__law_word [.int n] = .ok (.str s) ∧ isW 5 s := by
  obtain ⟨c1, e1, w1⟩ := let_at n 1 (by decide)
  obtain ⟨c3, e3, w3⟩ := let_at n 3 (by decide)
  obtain ⟨c5, e5, w5⟩ := let_at n 5 (by decide)
  obtain ⟨c11, e11, w11⟩ := let_at n 11 (by decide)
  obtain ⟨c2, e2, w2⟩ := let_at n 2 (by decide)
  rw [Int.ediv_one] at e1
  unfold f__law_word b__law_word
  have a13 := str_add w1 w3
  have a15 := str_add w1 w5
  have a135 := str_add (w1.app w3) w5
  have b1 := str_add (w1.app w5) w11
  have b2 := str_add ((w1.app w3).app w5) w11
  have b3 := str_add ((w1.app w5).app w11) w2
  have b4 := str_add (((w1.app w3).app w5).app w11) w2
  have r5 : isW 5 ⟨#[c1]⟩ := w1.mono (by decide)
  by_cases h1 : 0 < n / 26 % 3
  · by_cases h2 : n / 26 % 3 = 2
    · walk_at "ev"
      exact ⟨_, rfl, (((w1.app w3).app w5).app w11).app w2⟩
    · walk_at "ev"
      exact ⟨_, rfl, (w1.app w3).mono (by decide)⟩
  · have h2 : ¬ n / 26 % 3 = 2 := by omega
    walk_at "ev"
    exact ⟨_, rfl, r5⟩
/-- w with k signs q behind it -/
def qs (w : Str) : Nat → Str
  | 0 => w
  | k + 1 => qs w k ++ ("q" : Str)
theorem q_isW : isW 1 ("q" : Str) := ⟨by decide, by decide, by decide⟩
theorem qs_isW {w : Str} {m : Nat} (h : isW m w) : ∀ k, isW (m + k) (qs w k)
  | 0 => h
  | k + 1 => (qs_isW h k).app q_isW
theorem qs_len (w : Str) : ∀ k, (qs w k).length = w.length + k
  | 0 => rfl
  | k + 1 => by unfold qs; rw [app_len, qs_len w k]; rfl
theorem qs_ne (w : Str) {j k : Nat} (h : j ≠ k) : qs w j ≠ qs w k := fun e => by
  have := congrArg Str.length e
  rw [qs_len, qs_len] at this
  omega
theorem four_in {W : List Str} (h : W.length ≤ 3) (w : Str) : ¬ (qs w 0 ∈ W ∧ qs w 1 ∈ W ∧ qs w 2 ∈ W ∧ qs w 3 ∈ W) := fun ⟨a, b, c, d⟩ => by
  have hn : [qs w 0, qs w 1, qs w 2, qs w 3].Nodup := by
    simp [qs_ne w (show 0 ≠ 1 by decide), qs_ne w (show 0 ≠ 2 by decide), qs_ne w (show 0 ≠ 3 by decide), qs_ne w (show 1 ≠ 2 by decide), qs_ne w (show 1 ≠ 3 by decide), qs_ne w (show 2 ≠ 3 by decide)]
  have hs : [qs w 0, qs w 1, qs w 2, qs w 3] ⊆ W := by
    intro x hx
    simp at hx
    rcases hx with rfl | rfl | rfl | rfl <;> assumption
  have := hn.length_le_of_subset hs
  simp at this
  omega
theorem words_eq (rs : List Int) (n : Nat) (hn : n ≤ 4) (hl : n ≤ rs.length) : ∃ ws : List Str, f__law_words [.lst (rs.map D.int), .int n] = .ok (.tup (ws.map D.str)) ∧ ws.length = n ∧ ws.Nodup ∧ ∀ w ∈ ws, isW 8 w := by
  unfold f__law_words b__law_words
  have hn' : n ≤ 1000000 := by omega
  walk_at "ev"
  rw [Int.toNat_natCast]
  generalize hf : forD _ _ _ _ = o
  obtain ⟨ρ', rfl, ws, x, y, z, rfl, h2, h3, h4⟩ := forD_out hf (fun pre ρ => ∃ (ws : List Str) (x y z : Slot), ρ = [.val (.lst (rs.map D.int)), .val (.int n), .own (ws.map D.str), x, y, z] ∧ ws.length = pre.length ∧ ws.Nodup ∧ ∀ w ∈ ws, isW 8 w) ⟨[], _, _, _, rfl, rfl, List.nodup_nil, fun r h => by cases h⟩ (by
    rintro pre k post ρ he ⟨ws, x, y, z, rfl, hl, hnd, hw⟩
    obtain ⟨rfl, hlen⟩ := range_split he
    obtain ⟨r, e1, e2⟩ := atI_lt (xs := rs) (k := 0 + (pre.length : Int)) (by omega) (by omega)
    obtain ⟨w, ew, hw5⟩ := word_eq r
    have e3 : atI (rs.map D.int) (0 + (pre.length : Int)) = some (.int r) := by rw [atI_map, e1]; rfl
    refine ⟨_, rfl, ?_⟩
    have h3 : (3 : Nat) ≤ 1000000 := by decide
    have r3 : rangeOk (3 : Int).toNat 3 = true := by have := rangeOk_nat h3; exact this
    walk_at "ev"
    generalize hf2 : forD _ _ _ _ = o2
    obtain ⟨ρ2, rfl, i, y2, rfl, g1, g2⟩ := forD_out hf2 (fun pre2 ρ => ∃ (i : Nat) (y2 : Slot), ρ = [.val (.lst (rs.map D.int)), .val (.int n), .own (ws.map D.str), .val (.int (0 + (pre.length : Int))), .val (.str (qs w i)), y2] ∧ i ≤ pre2.length ∧ (qs w i ∈ ws → i = pre2.length ∧ ∀ j, j ≤ i → qs w j ∈ ws)) ⟨0, _, rfl, Nat.le_refl _, fun h => ⟨rfl, fun j hj => (Nat.le_zero.mp hj) ▸ h⟩⟩ (by
      rintro pre2 k2 post2 ρ he2 ⟨i, y2, rfl, g1, g2⟩
      obtain ⟨rfl, hlen2⟩ := range_split he2
      refine ⟨_, rfl, ?_⟩
      have ha := str_add ((qs_isW hw5 i).mono (show 5 + i ≤ 8 by omega)) q_isW
      have hin := oIn_strs (qs w i) ws
      by_cases hm : qs w i ∈ ws
      · walk_at "ev"
        refine ⟨_, .inl rfl, i + 1, _, rfl, by simp; omega, fun h => ?_⟩
        obtain ⟨h1, h2⟩ := g2 hm
        refine ⟨by simp; omega, fun j hj => ?_⟩
        by_cases e : j = i + 1
        · rw [e]; exact h
        · exact h2 j (by omega)
      · walk_at "ev"
        exact ⟨_, .inl rfl, i, _, rfl, by simp; omega, fun h => absurd h hm⟩)
    have hi : i ≤ 3 := by simpa using g1
    have hnot : qs w i ∉ ws := fun h => by
      obtain ⟨e, h2⟩ := g2 h
      obtain rfl : i = 3 := by simpa using e
      exact four_in (by omega) w ⟨h2 0 (by decide), h2 1 (by decide), h2 2 (by decide), h⟩
    have hsz : (ws.map D.str).length < sizeLine := snoc_len (n := 4) (by omega) (by decide)
    clear g2
    walk_at "ev"
    refine ⟨_, .inl rfl, _, _, _, _, rfl, by simp [hl], ?_, fun v hv => ?_⟩
    · rw [List.nodup_append]
      exact ⟨hnd, by simp, fun a ha b hb => by rw [List.mem_singleton.mp hb]; exact fun e => hnot (e ▸ ha)⟩
    · rcases List.mem_append.mp hv with h | h
      · exact hw v h
      · rw [List.mem_singleton.mp h]; exact (qs_isW hw5 i).mono (by omega))
  refine ⟨ws, ?_, by rw [h2, List.length_range], h3, h4⟩
  walk_at "ev"
/-! Inputs as lists of pairs; dense inputs, codes: plain mathematics. -/
abbrev Ms := List (Str × Int)
def dd (acc : List Int) : List Int → List Int
  | [] => acc
  | x :: xs => dd (if x ∈ acc then acc else acc ++ [x]) xs
def nums (ms : Ms) : List Int := dd [] (ms.map (·.2))
def less (S : List Int) (x : Int) : Nat := (S.filter fun y => decide (y < x)).length
def ldense (ms : Ms) : Ms := ms.map fun m => (m.1, (less (nums ms) m.2 : Int))
def pos (S : List Int) (x : Int) : Int := 2 * (less S x : Int) + if x ∈ S then 1 else 0
def grow (S : List Int) (x : Int) : List Int := if x ∈ S then S else S ++ [x]
def codeA (S : List Int) : Ms → Ms
  | [] => []
  | m :: r => (m.1, pos S m.2) :: codeA (grow S m.2) r
def code (ms : Ms) : Ms := codeA [] ms
theorem dd_mem : ∀ (xs acc : List Int) (y : Int), y ∈ dd acc xs ↔ y ∈ acc ∨ y ∈ xs
  | [], acc, y => by simp [dd]
  | x :: xs, acc, y => by
    unfold dd
    rw [dd_mem xs _ y]
    by_cases h : x ∈ acc
    · rw [if_pos h]; constructor
      · rintro (a | a)
        · exact .inl a
        · exact .inr (List.mem_cons_of_mem _ a)
      · rintro (a | a)
        · exact .inl a
        · rcases List.mem_cons.mp a with rfl | a
          · exact .inl h
          · exact .inr a
    · rw [if_neg h]; simp only [List.mem_append, List.mem_singleton, List.mem_cons, List.not_mem_nil, or_false, or_assoc]
theorem dd_nodup : ∀ (xs acc : List Int), acc.Nodup → (dd acc xs).Nodup
  | [], acc, h => h
  | x :: xs, acc, h => by
    unfold dd
    refine dd_nodup xs _ ?_
    by_cases hm : x ∈ acc
    · rw [if_pos hm]; exact h
    · rw [if_neg hm, List.nodup_append]
      exact ⟨h, by simp, fun a ha b hb => by rw [List.mem_singleton.mp hb]; exact fun e => hm (e ▸ ha)⟩
theorem nums_nodup (ms : Ms) : (nums ms).Nodup := dd_nodup _ _ List.nodup_nil
theorem nums_mem (ms : Ms) (y : Int) : y ∈ nums ms ↔ y ∈ ms.map (·.2) := by unfold nums; rw [dd_mem]; simp
/-! ### how many are less -/
theorem filter_mono {α : Type} {p q : α → Bool} : ∀ {l : List α}, (∀ a ∈ l, p a = true → q a = true) → (l.filter p).length ≤ (l.filter q).length
  | [], _ => Nat.le_refl _
  | a :: l, h => by
    have ih := filter_mono (l := l) fun b hb => h b (List.mem_cons_of_mem _ hb)
    have ha := h a List.mem_cons_self
    cases hp : p a <;> cases hq : q a <;> simp_all <;> omega
theorem filter_strict {α : Type} {p q : α → Bool} : ∀ {l : List α}, (∀ a ∈ l, p a = true → q a = true) → (∃ a ∈ l, p a = false ∧ q a = true) → (l.filter p).length < (l.filter q).length
  | [], _, h => by obtain ⟨a, ha, _⟩ := h; cases ha
  | a :: l, h, ⟨b, hb, hp, hq⟩ => by
    have hl := fun c hc => h c (List.mem_cons_of_mem _ hc)
    rcases List.mem_cons.mp hb with rfl | hb
    · have := filter_mono (l := l) hl
      rw [List.filter_cons_of_neg (by simp [hp]), List.filter_cons_of_pos hq, List.length_cons]
      omega
    · have ih := filter_strict (l := l) hl ⟨b, hb, hp, hq⟩
      have ha := h a List.mem_cons_self
      cases hp' : p a <;> cases hq' : q a <;> simp_all <;> omega
theorem less_le {S : List Int} {x y : Int} (h : x ≤ y) : less S x ≤ less S y := filter_mono fun a _ ha => decide_eq_true (Int.lt_of_lt_of_le (of_decide_eq_true ha) h)
theorem less_lt {S : List Int} {x y : Int} (hx : x ∈ S) (h : x < y) : less S x < less S y :=
  filter_strict (fun a _ ha => decide_eq_true (Int.lt_trans (of_decide_eq_true ha) h)) ⟨x, hx, by simp, decide_eq_true h⟩
theorem less_iff {S : List Int} {x y : Int} (hx : x ∈ S) : x < y ↔ less S x < less S y :=
  ⟨less_lt hx, fun h => by
    by_cases e : x < y
    · exact e
    · have := less_le (S := S) (show y ≤ x by omega); omega⟩
/-! ### pairs of inputs that go alike -/
def Mono (ps : List (Int × Int)) : Prop := ∀ p ∈ ps, ∀ q ∈ ps, (p.1 < q.1 ↔ p.2 < q.2)
theorem Mono.eq {ps : List (Int × Int)} (h : Mono ps) {p q : Int × Int} (hp : p ∈ ps) (hq : q ∈ ps) : p.1 = q.1 ↔ p.2 = q.2 := by
  have a := h p hp q hq
  have b := h q hq p hp
  constructor <;> intro e <;> omega
theorem less_map (qs : List (Int × Int)) (x : Int) : less (qs.map (·.1)) x = (qs.filter fun q => decide (q.1 < x)).length := by
  unfold less; rw [List.filter_map, List.length_map]; rfl
theorem less_map2 (qs : List (Int × Int)) (x : Int) : less (qs.map (·.2)) x = (qs.filter fun q => decide (q.2 < x)).length := by
  unfold less; rw [List.filter_map, List.length_map]; rfl
theorem less_mono {qs : List (Int × Int)} {x y : Int} (h : ∀ q ∈ qs, (q.1 < x ↔ q.2 < y)) : less (qs.map (·.1)) x = less (qs.map (·.2)) y := by
  rw [less_map, less_map2]
  apply congrArg List.length
  apply List.filter_congr
  intro q hq
  exact decide_eq_decide.mpr (h q hq)
theorem mem_fst {qs : List (Int × Int)} {x : Int} : x ∈ qs.map (·.1) ↔ ∃ q ∈ qs, q.1 = x := by simp
theorem mem_snd {qs : List (Int × Int)} {x : Int} : x ∈ qs.map (·.2) ↔ ∃ q ∈ qs, q.2 = x := by simp
theorem pos_iff {qs : List (Int × Int)} (hm : Mono qs) (x y : Int) : pos (qs.map (·.1)) x = pos (qs.map (·.2)) y ↔ Mono (qs ++ [(x, y)]) := by
  constructor
  · intro h
    have hl : less (qs.map (·.1)) x = less (qs.map (·.2)) y ∧ (x ∈ qs.map (·.1) ↔ y ∈ qs.map (·.2)) := by
      unfold pos at h
      by_cases a : x ∈ qs.map (·.1) <;> by_cases b : y ∈ qs.map (·.2)
      · rw [if_pos a, if_pos b] at h; exact ⟨by omega, by simp [a, b]⟩
      · rw [if_pos a, if_neg b] at h; omega
      · rw [if_neg a, if_pos b] at h; omega
      · rw [if_neg a, if_neg b] at h; exact ⟨by omega, by simp [a, b]⟩
    obtain ⟨hl, hin⟩ := hl
    have hr : ∀ q ∈ qs, less (qs.map (·.1)) q.1 = less (qs.map (·.2)) q.2 := fun q hq => less_mono fun r hr => hm r hr q hq
    have h1 : ∀ q ∈ qs, (q.1 < x ↔ q.2 < y) := fun q hq => by
      rw [less_iff (S := qs.map (·.1)) (mem_fst.mpr ⟨q, hq, rfl⟩), less_iff (S := qs.map (·.2)) (mem_snd.mpr ⟨q, hq, rfl⟩), hr q hq, hl]
    have h2 : ∀ q ∈ qs, (q.1 = x ↔ q.2 = y) := fun q hq => by
      have key : ∀ q0 ∈ qs, q0.1 = x → q0.2 = y := fun q0 h0 e0 => by
        obtain ⟨q1, k1, e1⟩ := mem_snd.mp (hin.mp (mem_fst.mpr ⟨q0, h0, e0⟩))
        have a := hr q0 h0
        rw [e0, hl, ← e1] at a
        have b1 := less_iff (S := qs.map (·.2)) (x := q1.2) (y := q0.2) (mem_snd.mpr ⟨q1, k1, rfl⟩)
        have b2 := less_iff (S := qs.map (·.2)) (x := q0.2) (y := q1.2) (mem_snd.mpr ⟨q0, h0, rfl⟩)
        rw [← e1]
        omega
      constructor
      · exact key q hq
      · intro e
        obtain ⟨q0, k0, e0⟩ := mem_fst.mp (hin.mpr (mem_snd.mpr ⟨q, hq, e⟩))
        have e1 := key q0 k0 e0
        rw [← e0]
        exact (hm.eq hq k0).mpr (by rw [e, e1])
    intro p hp q hq
    rcases List.mem_append.mp hp with hp | hp <;> rcases List.mem_append.mp hq with hq | hq
    · exact hm p hp q hq
    · rw [List.mem_singleton.mp hq]; exact h1 p hp
    · rw [List.mem_singleton.mp hp]
      have a := h1 q hq
      have b := h2 q hq
      show x < q.1 ↔ y < q.2
      omega
    · rw [List.mem_singleton.mp hp, List.mem_singleton.mp hq]; simp
  · intro h
    have hx : (x, y) ∈ qs ++ [(x, y)] := by simp
    have h1 : ∀ q ∈ qs, (q.1 < x ↔ q.2 < y) := fun q hq => h q (List.mem_append_left _ hq) _ hx
    have h2 : ∀ q ∈ qs, (q.1 = x ↔ q.2 = y) := fun q hq => h.eq (List.mem_append_left _ hq) hx
    unfold pos
    rw [less_mono h1]
    have h3 : x ∈ qs.map (·.1) ↔ y ∈ qs.map (·.2) := by
      rw [mem_fst, mem_snd]
      exact ⟨fun ⟨q, a, b⟩ => ⟨q, a, (h2 q a).mp b⟩, fun ⟨q, a, b⟩ => ⟨q, a, (h2 q a).mpr b⟩⟩
    by_cases a : x ∈ qs.map (·.1)
    · rw [if_pos a, if_pos (h3.mp a)]
    · rw [if_neg a, if_neg (fun z => a (h3.mpr z))]
/-- two inputs in one list: the name, both integers -/
abbrev Tw := List (Str × Int × Int)
def fstM (ts : Tw) : Ms := ts.map fun t => (t.1, t.2.1)
def sndM (ts : Tw) : Ms := ts.map fun t => (t.1, t.2.2)
theorem codeA_iff : ∀ (ts : Tw) (qs : List (Int × Int)), Mono qs → (codeA (qs.map (·.1)) (fstM ts) = codeA (qs.map (·.2)) (sndM ts) ↔ Mono (qs ++ ts.map (·.2)))
  | [], qs, h => by simp [fstM, sndM, codeA, h]
  | t :: ts, qs, h => by
    show ((t.1, pos (qs.map (·.1)) t.2.1) :: codeA (grow (qs.map (·.1)) t.2.1) (fstM ts) = (t.1, pos (qs.map (·.2)) t.2.2) :: codeA (grow (qs.map (·.2)) t.2.2) (sndM ts)) ↔ _
    rw [List.cons.injEq, Prod.mk.injEq]
    have hsub : Mono (qs ++ (t :: ts).map (·.2)) → Mono (qs ++ [t.2]) := fun k p hp q hq => k p (by simp at hp ⊢; rcases hp with a | a <;> simp [a]) q (by simp at hq ⊢; rcases hq with a | a <;> simp [a])
    have step : Mono (qs ++ [t.2]) → (codeA (grow (qs.map (·.1)) t.2.1) (fstM ts) = codeA (grow (qs.map (·.2)) t.2.2) (sndM ts) ↔ Mono (qs ++ (t :: ts).map (·.2))) := fun hm => by
      have ht : t.2 ∈ qs ++ [t.2] := by simp
      by_cases a : t.2.1 ∈ qs.map (·.1)
      · obtain ⟨q, hq, e⟩ := mem_fst.mp a
        have e2 := (hm.eq (List.mem_append_left _ hq) ht).mp e
        have hqt : q = t.2 := Prod.ext e e2
        have b : t.2.2 ∈ qs.map (·.2) := mem_snd.mpr ⟨q, hq, e2⟩
        unfold grow
        rw [if_pos a, if_pos b, codeA_iff ts qs h]
        constructor
        · intro k p hp r hr
          have hh : ∀ p, p ∈ qs ++ (t :: ts).map (·.2) → p ∈ qs ++ ts.map (·.2) := fun p hp => by
            rcases List.mem_append.mp hp with z | z
            · exact List.mem_append_left _ z
            · rcases List.mem_cons.mp z with z | z
              · rw [z]; show t.2 ∈ _; rw [← hqt]; exact List.mem_append_left _ hq
              · exact List.mem_append_right _ z
          exact k p (hh p hp) r (hh r hr)
        · intro k p hp r hr
          have hh : ∀ p, p ∈ qs ++ ts.map (·.2) → p ∈ qs ++ (t :: ts).map (·.2) := fun p hp => by
            rcases List.mem_append.mp hp with z | z
            · exact List.mem_append_left _ z
            · exact List.mem_append_right _ (List.mem_cons_of_mem _ z)
          exact k p (hh p hp) r (hh r hr)
      · have b : ¬ t.2.2 ∈ qs.map (·.2) := fun z => by
          obtain ⟨q, hq, e⟩ := mem_snd.mp z
          exact a (mem_fst.mpr ⟨q, hq, (hm.eq (List.mem_append_left _ hq) ht).mpr e⟩)
        unfold grow
        rw [if_neg a, if_neg b]
        have e1 : qs.map (·.1) ++ [t.2.1] = (qs ++ [t.2]).map (·.1) := by simp
        have e2 : qs.map (·.2) ++ [t.2.2] = (qs ++ [t.2]).map (·.2) := by simp
        rw [e1, e2, codeA_iff ts _ hm]
        simp
    constructor
    · rintro ⟨⟨_, hp⟩, hr⟩
      have hm := (pos_iff h t.2.1 t.2.2).mp hp
      exact (step hm).mp hr
    · intro k
      have hm := hsub k
      exact ⟨⟨rfl, (pos_iff h _ _).mpr hm⟩, (step hm).mpr k⟩
theorem code_iff (ts : Tw) : code (fstM ts) = code (sndM ts) ↔ Mono (ts.map (·.2)) := by
  have h := codeA_iff ts [] (fun p hp => by cases hp)
  simpa [code] using h
/-- the different pairs, in order -/
def ddP (acc : List (Int × Int)) : List (Int × Int) → List (Int × Int)
  | [] => acc
  | x :: xs => ddP (if x.1 ∈ acc.map (·.1) then acc else acc ++ [x]) xs
theorem ddP_fst : ∀ (ps acc : List (Int × Int)), (ddP acc ps).map (·.1) = dd (acc.map (·.1)) (ps.map (·.1))
  | [], acc => rfl
  | p :: ps, acc => by
    unfold ddP
    rw [ddP_fst ps, List.map_cons]
    conv => rhs; unfold dd
    by_cases h : p.1 ∈ acc.map (·.1)
    · rw [if_pos h, if_pos h]
    · rw [if_neg h, if_neg h, List.map_append]; rfl
theorem ddP_snd : ∀ (ps acc : List (Int × Int)), Mono (acc ++ ps) → (ddP acc ps).map (·.2) = dd (acc.map (·.2)) (ps.map (·.2))
  | [], acc, _ => rfl
  | p :: ps, acc, hm => by
    unfold ddP
    rw [List.map_cons]
    conv => rhs; unfold dd
    have hp : p ∈ acc ++ p :: ps := by simp
    by_cases h : p.1 ∈ acc.map (·.1)
    · obtain ⟨q, hq, e⟩ := mem_fst.mp h
      have h2 : p.2 ∈ acc.map (·.2) := mem_snd.mpr ⟨q, hq, (hm.eq (List.mem_append_left _ hq) hp).mp e⟩
      rw [if_pos h, if_pos h2]
      exact ddP_snd ps acc fun a ha b hb => hm a (by simp at ha ⊢; rcases ha with z | z <;> simp [z]) b (by simp at hb ⊢; rcases hb with z | z <;> simp [z])
    · have h2 : ¬ p.2 ∈ acc.map (·.2) := fun z => by
        obtain ⟨q, hq, e⟩ := mem_snd.mp z
        exact h (mem_fst.mpr ⟨q, hq, (hm.eq (List.mem_append_left _ hq) hp).mpr e⟩)
      rw [if_neg h, if_neg h2]
      have := ddP_snd ps (acc ++ [p]) (by simpa using hm)
      rw [this, List.map_append]; rfl
theorem ddP_mem : ∀ (ps acc : List (Int × Int)) (q : Int × Int), q ∈ ddP acc ps → q ∈ acc ++ ps
  | [], acc, q, h => by simpa [ddP] using h
  | p :: ps, acc, q, h => by
    unfold ddP at h
    have := ddP_mem ps _ q h
    by_cases hp : p.1 ∈ acc.map (·.1)
    · rw [if_pos hp] at this; simp at this ⊢; rcases this with z | z <;> simp [z]
    · rw [if_neg hp] at this; simpa using this
theorem ldense_iff (ts : Tw) : ldense (fstM ts) = ldense (sndM ts) ↔ Mono (ts.map (·.2)) := by
  have f1 : (fstM ts).map (·.2) = (ts.map (·.2)).map (·.1) := by simp [fstM]
  have f2 : (sndM ts).map (·.2) = (ts.map (·.2)).map (·.2) := by simp [sndM]
  have hd : ldense (fstM ts) = ldense (sndM ts) ↔ ∀ t ∈ ts, less (nums (fstM ts)) t.2.1 = less (nums (sndM ts)) t.2.2 := by
    unfold ldense
    generalize nums (fstM ts) = A
    generalize nums (sndM ts) = B'
    unfold fstM sndM
    rw [List.map_map, List.map_map, List.map_inj_left]
    constructor
    · intro h t ht
      have := h t ht
      simp at this
      omega
    · intro h t ht
      simp [h t ht]
  rw [hd]
  constructor
  · intro h p hp q hq
    obtain ⟨t, ht, rfl⟩ := List.mem_map.mp hp
    obtain ⟨u, hu, rfl⟩ := List.mem_map.mp hq
    have m1 : t.2.1 ∈ nums (fstM ts) := (nums_mem _ _).mpr (by rw [f1]; exact mem_fst.mpr ⟨_, hp, rfl⟩)
    have m2 : t.2.2 ∈ nums (sndM ts) := (nums_mem _ _).mpr (by rw [f2]; exact mem_snd.mpr ⟨_, hp, rfl⟩)
    rw [less_iff m1, less_iff m2, h t ht, h u hu]
  · intro h t ht
    have e1 : nums (fstM ts) = (ddP [] (ts.map (·.2))).map (·.1) := by rw [ddP_fst]; unfold nums; rw [f1]; rfl
    have e2 : nums (sndM ts) = (ddP [] (ts.map (·.2))).map (·.2) := by rw [ddP_snd _ [] (by simpa using h)]; unfold nums; rw [f2]; rfl
    rw [e1, e2]
    exact less_mono fun q hq => h q (by simpa using ddP_mem _ [] q hq) _ (List.mem_map.mpr ⟨t, ht, rfl⟩)
/-- inputs with the same names are two in one list -/
theorem twin : ∀ {a b : Ms}, a.map (·.1) = b.map (·.1) → ∃ ts : Tw, a = fstM ts ∧ b = sndM ts
  | [], [], _ => ⟨[], rfl, rfl⟩
  | [], _ :: _, h => by simp at h
  | _ :: _, [], h => by simp at h
  | m :: a, n :: b, h => by
    rw [List.map_cons, List.map_cons] at h
    injection h with h1 h2
    obtain ⟨ts, e1, e2⟩ := twin h2
    refine ⟨(m.1, m.2, n.2) :: ts, ?_, ?_⟩
    · show m :: a = (m.1, m.2) :: fstM ts; rw [e1]
    · show n :: b = (m.1, n.2) :: sndM ts; rw [e2, h1]
theorem codeA_names : ∀ (S : List Int) (ms : Ms), (codeA S ms).map (·.1) = ms.map (·.1)
  | _, [] => rfl
  | S, m :: r => by unfold codeA; rw [List.map_cons, List.map_cons, codeA_names _ r]
theorem ldense_names (ms : Ms) : (ldense ms).map (·.1) = ms.map (·.1) := by unfold ldense; rw [List.map_map]; rfl
theorem alike_iff (a b : Ms) : ldense a = ldense b ↔ code a = code b := by
  constructor
  · intro h
    have hn : a.map (·.1) = b.map (·.1) := by rw [← ldense_names a, ← ldense_names b, h]
    obtain ⟨ts, rfl, rfl⟩ := twin hn
    exact (code_iff ts).mpr ((ldense_iff ts).mp h)
  · intro h
    have hn : a.map (·.1) = b.map (·.1) := by
      have := congrArg (List.map (·.1)) h
      rwa [code, codeA_names, code, codeA_names] at this
    obtain ⟨ts, rfl, rfl⟩ := twin hn
    exact (ldense_iff ts).mpr ((code_iff ts).mp h)
theorem ldense_ldense (a : Ms) : ldense (ldense a) = ldense a := by
  have e1 : a = fstM (a.map fun m => (m.1, m.2, (less (nums a) m.2 : Int))) := by unfold fstM; rw [List.map_map]; exact (List.map_id' _).symm
  have e2 : ldense a = sndM (a.map fun m => (m.1, m.2, (less (nums a) m.2 : Int))) := by unfold sndM ldense; rw [List.map_map]; rfl
  have h := (ldense_iff (a.map fun m => (m.1, m.2, (less (nums a) m.2 : Int)))).mpr fun p hp q hq => by
    simp at hp hq
    obtain ⟨_, x, hx, rfl⟩ := hp
    obtain ⟨_, y, hy, rfl⟩ := hq
    show x < y ↔ ((less (nums a) x : Int) < (less (nums a) y : Int))
    rw [less_iff (S := nums a) ((nums_mem _ _).mpr (by simp; exact ⟨_, hx⟩))]
    omega
  rw [← e2, ← e1] at h
  exact h.symm
/-! ### ranks by sorting -/
theorem rank_sorted : ∀ {s : List Int} {i : Nat} {x : Int}, s.Pairwise (· < ·) → s[i]? = some x → less s x = i
  | [], _, _, _, h => by simp at h
  | a :: t, 0, x, hp, h => by
    simp at h
    subst h
    have h1 := (List.pairwise_cons.mp hp).1
    unfold less
    rw [List.filter_cons_of_neg (by simp), List.filter_eq_nil_iff.mpr (fun b hb => by have := h1 b hb; simp; omega)]
    rfl
  | a :: t, i + 1, x, hp, h => by
    simp at h
    have h1 := (List.pairwise_cons.mp hp).1
    have ih := rank_sorted (List.pairwise_cons.mp hp).2 h
    have hx := h1 x (List.mem_of_getElem? h)
    unfold less at ih ⊢
    rw [List.filter_cons_of_pos (by simpa using hx), List.length_cons, ih]
theorem sorted_lt {s : List Int} (h : s.Pairwise (· ≤ ·)) (hn : s.Nodup) : s.Pairwise (· < ·) := by
  refine List.Pairwise.imp₂ (fun a b h1 h2 => ?_) h hn
  omega
theorem less_perm {s t : List Int} (h : s.Perm t) (x : Int) : less s x = less t x := (h.filter _).length_eq
theorem isort_rank {S : List Int} (hn : S.Nodup) {i : Nat} {x : Int} (h : (isort S)[i]? = some x) : less S x = i := by
  rw [← less_perm (isort_perm S)]
  exact rank_sorted (sorted_lt (isort_sorted S) ((isort_perm S).nodup_iff.mpr hn)) h
/-! ### inputs -/
def msg (m : Str × Int) : D := .tup [.str m.1, .int m.2]
def msgL (m : Str × Int) : D := .lst [.str m.1, .int m.2]
/-- a container of messages -/
def enc2 (co me : Bool) (ms : Ms) : D := (if co then D.lst else D.tup) (ms.map (if me then msg else msgL))
theorem enc_ll (ms : Ms) : enc2 true true ms = .lst (ms.map msg) := rfl
theorem snoc_msg (xs : Ms) (x : Str × Int) : xs.map msg ++ [D.tup [.str x.1, .int x.2]] = (xs ++ [x]).map msg := by simp [msg]
theorem names_at {ws : List Str} (h : 0 < ws.length) (i : Int) : ∃ w, atI (ws.map D.str) (i % (ws.length : Int)) = some (.str w) ∧ w ∈ ws := by
  have h0 : 0 ≤ i % (ws.length : Int) := Int.emod_nonneg _ (by omega)
  have h1 : i % (ws.length : Int) < ws.length := Int.emod_lt_of_pos _ (by omega)
  obtain ⟨w, e1, e2⟩ := atI_lt (xs := ws) h0 h1
  exact ⟨w, by rw [atI_map, e1]; rfl, List.mem_of_getElem? e2⟩
def nm (ws : List Str) (i : Int) : Str := (atI ws (i % (ws.length : Int))).getD ⟨#[]⟩
theorem nm_at {ws : List Str} (h : 0 < ws.length) (i : Int) : atI (ws.map D.str) (i % ((ws.map D.str).length : Int)) = some (.str (nm ws i)) ∧ nm ws i ∈ ws := by
  have h0 : 0 ≤ i % (ws.length : Int) := Int.emod_nonneg _ (by omega)
  have h1 : i % (ws.length : Int) < ws.length := Int.emod_lt_of_pos _ (by omega)
  obtain ⟨w, e1, e2⟩ := atI_lt (xs := ws) h0 h1
  unfold nm
  rw [List.length_map, atI_map, e1]
  exact ⟨rfl, List.mem_of_getElem? e2⟩
theorem input_eq (ws : List Str) (hw : 0 < ws.length) (c : Int) (n : Nat) (hn : n ≤ 1000) : ∃ ms : Ms, f__law_input [.tup (ws.map D.str), .int c, .int n] = .ok (.lst (ms.map msg)) ∧ ms.length = n ∧ ∀ m ∈ ms, m.1 ∈ ws := by
  obtain ⟨rs, e1, e2, e3⟩ := row_eq c n (by omega)
  unfold f__law_input b__law_input
  walk_at "ev"
  generalize hf : forD _ _ _ _ = o
  obtain ⟨ρ', rfl, ms, z, y, rfl, h2, h3⟩ := forD_out hf (fun pre ρ => ∃ (ms : Ms) (z y : Slot), ρ = [.val (.tup (ws.map D.str)), .val (.int c), .val (.int n), .own (ms.map msg), z, y] ∧ ms.length = pre.length ∧ ∀ m ∈ ms, m.1 ∈ ws) ⟨[], _, _, rfl, rfl, fun m h => by cases h⟩ (by
    rintro pre r post ρ he ⟨ms, z, y, rfl, hl, hm⟩
    refine ⟨_, rfl, ?_⟩
    have hlen : pre.length < n := by
      have := congrArg List.length he
      rw [List.length_append, List.length_cons, e2] at this
      omega
    obtain ⟨w, ew, hw2⟩ := names_at hw r
    have hpos : (0 : Int) < (ws.map D.str).length := by rw [List.length_map]; omega
    have hlm : ((ws.map D.str).length : Int) = ws.length := by rw [List.length_map]
    have hsz : (ms.map msg).length < sizeLine := snoc_len (n := 1000) (by omega) (by decide)
    have ew2 : atI (ws.map D.str) (r % ((ws.map D.str).length : Int)) = some (.str w) := by rw [hlm]; exact ew
    clear ew hlm
    walk_at "ev"
    refine ⟨_, .inl rfl, ms ++ [(w, r / 4 % 5 - 2)], _, _, by rw [← snoc_msg], by simp [hl], fun m h => ?_⟩
    rcases List.mem_append.mp h with h | h
    · exact hm m h
    · rw [List.mem_singleton.mp h]; exact hw2)
  have hlen : ms.length = n := by rw [h2, e2]
  walk_at "ev"
  by_cases hc : c % 3 = 0
  · walk_at "ev"
    rw [lcD_map msg (fun m => msg (m.1, m.2 * 1000003 + 17)) ms (fun m hm => ⟨_, rfl, rfl, by
      unfold msg
      walk_at "ev"⟩)]
    walk_at "ev"
    refine ⟨ms.map fun m => (m.1, m.2 * 1000003 + 17), by simp [Function.comp_def], by simp [hlen], fun m hm => ?_⟩
    obtain ⟨k, hk, rfl⟩ := List.mem_map.mp hm
    exact h3 k hk
  · walk_at "ev"
    exact ⟨ms, rfl, hlen, h3⟩
theorem lt_filter (S : List Int) (x : Int) (g : Tg) (c : Ts) (e : Ex) (ρ : Rho) (hs : ∀ y : Int, ∃ ρ1, g (.int y) ρ = some ρ1 ∧ c ρ1 = .ok (decide (y < x)) ∧ (decide (y < x) = true → e ρ1 = .ok (.int y))) : lcD g c e ρ (S.map D.int) = .ok ((S.filter fun y => decide (y < x)).map D.int) :=
  lcD_filter D.int _ D.int S fun y _ => hs y
theorem eq_filter (S : List Int) (x : Int) (g : Tg) (c : Ts) (e : Ex) (ρ : Rho) (hs : ∀ y : Int, ∃ ρ1, g (.int y) ρ = some ρ1 ∧ c ρ1 = .ok (decide (y = x)) ∧ (decide (y = x) = true → e ρ1 = .ok (.int y))) : lcD g c e ρ (S.map D.int) = .ok ((S.filter fun y => decide (y = x)).map D.int) :=
  lcD_filter D.int _ D.int S fun y _ => hs y
theorem lposition_eq (x : Int) (S : List Int) : f__law_position [.int x, .lst (S.map D.int)] = .ok (.int (2 * (less S x : Int) + (S.filter fun y => decide (y = x)).length)) := by
  unfold f__law_position b__law_position
  walk_at "ev"
  rw [lt_filter S x _ _ _ _ (fun y => ⟨_, rfl, by walk_at "ev", fun _ => by walk_at "ev"⟩)]
  walk_at "ev"
  rw [eq_filter S x _ _ _ _ (fun y => ⟨_, rfl, by walk_at "ev", fun _ => by walk_at "ev"⟩)]
  walk_at "ev"
  rw [List.length_map, List.length_map]
  rfl
theorem count_nodup {S : List Int} (h : S.Nodup) (x : Int) : ((S.filter fun y => decide (y = x)).length : Int) = if x ∈ S then 1 else 0 := by
  induction S with
  | nil => rfl
  | cons a S ih =>
    have ha := List.nodup_cons.mp h
    have ih := ih ha.2
    by_cases e : a = x
    · subst e
      rw [if_neg ha.1] at ih
      rw [List.filter_cons_of_pos (by simp), List.length_cons, if_pos List.mem_cons_self]
      omega
    · rw [List.filter_cons_of_neg (by simpa using e), ih]
      have : ¬ x = a := fun z => e z.symm
      simp [this]
theorem lposition_nd {S : List Int} (h : S.Nodup) (x : Int) : f__law_position [.int x, .lst (S.map D.int)] = .ok (.int (pos S x)) := by
  rw [lposition_eq, count_nodup h]; rfl
theorem grow_nodup {S : List Int} (h : S.Nodup) (x : Int) : (grow S x).Nodup := by
  unfold grow
  by_cases hm : x ∈ S
  · rw [if_pos hm]; exact h
  · rw [if_neg hm, List.nodup_append]
    exact ⟨h, by simp, fun a ha b hb => by rw [List.mem_singleton.mp hb]; exact fun e => hm (e ▸ ha)⟩
theorem grow_len (S : List Int) (x : Int) : (grow S x).length ≤ S.length + 1 := by
  unfold grow; split
  · omega
  · simp
theorem codeA_snoc : ∀ (pre : Ms) (S : List Int) (m : Str × Int), codeA S (pre ++ [m]) = codeA S pre ++ [(m.1, pos (pre.foldl (fun S m => grow S m.2) S) m.2)]
  | [], S, m => rfl
  | p :: pre, S, m => by
    show (p.1, pos S p.2) :: codeA (grow S p.2) (pre ++ [m]) = _
    rw [codeA_snoc pre]; rfl
def seenOf (pre : Ms) : List Int := pre.foldl (fun S m => grow S m.2) []
theorem seenOf_snoc (pre : Ms) (m : Str × Int) : seenOf (pre ++ [m]) = grow (seenOf pre) m.2 := by unfold seenOf; rw [List.foldl_append]; rfl
theorem seenOf_nodup (pre : Ms) : (seenOf pre).Nodup := by
  unfold seenOf
  have : ∀ (pre : Ms) (S : List Int), S.Nodup → (pre.foldl (fun S m => grow S m.2) S).Nodup := by
    intro pre
    induction pre with
    | nil => intro S h; exact h
    | cons m pre ih => intro S h; exact ih _ (grow_nodup h _)
  exact this pre [] List.nodup_nil
theorem seenOf_len (pre : Ms) : (seenOf pre).length ≤ pre.length := by
  unfold seenOf
  have : ∀ (pre : Ms) (S : List Int), (pre.foldl (fun S m => grow S m.2) S).length ≤ S.length + pre.length := by
    intro pre
    induction pre with
    | nil => intro S; exact Nat.le_refl _
    | cons m pre ih => intro S; have := ih (grow S m.2); have := grow_len S m.2; simp only [List.foldl_cons, List.length_cons]; omega
  simpa using this pre []
theorem codeA_len : ∀ (ms : Ms) (S : List Int), (codeA S ms).length = ms.length
  | [], _ => rfl
  | m :: r, S => by unfold codeA; rw [List.length_cons, List.length_cons, codeA_len r]
theorem ldense_eq (ms : Ms) (hn : ms.length ≤ 100000) : f__law_dense [.lst (ms.map msg)] = .ok (.lst ((ldense ms).map msg)) := by
  unfold f__law_dense b__law_dense
  walk_at "ev"
  generalize hf : forD _ _ _ _ = o
  obtain ⟨ρ', rfl, z, y, rfl⟩ := forD_out hf (fun pre ρ => ∃ (z y : Slot), ρ = [.val (.lst (ms.map msg)), .own ((nums pre).map D.int), z, y]) ⟨_, _, rfl⟩ (by
    rintro pre m post ρ he ⟨z, y, rfl⟩
    refine ⟨_, rfl, ?_⟩
    have hnum : nums (pre ++ [m]) = if m.2 ∈ nums pre then nums pre else nums pre ++ [m.2] := by
      unfold nums
      rw [List.map_append]
      have key : ∀ (xs acc : List Int), dd acc (xs ++ [m.2]) = if m.2 ∈ dd acc xs then dd acc xs else dd acc xs ++ [m.2] := by
        intro xs
        induction xs with
        | nil => intro acc; rfl
        | cons x xs ih => intro acc; exact ih _
      exact key _ _
    have hin := oIn_ints m.2 (nums pre)
    have hl1 : (nums pre).length ≤ pre.length := by
      have := (nums_nodup pre).length_le_of_subset (l₂ := pre.map (·.2)) fun y hy => (nums_mem pre y).mp hy
      simpa using this
    have hl2 : pre.length ≤ 100000 := by
      have := congrArg List.length he
      rw [List.length_append, List.length_cons] at this
      omega
    have hsz : ((nums pre).map D.int).length < sizeLine := snoc_len (n := 100000) (by omega) (by decide)
    unfold msg
    by_cases hm : m.2 ∈ nums pre
    · walk_at "ev"
      exact ⟨_, .inl rfl, _, _, rfl⟩
    · walk_at "ev"
      exact ⟨_, .inl rfl, _, _, rfl⟩)
  walk_at "ev"
  rw [lcD_map msg (fun m => msg (m.1, (less (nums ms) m.2 : Int))) ms (fun m hm => ⟨_, rfl, rfl, by
    unfold msg
    walk_at "ev"
    rw [lt_filter (nums ms) m.2 _ _ _ _ (fun y => ⟨_, rfl, by walk_at "ev", fun _ => by walk_at "ev"⟩)]
    walk_at "ev"
    rw [List.length_map]
    rfl⟩)]
  walk_at "ev"
  unfold ldense
  rw [List.map_map]
  rfl
/-! ### the program's functions on inputs -/
theorem pt_keys {κ β : Type} [DecidableEq κ] (es : List (κ × β)) (k : κ) (v : β) : (pt es k v).map (·.1) = if k ∈ es.map (·.1) then es.map (·.1) else es.map (·.1) ++ [k] := by
  unfold pt
  have h : (es.any fun kv => decide (kv.1 = k)) = decide (k ∈ es.map (·.1)) := by
    induction es with
    | nil => rfl
    | cons p es ih =>
      rw [List.any_cons, ih, List.map_cons]
      by_cases e : p.1 = k
      · simp [e]
      · have : ¬ k = p.1 := fun z => e z.symm
        simp [e, this]
  rw [h]
  by_cases hk : k ∈ es.map (·.1)
  · rw [if_pos hk, decide_eq_true hk, if_pos rfl, List.map_map]
    apply List.map_congr_left
    intro p _
    show (if p.1 = k then (p.1, v) else p).1 = p.1
    split <;> rfl
  · rw [if_neg hk, decide_eq_false hk, if_neg (by decide), List.map_append]; rfl
theorem lk_none {κ β : Type} [DecidableEq κ] {es : List (κ × β)} {k : κ} (h : k ∉ es.map (·.1)) : lk es k = none := by
  induction es with
  | nil => rfl
  | cons p es ih =>
    rw [List.map_cons, List.mem_cons, not_or] at h
    rw [lk_neg (fun z => h.1 z.symm)]
    exact ih h.2
theorem lk_snoc {κ β : Type} [DecidableEq κ] {es : List (κ × β)} {k j : κ} {v : β} : lk (es ++ [(k, v)]) j = match lk es j with
    | some x => some x
    | none => if k = j then some v else none := by
  induction es with
  | nil =>
    by_cases e : k = j
    · rw [if_pos e]; exact lk_pos e
    · rw [if_neg e]; exact lk_neg e
  | cons p es ih =>
    by_cases e : p.1 = j
    · rw [List.cons_append, lk_pos e, lk_pos e]
    · rw [List.cons_append, lk_neg e, lk_neg e]; exact ih
theorem lk_repl {κ β : Type} [DecidableEq κ] {k j : κ} {v : β} : ∀ es : List (κ × β), lk (es.map fun kv => if kv.1 = k then (kv.1, v) else kv) j = if j = k then (lk es j).map (fun _ => v) else lk es j
  | [] => by simp [lk]
  | p :: es => by
    rw [List.map_cons]
    by_cases e : p.1 = j
    · by_cases e2 : p.1 = k
      · have : j = k := e ▸ e2
        rw [if_pos e2, if_pos this, lk_pos (by exact e), lk_pos e]; rfl
      · have : ¬ j = k := fun z => e2 (e.trans z)
        rw [if_neg e2, if_neg this, lk_pos e, lk_pos e]
    · by_cases e2 : p.1 = k
      · rw [if_pos e2, lk_neg (by exact e), lk_neg e]; exact lk_repl es
      · rw [if_neg e2, lk_neg e, lk_neg e]; exact lk_repl es
theorem lk_pt {κ β : Type} [DecidableEq κ] (es : List (κ × β)) (k j : κ) (v : β) : lk (pt es k v) j = if j = k then some v else lk es j := by
  by_cases hk : k ∈ es.map (·.1)
  · have h : (es.any fun kv => decide (kv.1 = k)) = true := by
      obtain ⟨p, hp, e⟩ := List.mem_map.mp hk
      exact List.any_eq_true.mpr ⟨p, hp, decide_eq_true e⟩
    unfold pt
    rw [if_pos h, lk_repl]
    by_cases e : j = k
    · subst e
      rw [if_pos rfl, if_pos rfl]
      have hs : ∀ es : List (κ × β), j ∈ es.map (·.1) → ∃ x, lk es j = some x := by
        intro es
        induction es with
        | nil => intro h; cases h
        | cons p es ih =>
          intro h
          by_cases e : p.1 = j
          · exact ⟨_, lk_pos e⟩
          · rw [lk_neg e]
            refine ih ?_
            rw [List.map_cons] at h
            rcases List.mem_cons.mp h with z | z
            · exact absurd z.symm e
            · exact z
      obtain ⟨x, hx⟩ := hs es hk
      rw [hx]; rfl
    · rw [if_neg e, if_neg e]
  · have h : (es.any fun kv => decide (kv.1 = k)) = false := by
      cases hh : es.any fun kv => decide (kv.1 = k) with
      | false => rfl
      | true =>
        obtain ⟨p, hp, e⟩ := List.any_eq_true.mp hh
        exact absurd (List.mem_map.mpr ⟨p, hp, of_decide_eq_true e⟩) hk
    unfold pt
    rw [h, if_neg (by decide), lk_snoc]
    by_cases e : j = k
    · subst e; rw [if_pos rfl, lk_none hk]; simp
    · rw [if_neg e]
      cases lk es j with
      | some x => rfl
      | none => simp [show ¬ k = j from fun z => e z.symm]
theorem lk_fold {α β κ : Type} [DecidableEq κ] (kf : α → κ) (f : α → β) : ∀ (as : List α) (acc : List (κ × β)) (a : α), a ∈ as → (∀ b ∈ as, kf b = kf a → f b = f a) → lk (as.foldl (fun acc a => pt acc (kf a) (f a)) acc) (kf a) = some (f a) := by
  intro as
  have key : ∀ (as : List α) (acc : List (κ × β)) (k : κ) (v : β), (∀ b ∈ as, kf b = k → f b = v) → (lk acc k = some v ∨ ∃ b ∈ as, kf b = k) → lk (as.foldl (fun acc a => pt acc (kf a) (f a)) acc) k = some v := by
    intro as
    induction as with
    | nil => intro acc k v _ h; rcases h with h | ⟨_, h, _⟩; exact h; cases h
    | cons b as ih =>
      intro acc k v hu h
      rw [List.foldl_cons]
      refine ih _ k v (fun c hc => hu c (List.mem_cons_of_mem _ hc)) ?_
      rw [lk_pt]
      by_cases e : k = kf b
      · left; rw [if_pos e, hu b List.mem_cons_self e.symm]
      · rw [if_neg e]
        rcases h with h | ⟨c, hc, hk⟩
        · exact .inl h
        · rcases List.mem_cons.mp hc with rfl | hc
          · exact absurd hk.symm e
          · exact .inr ⟨c, hc, hk⟩
  intro acc a ha hu
  exact key as acc (kf a) (f a) hu (.inr ⟨a, ha, rfl⟩)
theorem keyInts_of : ∀ {es : List (Key × D)} {ns : List Int}, es.map (·.1) = ns.map Sum.inl → keyInts es = some ns
  | [], [], _ => rfl
  | [], _ :: _, h => by simp at h
  | _ :: _, [], h => by simp at h
  | (k, d) :: es, n :: ns, h => by
    rw [List.map_cons, List.map_cons] at h
    injection h with h1 h2
    have h1 : k = Sum.inl n := h1
    subst h1
    show (keyInts es).map _ = _
    rw [keyInts_of h2]; rfl
theorem keys_fold {α : Type} (kf : α → Int) (f : α → D) : ∀ (as : List α) (acc : List (Key × D)) (S : List Int), acc.map (·.1) = S.map Sum.inl → (as.foldl (fun acc a => pt acc (Sum.inl (kf a)) (f a)) acc).map (·.1) = (dd S (as.map kf)).map Sum.inl
  | [], acc, S, h => h
  | a :: as, acc, S, h => by
    rw [List.foldl_cons, List.map_cons]
    unfold dd
    refine keys_fold kf f as _ _ ?_
    rw [pt_keys, h]
    by_cases hm : kf a ∈ S
    · rw [if_pos (List.mem_map.mpr ⟨_, hm, rfl⟩), if_pos hm]
    · rw [if_neg (fun z => by obtain ⟨y, hy, e⟩ := List.mem_map.mp z; cases e; exact hm hy), if_neg hm, List.map_append]; rfl
theorem unp2 {i j : Nat} {a b : D} {ρ : Rho} {d : D} (h : d = .tup [a, b] ∨ d = .lst [a, b]) : gUnp 2 (gsCons (gSet i) (gsCons (gSet j) gsNil)) d ρ = some ((ρ.set i (.val a)).set j (.val b)) := by
  rcases h with rfl | rfl <;> rfl
def encM (me : Bool) : Str × Int → D := if me then msg else msgL
theorem encM_unp (me : Bool) (m : Str × Int) : encM me m = .tup [.str m.1, .int m.2] ∨ encM me m = .lst [.str m.1, .int m.2] := by cases me; exact .inr rfl; exact .inl rfl
theorem encM0 (me : Bool) (m : Str × Int) : oIx (encM me m) (.int 0) = some (.str m.1) := by cases me <;> exact at0 _ _
theorem encM1 (me : Bool) (m : Str × Int) : oIx (encM me m) (.int 1) = some (.int m.2) := by cases me <;> exact at1 _ _ _
theorem enc2_eq (co me : Bool) (ms : Ms) : enc2 co me ms = (if co then D.lst else D.tup) (ms.map (encM me)) := rfl
theorem integers_eq (co me : Bool) (ms : Ms) : f_integers_of [enc2 co me ms] = .ok (.lst ((isort (nums ms)).map D.int)) := by
  have hk := keys_fold (fun m : Str × Int => m.2) (fun _ => D.bl true) ms [] [] rfl
  have hd : ∀ ρ : Rho, dcD (gUnp 2 (gsCons (gSet 1) (gsCons (gSet 2) gsNil))) tYes' (eVar 2) (eC (.bl true)) [.val (enc2 co me ms), .none, .none] [] (ms.map (encM me)) = .ok (ms.foldl (fun acc a => pt acc (Sum.inl a.2) (D.bl true)) []) := fun _ =>
    dcD_fold (encM me) (fun m => Sum.inl m.2) (fun _ => D.bl true) ms [] fun m hm => ⟨_, _, unp2 (encM_unp me m), rfl, rfl, rfl, rfl⟩
  have hk2 := keyInts_of hk
  unfold f_integers_of b_integers_of
  cases co
  · have e : enc2 false me ms = .tup (ms.map (encM me)) := rfl
    rw [e] at hd ⊢
    simp only [fnD, sRet, Rthen, eCallB, evs, eDc, iAny, eVar, R.bind, wipeR, List.map_cons, List.map_nil, List.cons_append, List.nil_append, List.replicate, List.getElem?_cons_zero, List.set_cons_zero, List.set_cons_succ, hd [], R.quiet, oSorted, hk2, Option.map_some, ofO]
    rfl
  · have e : enc2 true me ms = .lst (ms.map (encM me)) := rfl
    rw [e] at hd ⊢
    simp only [fnD, sRet, Rthen, eCallB, evs, eDc, iAny, eVar, R.bind, wipeR, List.map_cons, List.map_nil, List.cons_append, List.nil_append, List.replicate, List.getElem?_cons_zero, List.set_cons_zero, List.set_cons_succ, hd [], R.quiet, oSorted, hk2, Option.map_some, ofO]
    rfl
theorem enumD_ints (S : List Int) : enumD (S.map D.int) = S.zipIdx.map fun p => D.tup [.int (p.2 : Nat), .int p.1] := by
  unfold enumD
  rw [List.mapIdx_eq_zipIdx_map, List.zipIdx_map, List.map_map]
  rfl
theorem dense_eq (co me : Bool) (ms : Ms) : f_dense [enc2 co me ms] = .ok (.lst ((ldense ms).map msg)) := by
  have hi := integers_eq co me ms
  obtain ⟨S, hS⟩ : ∃ S, S = isort (nums ms) := ⟨_, rfl⟩
  rw [← hS] at hi
  obtain ⟨R0, hR⟩ : ∃ R0 : List (Key × D), R0 = S.zipIdx.foldl (fun acc p => pt acc (Sum.inl p.1) (D.int (p.2 : Nat))) [] := ⟨_, rfl⟩
  have hd : dcD (gUnp 2 (gsCons (gSet 2) (gsCons (gSet 3) gsNil))) tYes' (eVar 3) (eVar 2) [.val (enc2 co me ms), .none, .none, .none, .none] [] (enumD (S.map D.int)) = .ok R0 := by
    rw [enumD_ints, hR]
    exact dcD_fold (fun p : Int × Nat => D.tup [.int (p.2 : Nat), .int p.1]) (fun p => Sum.inl p.1) (fun p => D.int (p.2 : Nat)) S.zipIdx [] fun p hp => ⟨_, _, unp2 (.inl rfl), rfl, rfl, rfl, rfl⟩
  have hlk : ∀ m ∈ ms, lk R0 (Sum.inl m.2) = some (.int (less (nums ms) m.2 : Int)) := fun m hm => by
    have h1 : m.2 ∈ S := hS ▸ (isort_perm _).mem_iff.mpr ((nums_mem _ _).mpr (List.mem_map.mpr ⟨m, hm, rfl⟩))
    obtain ⟨i, hi, e⟩ := List.mem_iff_getElem.mp h1
    have h2 : S[i]? = some m.2 := by rw [List.getElem?_eq_getElem hi, e]
    have hr : ∀ j, S[j]? = some m.2 → j = less (nums ms) m.2 := fun j hj => (isort_rank (nums_nodup ms) (hS ▸ hj)).symm
    have h3 : (m.2, i) ∈ S.zipIdx := List.mk_mem_zipIdx_iff_getElem?.mpr h2
    have := lk_fold (fun p : Int × Nat => (Sum.inl p.1 : Key)) (fun p => D.int (p.2 : Nat)) S.zipIdx [] (m.2, i) h3 fun b hb e => by
      have e' : b.1 = m.2 := Sum.inl.inj e
      have hb2 := List.mk_mem_zipIdx_iff_getElem?.mp (show (b.1, b.2) ∈ S.zipIdx from hb)
      rw [e'] at hb2
      show D.int _ = D.int _
      rw [hr _ hb2, ← hr _ h2]
    rw [hr _ h2] at this
    rw [hR]; exact this
  have hl : ∀ ρ4 : Slot, lcD (gSet 4) tYes' (eTup [(eOp oIx (eVar 4) (eC (.int 0))), (eOp oIx (eVar 1) (eOp oIx (eVar 4) (eC (.int 1))))]) [.val (enc2 co me ms), .val (.dic R0), .none, .none, .none] (ms.map (encM me)) = .ok (ms.map fun m => msg (m.1, (less (nums ms) m.2 : Int))) := fun _ =>
    lcD_map (encM me) _ ms fun m hm => ⟨_, rfl, rfl, by
      have e0 := encM0 me m
      have e1 := encM1 me m
      have e2 : oIx (.dic R0) (.int m.2) = some (.int (less (nums ms) m.2 : Int)) := by
        show (some (Sum.inl m.2 : Key)).bind (fun k => lk R0 k) = _
        exact hlk m hm
      simp only [eTup, evs, eOp, eVar, eC, R.bind, List.set_cons_zero, List.set_cons_succ, List.getElem?_cons_zero, List.getElem?_cons_succ, e0, e1, e2, ofO, msg]⟩
  have hres : (ms.map fun m => msg (m.1, (less (nums ms) m.2 : Int))) = (ldense ms).map msg := by unfold ldense; rw [List.map_map]; rfl
  unfold f_dense b_dense
  cases co
  · have e : enc2 false me ms = .tup (ms.map (encM me)) := rfl
    rw [e] at hd hl hi ⊢
    simp only [fnD, sSeq, sSet, sRet, Rthen, eCall, evs, eDc, eLc, iAny, iEnumD, eVar, R.bind, wipeR, List.map_cons, List.map_nil, List.cons_append, List.nil_append, List.replicate, List.getElem?_cons_zero, List.getElem?_cons_succ, List.set_cons_zero, List.set_cons_succ, hi, hd, hl .none, R.quiet, hres]
  · have e : enc2 true me ms = .lst (ms.map (encM me)) := rfl
    rw [e] at hd hl hi ⊢
    simp only [fnD, sSeq, sSet, sRet, Rthen, eCall, evs, eDc, eLc, iAny, iEnumD, eVar, R.bind, wipeR, List.map_cons, List.map_nil, List.cons_append, List.nil_append, List.replicate, List.getElem?_cons_zero, List.getElem?_cons_succ, List.set_cons_zero, List.set_cons_succ, hi, hd, hl .none, R.quiet, hres]
def okM (ms : Ms) : Prop := ∀ m ∈ ms, PyData.strOk m.1 = true
theorem eqe_ms : EqE (fun l : Ms => D.lst (l.map msg)) (fun l => ∀ m ∈ l, PyData.strOk m.1 = true ∧ True) 2 := (EqE.pair EqE.str EqE.int).lst
theorem ms_eq {a b : Ms} (ha : okM a) (hb : okM b) : oEq (.lst (a.map msg)) (.lst (b.map msg)) = some (.bl (decide (a = b))) := eqe_ms.eq (fun m h => ⟨ha m h, trivial⟩) (fun m h => ⟨hb m h, trivial⟩)
theorem ms_ne {a b : Ms} (ha : okM a) (hb : okM b) : oNe (.lst (a.map msg)) (.lst (b.map msg)) = some (.bl (!decide (a = b))) := eqe_ms.ne (fun m h => ⟨ha m h, trivial⟩) (fun m h => ⟨hb m h, trivial⟩)
theorem okM_names {a b : Ms} (h : a.map (·.1) = b.map (·.1)) (hb : okM b) : okM a := fun m hm => by
  have : m.1 ∈ b.map (·.1) := by rw [← h]; exact List.mem_map.mpr ⟨m, hm, rfl⟩
  obtain ⟨n, hn, e⟩ := List.mem_map.mp this
  rw [← e]; exact hb n hn
theorem okM_dense {a : Ms} (h : okM a) : okM (ldense a) := okM_names (ldense_names a) h
theorem okM_code {a : Ms} (h : okM a) : okM (code a) := okM_names (codeA_names [] a) h
theorem alike_eq (c1 m1 c2 m2 : Bool) {a b : Ms} (ha : okM a) (hb : okM b) : f_alike [enc2 c1 m1 a, enc2 c2 m2 b] = .ok (.bl (decide (ldense a = ldense b))) := by
  have h1 := dense_eq c1 m1 a
  have h2 := dense_eq c2 m2 b
  have h3 := ms_eq (okM_dense ha) (okM_dense hb)
  unfold f_alike b_alike
  simp only [fnD, sRet, Rthen, eOp, eCall, evs, eVar, R.bind, List.map_cons, List.map_nil, List.cons_append, List.nil_append, List.replicate, List.getElem?_cons_zero, List.getElem?_cons_succ, h1, h2, h3, ofO]
/-! ### placings and joined inputs: plain mathematics -/
def Up (n : Nat) (a : Nat → Int) : Prop := ∀ i j, i < j → j < n → a i < a j
theorem Up.iff {n : Nat} {a : Nat → Int} (h : Up n a) {i j : Nat} (hi : i < n) (hj : j < n) : a i < a j ↔ i < j := by
  constructor
  · intro e
    rcases Nat.lt_trichotomy i j with z | z | z
    · exact z
    · subst z; omega
    · have := h j i z hi; omega
  · intro e; exact h i j e hj
def rk (ms : Ms) (x : Int) : Nat := less (nums ms) x
theorem nums_in {ms : Ms} {m : Str × Int} (h : m ∈ ms) : m.2 ∈ nums ms := (nums_mem ms _).mpr (List.mem_map_of_mem h)
theorem rk_lt {ms : Ms} {m : Str × Int} (h : m ∈ ms) : rk ms m.2 < (nums ms).length := by
  unfold rk less
  have := filter_strict (l := nums ms) (p := fun y => decide (y < m.2)) (q := fun _ => true) (fun _ _ _ => rfl) ⟨m.2, nums_in h, by simp, rfl⟩
  rwa [List.filter_eq_self.mpr (fun _ _ => rfl)] at this
theorem rk_iff {ms : Ms} {m m' : Str × Int} (h : m ∈ ms) : m.2 < m'.2 ↔ rk ms m.2 < rk ms m'.2 := less_iff (nums_in h)
theorem rk_surj {ms : Ms} {k : Nat} (h : k < (nums ms).length) : ∃ m ∈ ms, rk ms m.2 = k := by
  have hl : k < (isort (nums ms)).length := by rw [(isort_perm _).length_eq]; exact h
  have hg := List.getElem?_eq_getElem hl
  have h1 := isort_rank (nums_nodup ms) hg
  have h2 : (isort (nums ms))[k] ∈ nums ms := (isort_perm _).mem_iff.mp (List.getElem_mem hl)
  obtain ⟨m, hm, e⟩ := List.mem_map.mp ((nums_mem ms _).mp h2)
  exact ⟨m, hm, by rw [e]; exact h1⟩
/-- the input with its k-th integer replaced by a k -/
def Fv (ms : Ms) (a : Nat → Int) : Ms := ms.map fun m => (m.1, a (rk ms m.2))
def Tv (f e : Ms) (a b : Nat → Int) : Ms := Fv f a ++ Fv e b
def twv (ms : Ms) (a a' : Nat → Int) : Tw := ms.map fun m => (m.1, a (rk ms m.2), a' (rk ms m.2))
theorem fst_twv (ms : Ms) (a a' : Nat → Int) : fstM (twv ms a a') = Fv ms a := by unfold fstM twv Fv; rw [List.map_map]; rfl
theorem snd_twv (ms : Ms) (a a' : Nat → Int) : sndM (twv ms a a') = Fv ms a' := by unfold sndM twv Fv; rw [List.map_map]; rfl
theorem twv_pairs {ms : Ms} {a a' : Nat → Int} {p : Int × Int} : p ∈ (twv ms a a').map (·.2) ↔ ∃ i, i < (nums ms).length ∧ p = (a i, a' i) := by
  unfold twv
  rw [List.map_map]
  constructor
  · intro h
    obtain ⟨m, hm, e⟩ := List.mem_map.mp h
    exact ⟨_, rk_lt hm, e.symm⟩
  · rintro ⟨i, hi, rfl⟩
    obtain ⟨m, hm, e⟩ := rk_surj hi
    exact List.mem_map.mpr ⟨m, hm, by simp [e]⟩
theorem Fv_alike {ms : Ms} {a : Nat → Int} (ha : Up (nums ms).length a) : ldense (Fv ms a) = ldense ms := by
  have h : ldense (fstM (ms.map fun m => (m.1, a (rk ms m.2), m.2))) = ldense (sndM (ms.map fun m => (m.1, a (rk ms m.2), m.2))) := by
    rw [ldense_iff]
    intro p hp q hq
    rw [List.map_map] at hp hq
    obtain ⟨m, hm, rfl⟩ := List.mem_map.mp hp
    obtain ⟨m', hm', rfl⟩ := List.mem_map.mp hq
    show a (rk ms m.2) < a (rk ms m'.2) ↔ m.2 < m'.2
    rw [ha.iff (rk_lt hm) (rk_lt hm'), rk_iff hm]
  have h1 : fstM (ms.map fun m => (m.1, a (rk ms m.2), m.2)) = Fv ms a := by unfold fstM Fv; rw [List.map_map]; rfl
  have h2 : sndM (ms.map fun m => (m.1, a (rk ms m.2), m.2)) = ms := by unfold sndM; rw [List.map_map]; exact List.map_id' ms
  rw [h1, h2] at h
  exact h
/-- values of b, below m -/
def bl (m : Nat) (b : Nat → Int) : List Int := (List.range m).map b
theorem mem_bl {m : Nat} {b : Nat → Int} {x : Int} : x ∈ bl m b ↔ ∃ j, j < m ∧ b j = x := by unfold bl; simp
theorem less_bl {m : Nat} {b : Nat → Int} (hb : Up m b) {j : Nat} (hj : j < m) : less (bl m b) (b j) = j := by
  have hs : (bl m b).Pairwise (· < ·) := by
    unfold bl
    rw [List.pairwise_map]
    refine List.Pairwise.imp_of_mem ?_ (List.pairwise_lt_range (n := m))
    intro x y _ hy h
    exact hb x y h (by simpa using hy)
  exact rank_sorted hs (by unfold bl; rw [List.getElem?_map, List.getElem?_range hj]; rfl)
theorem less_bl_le {m : Nat} {b : Nat → Int} {x : Int} : less (bl m b) x ≤ m := by
  unfold less
  refine Nat.le_trans (List.length_filter_le _ _) ?_
  unfold bl; simp
def place (n m : Nat) (a b : Nat → Int) : List Int := (List.range n).map fun k => pos (bl m b) (a k)
theorem pos_lo {m : Nat} {b : Nat → Int} (hb : Up m b) {j : Nat} (hj : j < m) {x : Int} : b j < x ↔ 2 * (j : Int) + 1 < pos (bl m b) x := by
  have h0 := less_bl hb hj
  have hm : b j ∈ bl m b := mem_bl.mpr ⟨j, hj, rfl⟩
  constructor
  · intro h
    have := less_lt hm h
    unfold pos; split <;> omega
  · intro h
    by_cases e : b j < x
    · exact e
    · rcases Int.lt_trichotomy x (b j) with z | z | z
      · have h1 := less_le (S := bl m b) (Int.le_of_lt z)
        by_cases hx : x ∈ bl m b
        · have := less_lt hx z
          unfold pos at h; rw [if_pos hx] at h; omega
        · unfold pos at h; rw [if_neg hx] at h; omega
      · subst z; unfold pos at h; rw [if_pos hm] at h; omega
      · exact absurd z e
theorem pos_hi {m : Nat} {b : Nat → Int} (hb : Up m b) {j : Nat} (hj : j < m) {x : Int} : x < b j ↔ pos (bl m b) x < 2 * (j : Int) + 1 := by
  have h0 := less_bl hb hj
  have hm : b j ∈ bl m b := mem_bl.mpr ⟨j, hj, rfl⟩
  constructor
  · intro h
    have h1 := less_le (S := bl m b) (Int.le_of_lt h)
    by_cases hx : x ∈ bl m b
    · have := less_lt hx h
      unfold pos; rw [if_pos hx]; omega
    · unfold pos; rw [if_neg hx]; omega
  · intro h
    rcases Int.lt_trichotomy x (b j) with z | z | z
    · exact z
    · subst z; unfold pos at h; rw [if_pos hm] at h; omega
    · have := (pos_lo hb hj).mp z; omega
theorem Tv_iff {f e : Ms} {a a' b b' : Nat → Int} (ha : Up (nums f).length a) (ha' : Up (nums f).length a') (hb : Up (nums e).length b) (hb' : Up (nums e).length b') :
    ldense (Tv f e a b) = ldense (Tv f e a' b') ↔ place (nums f).length (nums e).length a b = place (nums f).length (nums e).length a' b' := by
  have h1 : Tv f e a b = fstM (twv f a a' ++ twv e b b') := by unfold Tv; rw [← fst_twv f a a', ← fst_twv e b b']; unfold fstM; rw [List.map_append]
  have h2 : Tv f e a' b' = sndM (twv f a a' ++ twv e b b') := by unfold Tv; rw [← snd_twv f a a', ← snd_twv e b b']; unfold sndM; rw [List.map_append]
  rw [h1, h2, ldense_iff, List.map_append]
  have hp : place (nums f).length (nums e).length a b = place (nums f).length (nums e).length a' b' ↔ ∀ i, i < (nums f).length → pos (bl (nums e).length b) (a i) = pos (bl (nums e).length b') (a' i) := by
    unfold place
    constructor
    · intro h i hi
      have := congrArg (fun l : List Int => l[i]?) h
      simpa [List.getElem?_map, List.getElem?_range hi] using this
    · intro h
      apply List.map_congr_left
      intro i hi
      exact h i (by simpa using hi)
  rw [hp]
  constructor
  · intro hm i hi
    have e1 : bl (nums e).length b = (((List.range (nums e).length).map fun j => (b j, b' j)).map (·.1)) := by unfold bl; rw [List.map_map]; rfl
    have e2 : bl (nums e).length b' = (((List.range (nums e).length).map fun j => (b j, b' j)).map (·.2)) := by unfold bl; rw [List.map_map]; rfl
    have hsub : ∀ q ∈ ((List.range (nums e).length).map fun j => (b j, b' j)) ++ [(a i, a' i)], q ∈ (twv f a a').map (·.2) ++ (twv e b b').map (·.2) := by
      intro q hq
      rcases List.mem_append.mp hq with hq | hq
      · obtain ⟨j, hj, rfl⟩ := List.mem_map.mp hq
        exact List.mem_append_right _ (twv_pairs.mpr ⟨j, by simpa using hj, rfl⟩)
      · rw [List.mem_singleton.mp hq]
        exact List.mem_append_left _ (twv_pairs.mpr ⟨i, hi, rfl⟩)
    rw [e1, e2]
    refine (pos_iff (fun p hp q hq => hm p (hsub p (List.mem_append_left _ hp)) q (hsub q (List.mem_append_left _ hq))) _ _).mpr fun p hp q hq => hm p (hsub p hp) q (hsub q hq)
  · intro h p hp q hq
    rcases List.mem_append.mp hp with hp | hp <;> rcases List.mem_append.mp hq with hq | hq <;> obtain ⟨i, hi, rfl⟩ := twv_pairs.mp hp <;> obtain ⟨j, hj, rfl⟩ := twv_pairs.mp hq
    · exact (ha.iff hi hj).trans (ha'.iff hi hj).symm
    · show a i < b j ↔ a' i < b' j
      rw [pos_hi hb hj, pos_hi hb' hj, h i hi]
    · show b i < a j ↔ b' i < a' j
      rw [pos_lo hb hi, pos_lo hb' hi, h j hj]
    · exact (hb.iff hi hj).trans (hb'.iff hi hj).symm
/-! ### the rows of positions -/
def Rr (x y : Int) : Prop := x + x % 2 ≤ y
theorem Rr.trans {x y z : Int} (h : Rr x y) (k : Rr y z) : Rr x z := by unfold Rr at *; omega
structure Row (n m : Nat) (p : List Int) : Prop where
  len : p.length = n
  asc : p.Pairwise Rr
  lim : ∀ x ∈ p, 0 ≤ x ∧ x ≤ 2 * (m : Int)
theorem place_row {n m : Nat} {a b : Nat → Int} (ha : Up n a) (hb : Up m b) : Row n m (place n m a b) := by
  refine ⟨by simp [place], ?_, fun x hx => ?_⟩
  · unfold place
    rw [List.pairwise_map]
    refine List.Pairwise.imp_of_mem ?_ (List.pairwise_lt_range (n := n))
    intro i l hi hl h
    have hl : l < n := by simpa using hl
    have hlt := ha i l h hl
    by_cases hx : a i ∈ bl m b
    · obtain ⟨j, hj, e⟩ := mem_bl.mp hx
      have h1 := (pos_lo hb hj).mp (e ▸ hlt)
      have h2 := less_bl hb hj
      rw [e] at h2
      unfold Rr
      have h3 : pos (bl m b) (a i) = 2 * (j : Int) + 1 := by unfold pos; rw [if_pos hx, h2]
      rw [h3]; omega
    · have h1 := less_le (S := bl m b) (Int.le_of_lt hlt)
      unfold Rr pos
      rw [if_neg hx]
      split <;> omega
  · unfold place at hx
    obtain ⟨k, hk, rfl⟩ := List.mem_map.mp hx
    by_cases hin : a k ∈ bl m b
    · obtain ⟨j, hj, e⟩ := mem_bl.mp hin
      have h2 := less_bl hb hj
      rw [e] at h2
      unfold pos; rw [if_pos hin, h2]; omega
    · have := less_bl_le (m := m) (b := b) (x := a k)
      unfold pos; rw [if_neg hin]; omega
def least (r : List Int) : Int := match r.getLast? with
  | none => 0
  | some x => x + x % 2
def nexts (m : Nat) (r : List Int) : List Int := (List.range (2 * (m : Int) + 1 - least r).toNat).map fun i : Nat => least r + (i : Int)
def step (m : Nat) (rs : List (List Int)) : List (List Int) := rs.flatMap fun r => (nexts m r).map fun q => r ++ [q]
def rowsN (m : Nat) : Nat → List (List Int)
  | 0 => [[]]
  | n + 1 => step m (rowsN m n)
theorem mem_nexts {m : Nat} {r : List Int} {q : Int} : q ∈ nexts m r ↔ least r ≤ q ∧ q ≤ 2 * (m : Int) := by
  unfold nexts
  rw [List.mem_map]
  constructor
  · rintro ⟨i, hi, rfl⟩
    have : i < (2 * (m : Int) + 1 - least r).toNat := by simpa using hi
    omega
  · rintro ⟨h1, h2⟩
    exact ⟨(q - least r).toNat, by simp; omega, by omega⟩
theorem mem_step {m : Nat} {rs : List (List Int)} {p : List Int} : p ∈ step m rs ↔ ∃ r ∈ rs, ∃ q, least r ≤ q ∧ q ≤ 2 * (m : Int) ∧ p = r ++ [q] := by
  unfold step
  rw [List.mem_flatMap]
  constructor
  · rintro ⟨r, hr, h⟩
    obtain ⟨q, hq, rfl⟩ := List.mem_map.mp h
    obtain ⟨h1, h2⟩ := mem_nexts.mp hq
    exact ⟨r, hr, q, h1, h2, rfl⟩
  · rintro ⟨r, hr, q, h1, h2, rfl⟩
    exact ⟨r, hr, List.mem_map.mpr ⟨q, mem_nexts.mpr ⟨h1, h2⟩, rfl⟩⟩
theorem Row.snoc {n m : Nat} {r : List Int} {q : Int} : Row (n + 1) m (r ++ [q]) ↔ Row n m r ∧ least r ≤ q ∧ q ≤ 2 * (m : Int) := by
  constructor
  · rintro ⟨h1, h2, h3⟩
    rw [List.pairwise_append] at h2
    refine ⟨⟨by simpa using h1, h2.1, fun x hx => h3 x (List.mem_append_left _ hx)⟩, ?_, (h3 q (by simp)).2⟩
    unfold least
    split
    · exact (h3 q (by simp)).1
    · rename_i x hx
      exact h2.2.2 x (List.mem_of_getLast? hx) q (by simp)
  · rintro ⟨⟨h1, h2, h3⟩, h4, h5⟩
    have hlast : ∀ x ∈ r, Rr x q := fun x hx => by
      rcases List.eq_nil_or_concat r with e | ⟨l, y, e⟩
      · subst e; cases hx
      · rw [List.concat_eq_append] at e
        subst e
        have hy : least (l ++ [y]) = y + y % 2 := by unfold least; simp
        rw [hy] at h4
        rcases List.mem_append.mp hx with hx | hx
        · exact ((List.pairwise_append.mp h2).2.2 x hx y (by simp)).trans h4
        · rw [List.mem_singleton.mp hx]; exact h4
    have h0 : 0 ≤ q := by
      refine Int.le_trans ?_ h4
      unfold least
      split
      · exact Int.le_refl _
      · rename_i x hx
        have := (h3 x (List.mem_of_getLast? hx)).1
        omega
    refine ⟨by simp [h1], List.pairwise_append.mpr ⟨h2, by simp, fun x hx y hy => by rw [List.mem_singleton.mp hy]; exact hlast x hx⟩, fun x hx => ?_⟩
    rcases List.mem_append.mp hx with hx | hx
    · exact h3 x hx
    · rw [List.mem_singleton.mp hx]; exact ⟨h0, h5⟩
theorem mem_rows {m : Nat} : ∀ {n : Nat} {p : List Int}, p ∈ rowsN m n ↔ Row n m p
  | 0, p => by
    unfold rowsN
    rw [List.mem_singleton]
    constructor
    · rintro rfl; exact ⟨rfl, .nil, fun _ h => nomatch h⟩
    · intro h; exact List.length_eq_zero_iff.mp h.len
  | n + 1, p => by
    unfold rowsN
    rw [mem_step]
    constructor
    · rintro ⟨r, hr, q, h1, h2, rfl⟩
      exact Row.snoc.mpr ⟨mem_rows.mp hr, h1, h2⟩
    · intro h
      rcases List.eq_nil_or_concat p with e | ⟨l, y, e⟩
      · subst e; have := h.len; simp at this
      · rw [List.concat_eq_append] at e
        subst e
        obtain ⟨h1, h2, h3⟩ := Row.snoc.mp h
        exact ⟨l, mem_rows.mpr h1, y, h2, h3, rfl⟩
theorem nexts_nodup (m : Nat) (r : List Int) : (nexts m r).Nodup := by
  unfold nexts
  refine List.Pairwise.map _ ?_ (List.nodup_range (n := _))
  intro a b h e
  exact h (by omega)
theorem rows_nodup (m : Nat) : ∀ n, (rowsN m n).Nodup
  | 0 => by unfold rowsN; simp
  | n + 1 => by
    unfold rowsN step
    refine List.pairwise_flatMap.mpr ⟨fun r _ => ?_, ?_⟩
    · refine List.Pairwise.map _ ?_ (nexts_nodup m r)
      intro a b h e
      exact h (by simpa using e)
    · refine List.Pairwise.imp ?_ (rows_nodup m n)
      intro r s h x hx y hy e
      obtain ⟨q, _, rfl⟩ := List.mem_map.mp hx
      obtain ⟨q', _, rfl⟩ := List.mem_map.mp hy
      exact h (List.append_inj_left' e rfl)
theorem nexts_len {n m : Nat} {r : List Int} (h : Row n m r) : (nexts m r).length ≤ 2 * m + 1 := by
  unfold nexts
  rw [List.length_map, List.length_range]
  have : 0 ≤ least r := by
    unfold least
    split
    · exact Int.le_refl _
    · rename_i x hx
      have := (h.lim x (List.mem_of_getLast? hx)).1
      omega
  omega
theorem flat_len {α β : Type} {f : α → List β} {c : Nat} : ∀ {l : List α}, (∀ a ∈ l, (f a).length ≤ c) → (l.flatMap f).length ≤ l.length * c
  | [], _ => by simp
  | a :: l, h => by
    have ih := flat_len (l := l) fun b hb => h b (List.mem_cons_of_mem _ hb)
    have := h a List.mem_cons_self
    rw [List.flatMap_cons, List.length_append, List.length_cons, Nat.succ_mul]
    omega
theorem rows_len (m : Nat) : ∀ n, (rowsN m n).length ≤ (2 * m + 1) ^ n
  | 0 => by unfold rowsN; simp
  | n + 1 => by
    unfold rowsN step
    refine Nat.le_trans (flat_len (c := 2 * m + 1) fun r hr => ?_) ?_
    · rw [List.length_map]; exact nexts_len (mem_rows.mp hr)
    · rw [Nat.pow_succ]; exact Nat.mul_le_mul_right _ (rows_len m n)
/-! ### the values that stand for a row of positions -/
def vq (p : List Int) (k : Nat) : Int := (p.getD k 0 + 1) / 2
def vr (p : List Int) (k : Nat) : Int := (1 - p.getD k 0 % 2) * ((k : Int) + 1)
def va (w : Int) (p : List Int) (k : Nat) : Int := w * vq p k + vr p k
def vb (w : Int) (k : Nat) : Int := w * ((k : Int) + 1)
theorem lex_lt {w q r q' r' : Int} (h0 : 0 ≤ r) (h1 : r < w) (h2 : 0 ≤ r') (h3 : r' < w) : w * q + r < w * q' + r' ↔ q < q' ∨ (q = q' ∧ r < r') := by
  constructor
  · intro h
    rcases Int.lt_trichotomy q q' with z | z | z
    · exact .inl z
    · subst z; exact .inr ⟨rfl, by omega⟩
    · exfalso
      have : w * (q' + 1) ≤ w * q := Int.mul_le_mul_of_nonneg_left (by omega) (by omega)
      rw [Int.mul_add, Int.mul_one] at this
      omega
  · rintro (h | ⟨rfl, h⟩)
    · have : w * (q + 1) ≤ w * q' := Int.mul_le_mul_of_nonneg_left (by omega) (by omega)
      rw [Int.mul_add, Int.mul_one] at this
      omega
    · omega
theorem mod2 (x : Int) : x % 2 = 0 ∨ x % 2 = 1 := by omega
theorem vr_lo {p : List Int} {k n : Nat} {w : Int} (hk : k < n) (hw : (n : Int) < w) : 0 ≤ vr p k ∧ vr p k < w := by
  unfold vr
  rcases mod2 (p.getD k 0) with e | e <;> rw [e] <;> omega
theorem Row.at {n m : Nat} {p : List Int} (h : Row n m p) {k : Nat} (hk : k < n) : 0 ≤ p.getD k 0 ∧ p.getD k 0 ≤ 2 * (m : Int) := by
  have hk' : k < p.length := by rw [h.len]; exact hk
  have e : p.getD k 0 = p[k] := by simp [List.getD, List.getElem?_eq_getElem hk']
  rw [e]; exact h.lim _ (List.getElem_mem hk')
theorem Row.lt {n m : Nat} {p : List Int} (h : Row n m p) {i j : Nat} (hij : i < j) (hj : j < n) : p.getD i 0 + p.getD i 0 % 2 ≤ p.getD j 0 := by
  have hj' : j < p.length := by rw [h.len]; exact hj
  have hi' : i < p.length := by omega
  have e1 : p.getD i 0 = p[i] := by simp [List.getD, List.getElem?_eq_getElem hi']
  have e2 : p.getD j 0 = p[j] := by simp [List.getD, List.getElem?_eq_getElem hj']
  rw [e1, e2]
  exact List.pairwise_iff_getElem.mp h.asc i j hi' hj' hij
theorem va_up {n m : Nat} {w : Int} {p : List Int} (h : Row n m p) (hw : (n : Int) < w) : Up n (va w p) := by
  intro i j hij hj
  have h1 := h.lt hij hj
  obtain ⟨a1, a2⟩ := vr_lo (p := p) (k := i) (Nat.lt_trans hij hj) hw
  obtain ⟨b1, b2⟩ := vr_lo (p := p) (k := j) hj hw
  unfold va
  rw [lex_lt a1 a2 b1 b2]
  unfold vq vr
  rcases mod2 (p.getD i 0) with e | e <;> rcases mod2 (p.getD j 0) with e2 | e2 <;> rw [e, e2] <;> omega
theorem vb_up {m : Nat} {w : Int} (hw : 0 < w) : Up m (vb w) := by
  intro i j hij _
  unfold vb
  exact Int.mul_lt_mul_of_pos_left (by omega) hw
theorem count_lt (m : Nat) (c : Int) (h0 : 0 ≤ c) (hc : c ≤ m) : (((List.range m).filter fun j : Nat => decide ((j : Int) < c)).length : Int) = c := by
  induction m generalizing c with
  | zero => have : c = 0 := by omega
            subst this; rfl
  | succ m ih =>
    rw [List.range_succ, List.filter_append, List.length_append]
    by_cases e : c = (m : Int) + 1
    · have h1 := ih (m : Int) (by omega) (by omega)
      have h2 : (List.range m).filter (fun j : Nat => decide ((j : Int) < c)) = (List.range m).filter (fun j : Nat => decide ((j : Int) < (m : Int))) := by
        apply List.filter_congr
        intro j hj
        have : j < m := by simpa using hj
        exact decide_eq_decide.mpr (by omega)
      rw [h2, List.filter_cons_of_pos (by simp; omega)]
      simp only [List.filter_nil, List.length_cons, List.length_nil]
      omega
    · have h1 := ih c h0 (by omega)
      rw [List.filter_cons_of_neg (by simp; omega)]
      simp only [List.filter_nil, List.length_nil]
      omega
theorem pos_va {n m : Nat} {w : Int} {p : List Int} (h : Row n m p) (hw : (n : Int) < w) {k : Nat} (hk : k < n) : pos (bl m (vb w)) (va w p k) = p.getD k 0 := by
  obtain ⟨h1, h2⟩ := h.at hk
  obtain ⟨a1, a2⟩ := vr_lo (p := p) (k := k) hk hw
  have hwp : 0 < w := by omega
  have hl : less (bl m (vb w)) (va w p k) = ((List.range m).filter fun j : Nat => decide ((j : Int) + 1 < vq p k ∨ ((j : Int) + 1 = vq p k ∧ 0 < vr p k))).length := by
    unfold less bl
    rw [List.filter_map, List.length_map]
    apply congrArg List.length
    apply List.filter_congr
    intro j _
    refine decide_eq_decide.mpr ?_
    have := lex_lt (w := w) (q := (j : Int) + 1) (r := 0) (q' := vq p k) (r' := vr p k) (Int.le_refl _) hwp a1 a2
    rw [Int.add_zero] at this
    exact this
  have hin : va w p k ∈ bl m (vb w) ↔ ∃ j, j < m ∧ (j : Int) + 1 = vq p k ∧ vr p k = 0 := by
    rw [mem_bl]
    constructor
    · rintro ⟨j, hj, e⟩
      refine ⟨j, hj, ?_⟩
      have e : w * ((j : Int) + 1) = w * vq p k + vr p k := e
      have x1 := lex_lt (w := w) (q := (j : Int) + 1) (r := 0) (q' := vq p k) (r' := vr p k) (Int.le_refl _) hwp a1 a2
      have x2 := lex_lt (w := w) (q := vq p k) (r := vr p k) (q' := (j : Int) + 1) (r' := 0) a1 a2 (Int.le_refl _) hwp
      rw [Int.add_zero, e] at x1
      rw [Int.add_zero, e] at x2
      have y1 := fun z => (Int.lt_irrefl _ (x1.mpr z))
      have y2 := fun z => (Int.lt_irrefl _ (x2.mpr z))
      have hq : (j : Int) + 1 = vq p k := by
        rcases Int.lt_trichotomy ((j : Int) + 1) (vq p k) with z | z | z
        · exact absurd (.inl z) y1
        · exact z
        · exact absurd (.inl z) y2
      refine ⟨hq, ?_⟩
      rw [hq] at e
      omega
    · rintro ⟨j, hj, e1, e2⟩
      refine ⟨j, hj, ?_⟩
      unfold vb va
      rw [e1, e2, Int.add_zero]
  have hq : vq p k = (p.getD k 0 + 1) / 2 := rfl
  rcases mod2 (p.getD k 0) with e | e
  · have hr : vr p k = (k : Int) + 1 := by unfold vr; rw [e]; omega
    have hn : ¬ va w p k ∈ bl m (vb w) := fun z => by obtain ⟨j, _, _, z⟩ := hin.mp z; omega
    have hc := count_lt m (vq p k) (by omega) (by omega)
    have hf : (List.range m).filter (fun j : Nat => decide ((j : Int) + 1 < vq p k ∨ ((j : Int) + 1 = vq p k ∧ 0 < vr p k))) = (List.range m).filter (fun j : Nat => decide ((j : Int) < vq p k)) := by
      apply List.filter_congr
      intro j _
      exact decide_eq_decide.mpr (by omega)
    unfold pos
    rw [if_neg hn, hl, hf, hc]
    omega
  · have hr : vr p k = 0 := by unfold vr; rw [e]; omega
    have hn : va w p k ∈ bl m (vb w) := hin.mpr ⟨(vq p k - 1).toNat, by omega, by omega, hr⟩
    have hc := count_lt m (vq p k - 1) (by omega) (by omega)
    have hf : (List.range m).filter (fun j : Nat => decide ((j : Int) + 1 < vq p k ∨ ((j : Int) + 1 = vq p k ∧ 0 < vr p k))) = (List.range m).filter (fun j : Nat => decide ((j : Int) < vq p k - 1)) := by
      apply List.filter_congr
      intro j _
      exact decide_eq_decide.mpr (by omega)
    unfold pos
    rw [if_pos hn, hl, hf, hc]
    omega
theorem place_va {n m : Nat} {w : Int} {p : List Int} (h : Row n m p) (hw : (n : Int) < w) : place n m (va w p) (vb w) = p := by
  apply List.ext_getElem
  · rw [h.len]; simp [place]
  · intro k h1 h2
    have hk : k < n := by rw [h.len] at h2; exact h2
    have := pos_va h hw hk
    have e : p.getD k 0 = p[k] := by simp [List.getD, List.getElem?_eq_getElem h2]
    rw [e] at this
    simp only [place, List.getElem_map, List.getElem_range]
    exact this
/-- the joined input -/
def join (f e : Ms) (p : List Int) : Ms := ldense (Tv f e (va ((nums f).length + 1) p) (vb ((nums f).length + 1)))
theorem join_w {f e : Ms} {p : List Int} (h : Row (nums f).length (nums e).length p) {w : Int} (hw : ((nums f).length : Int) < w) : ldense (Tv f e (va w p) (vb w)) = join f e p := by
  unfold join
  rw [Tv_iff (va_up h hw) (va_up h (by omega)) (vb_up (by omega)) (vb_up (by omega)), place_va h hw, place_va h (by omega)]
theorem join_inj {f e : Ms} {p q : List Int} (hp : Row (nums f).length (nums e).length p) (hq : Row (nums f).length (nums e).length q) (h : join f e p = join f e q) : p = q := by
  unfold join at h
  rw [Tv_iff (va_up hp (by omega)) (va_up hq (by omega)) (vb_up (by omega)) (vb_up (by omega)), place_va hp (by omega), place_va hq (by omega)] at h
  exact h
theorem join_of {f e : Ms} {a b : Nat → Int} (ha : Up (nums f).length a) (hb : Up (nums e).length b) :
    ldense (Tv f e a b) = join f e (place (nums f).length (nums e).length a b) := by
  have hr := place_row ha hb
  unfold join
  rw [Tv_iff ha (va_up hr (by omega)) hb (vb_up (by omega)), place_va hr (by omega)]
/-! ### the parts of a joined input -/
theorem sort_Fv {ms : Ms} {a : Nat → Int} (ha : Up (nums ms).length a) : isort (nums (Fv ms a)) = bl (nums ms).length a := by
  have hs : (bl (nums ms).length a).Pairwise (· < ·) := by
    unfold bl
    rw [List.pairwise_map]
    refine List.Pairwise.imp_of_mem ?_ (List.pairwise_lt_range (n := _))
    intro x y _ hy h
    exact ha x y h (by simpa using hy)
  refine (isort_uniq ?_ (hs.imp fun {a b} h => Int.le_of_lt h)).symm
  rw [List.perm_ext_iff_of_nodup (hs.imp fun {a b} h => Int.ne_of_lt h) (nums_nodup _)]
  intro x
  rw [nums_mem, mem_bl]
  unfold Fv
  rw [List.map_map]
  constructor
  · rintro ⟨j, hj, rfl⟩
    obtain ⟨m, hm, e⟩ := rk_surj hj
    exact List.mem_map.mpr ⟨m, hm, by simp [e]⟩
  · intro h
    obtain ⟨m, hm, rfl⟩ := List.mem_map.mp h
    exact ⟨_, rk_lt hm, rfl⟩
theorem ldense_Tv {f e : Ms} {a b : Nat → Int} : ldense (Tv f e a b) = Tv f e (fun k => (less (nums (Tv f e a b)) (a k) : Int)) (fun k => (less (nums (Tv f e a b)) (b k) : Int)) := by
  unfold ldense
  generalize nums (Tv f e a b) = S
  unfold Tv Fv
  rw [List.map_append, List.map_map, List.map_map]
  rfl
theorem up_dense {f e : Ms} {a b : Nat → Int} (ha : Up (nums f).length a) : Up (nums f).length (fun k => (less (nums (Tv f e a b)) (a k) : Int)) := by
  intro i j hij hj
  have hm : a i ∈ nums (Tv f e a b) := by
    rw [nums_mem]
    obtain ⟨m, hm, e1⟩ := rk_surj (Nat.lt_trans hij hj)
    unfold Tv Fv
    rw [List.map_append, List.map_map, List.map_map]
    exact List.mem_append_left _ (List.mem_map.mpr ⟨m, hm, by simp [e1]⟩)
  have := less_lt hm (ha i j hij hj)
  show ((less _ (a i) : Nat) : Int) < ((less _ (a j) : Nat) : Int)
  omega
theorem up_dense2 {f e : Ms} {a b : Nat → Int} (hb : Up (nums e).length b) : Up (nums e).length (fun k => (less (nums (Tv f e a b)) (b k) : Int)) := by
  intro i j hij hj
  have hm : b i ∈ nums (Tv f e a b) := by
    rw [nums_mem]
    obtain ⟨m, hm, e1⟩ := rk_surj (Nat.lt_trans hij hj)
    unfold Tv Fv
    rw [List.map_append, List.map_map, List.map_map]
    exact List.mem_append_right _ (List.mem_map.mpr ⟨m, hm, by simp [e1]⟩)
  have := less_lt hm (hb i j hij hj)
  show ((less _ (b i) : Nat) : Int) < ((less _ (b j) : Nat) : Int)
  omega
/-- a joined input has two parts, of ascending values -/
theorem join_parts {f e : Ms} {p : List Int} (h : Row (nums f).length (nums e).length p) : ∃ a b, Up (nums f).length a ∧ Up (nums e).length b ∧ join f e p = Tv f e a b ∧ place (nums f).length (nums e).length a b = p := by
  have hw : ((nums f).length : Int) < (nums f).length + 1 := by omega
  have ua := va_up h hw
  have ub : Up (nums e).length (vb ((nums f).length + 1)) := vb_up (by omega)
  refine ⟨_, _, up_dense (f := f) (e := e) (b := vb ((nums f).length + 1)) ua, up_dense2 (f := f) (e := e) (a := va ((nums f).length + 1) p) ub, ldense_Tv, ?_⟩
  have h2 := place_va h hw
  refine Eq.trans ((Tv_iff (up_dense ua) ua (up_dense2 ub) ub).mp ?_) h2
  rw [← ldense_Tv, ldense_ldense]
local macro_rules | `(tactic| walk_at "ev") => `(tactic| simp only [fnD, sSeq, sSet, sRet, sRetN, sIf, sSkip, sDrop, sOwn, sOwnD, sOwnT, sApp, sFor, sAug, Rthen, eVar, eC, eOp, eUn, eCall, eCallB, evs, eTup, eLst, ofO, asB, asT, eAnd, eOr, eNot, tAnd', tOr', tNot', eIf, R.bind, eLc, eDc, tYes', wipeR, iAny, iRange1, iRange2, iEnumD, gSet, gUnp, gsCons, gsNil, ePeek, tPeek, eIxOwn, freeze, Slot.frozen, eSl, pNone, pSome, oSl, R.quiet,
  oAdd_int, oSub, oMul, oFdiv, oMod, pow18, oLt, oLe, oGt, oGe, oEq_int, oNe_int, oEq_bl, oNe_bl, oIx_lst, oIx_scr, oIx_tup, at0, at1, at2, at3, at4, oLen, oInt, oNeg, oList, oTuple, oAddI, truD, oNot, oNotIn, smallI, List.map_cons, List.map_nil, List.cons_append, List.nil_append, List.replicate, List.getElem?_cons_zero, List.getElem?_cons_succ, List.set_cons_zero, List.set_cons_succ, List.length_cons, List.length_nil, Option.bind_some, Option.bind_none, Option.map_some, Option.map_none, if_true, if_false, decide_true, decide_false,
  Int.reducePow, Int.reduceNeg, Int.reduceLT, Int.reduceLE, and_self, and_true, true_and, Bool.or_true, Bool.true_or, Bool.or_false, Bool.false_or, Bool.and_true, Bool.true_and, Bool.false_eq_true, Bool.not_true, Bool.not_false, rangeOk_nat, irange_eq, snoc_int, snoc_str, *])
/-! ### placings, joined: what the code computes -/
theorem toInts_of : ∀ ns : List Int, toInts (ns.map D.int) = some ns
  | [] => rfl
  | n :: ns => by simp only [List.map_cons, toInts, toInts_of ns]; rfl
theorem sorted_ints (ns : List Int) : oSorted [.lst (ns.map D.int)] = some (.lst ((isort ns).map D.int)) := by simp only [oSorted, toInts_of]; rfl
theorem nums_snoc (pre : Ms) (m : Str × Int) : nums (pre ++ [m]) = if m.2 ∈ nums pre then nums pre else nums pre ++ [m.2] := by
  unfold nums
  rw [List.map_append]
  have key : ∀ (xs acc : List Int), dd acc (xs ++ [m.2]) = if m.2 ∈ dd acc xs then dd acc xs else dd acc xs ++ [m.2] := by
    intro xs
    induction xs with
    | nil => intro acc; rfl
    | cons x xs ih => intro acc; exact ih _
  exact key _ _
theorem nums_len (ms : Ms) : (nums ms).length ≤ ms.length := by
  have := (nums_nodup ms).length_le_of_subset (l₂ := ms.map (·.2)) fun y hy => (nums_mem ms y).mp hy
  simpa using this
theorem distinct_eq (ms : Ms) (hn : ms.length ≤ 100000) : f__law_distinct [.lst (ms.map msg)] = .ok (.lst ((isort (nums ms)).map D.int)) := by
  unfold f__law_distinct b__law_distinct
  walk_at "ev"
  generalize hf : forD _ _ _ _ = o
  obtain ⟨ρ', rfl, z, rfl⟩ := forD_out hf (fun pre ρ => ∃ (z : Slot), ρ = [.val (.lst (ms.map msg)), .own ((nums pre).map D.int), z]) ⟨_, rfl⟩ (by
    rintro pre m post ρ he ⟨z, rfl⟩
    refine ⟨_, rfl, ?_⟩
    have hnum := nums_snoc pre m
    have hin := oIn_ints m.2 (nums pre)
    have hl1 := nums_len pre
    have hl2 : pre.length ≤ 100000 := by
      have := congrArg List.length he
      rw [List.length_append, List.length_cons] at this
      omega
    have hsz : ((nums pre).map D.int).length < sizeLine := snoc_len (n := 100000) (by omega) (by decide)
    unfold msg
    by_cases hm : m.2 ∈ nums pre
    · walk_at "ev"
      exact ⟨_, .inl rfl, _, rfl⟩
    · walk_at "ev"
      exact ⟨_, .inl rfl, _, rfl⟩)
  have hs := sorted_ints (nums ms)
  walk_at "ev"
def rowD (r : List Int) : D := .tup (r.map D.int)
theorem rowD_snoc (r : List Int) (q : Int) : D.tup (r.map D.int ++ [.int q]) = rowD (r ++ [q]) := by unfold rowD; rw [snoc_int]
theorem row_last {r : List Int} (h : r ≠ []) : ∃ x, r.getLast? = some x ∧ atI (r.map D.int) (-1) = some (.int x) := by
  rcases List.eq_nil_or_concat r with e | ⟨l, y, e⟩
  · exact absurd e h
  · rw [List.concat_eq_append] at e
    subst e
    refine ⟨y, by simp, ?_⟩
    unfold atI ixN
    have hlen : ((l ++ [y]).map D.int).length = l.length + 1 := by simp
    rw [hlen, if_neg (by decide), if_pos (by omega)]
    have : ((-1 : Int) + ((l.length + 1 : Nat) : Int)).toNat = l.length := by omega
    show ((l ++ [y]).map D.int)[((-1 : Int) + ((l.length + 1 : Nat) : Int)).toNat]? = some (D.int y)
    rw [this]
    simp
theorem step_snoc (m : Nat) (rs : List (List Int)) (r : List Int) : step m (rs ++ [r]) = step m rs ++ (nexts m r).map fun q => r ++ [q] := by unfold step; simp
theorem step_len {n m : Nat} {rs : List (List Int)} (h : ∀ r ∈ rs, Row n m r) : (step m rs).length ≤ rs.length * (2 * m + 1) := by
  unfold step
  exact flat_len (c := 2 * m + 1) fun r hr => by rw [List.length_map]; exact nexts_len (h r hr)
theorem least_nn {n m : Nat} {r : List Int} (h : Row n m r) : 0 ≤ least r ∧ least r ≤ 2 * (m : Int) + 1 := by
  unfold least
  split
  · omega
  · rename_i x hx
    have := h.lim x (List.mem_of_getLast? hx)
    omega
theorem pow_le {m k n : Nat} (h : k ≤ n) (hb : (2 * m + 1) ^ n ≤ 100000) : (2 * m + 1) ^ k ≤ 100000 := Nat.le_trans (Nat.pow_le_pow_right (by omega) h) hb
theorem irange_map (a : Int) (k : Nat) : irange a k = ((List.range k).map fun i : Nat => a + (i : Int)).map D.int := by unfold irange; rw [List.map_map]; rfl
theorem rangeOk_of {k : Nat} {i : Int} (hk : k ≤ 1000000) (h0 : -1000000 ≤ i) (h1 : i ≤ 1000000) : rangeOk k i = true := by
  have := line_le hk
  unfold rangeOk
  exact decide_eq_true ⟨this, by omega, by omega⟩
theorem rows_eq (n m : Nat) (hn : n ≤ 1000) (hm : m ≤ 1000) (hb : (2 * m + 1) ^ n ≤ 100000) : f_position_rows [.int n, .int m] = .ok (.lst ((rowsN m n).map rowD)) := by
  have hr := rangeOk_nat (n := n) (by omega)
  have ht : ((n : Int)).toNat = n := by omega
  unfold f_position_rows b_position_rows
  walk_at "ev"
  rw [ht] at hr
  walk_at "ev"
  generalize hf : forD _ _ _ _ = o
  obtain ⟨ρ', rfl, z3, z4, z5, z6, z7, rfl⟩ := forD_out hf (fun pre ρ => ∃ (z3 z4 z5 z6 z7 : Slot), ρ = [.val (.int n), .val (.int m), .val (.lst ((rowsN m pre.length).map rowD)), z3, z4, z5, z6, z7]) ⟨_, _, _, _, _, rfl⟩ (by
    rintro pre k post ρ he ⟨z3, z4, z5, z6, z7, rfl⟩
    obtain ⟨rfl, hk⟩ := range_split he
    clear hf
    refine ⟨_, rfl, ?_⟩
    have hB := pow_le (m := m) (show pre.length + 1 ≤ n by omega) hb
    have hrl := rows_len m pre.length
    have hrow : ∀ r ∈ rowsN m pre.length, Row pre.length m r := fun r hr => mem_rows.mp hr
    have hend : rowsN m (pre ++ [pre.length]).length = step m (rowsN m pre.length) := by rw [List.length_append]; rfl
    rw [hend]
    rw [Nat.pow_succ] at hB
    generalize rowsN m pre.length = rs at *
    clear he hend
    walk_at "ev"
    generalize hf : forD _ _ _ _ = o2
    obtain ⟨ρ', rfl, z5, z6, z7, rfl⟩ := forD_out hf (fun done ρ => ∃ (z5 z6 z7 : Slot), ρ = [.val (.int n), .val (.int m), .val (.lst (rs.map rowD)), .val (.int (0 + (pre.length : Nat))), .val (.lst ((step m done).map rowD)), z5, z6, z7]) ⟨_, _, _, rfl⟩ (by
      rintro done r rest ρ he ⟨z5, z6, z7, rfl⟩
      refine ⟨_, rfl, ?_⟩
      have hr1 : Row pre.length m r := hrow r (by rw [he]; simp)
      have hlen : done.length + 1 ≤ rs.length := by rw [he]; simp
      have hd : (step m done).length ≤ done.length * (2 * m + 1) := step_len fun q hq => hrow q (by rw [he]; exact List.mem_append_left _ hq)
      have hnx := nexts_len hr1
      obtain ⟨hl1, hl2⟩ := least_nn hr1
      have hmul : (done.length + 1) * (2 * m + 1) ≤ (2 * m + 1) ^ pre.length * (2 * m + 1) := Nat.mul_le_mul_right _ (by omega)
      rw [Nat.add_mul, Nat.one_mul] at hmul
      have hadd := oAdd_lst (xs := (step m done).map rowD) (ys := ((nexts m r).map fun q => r ++ [q]).map rowD) (by rw [List.length_map, List.length_map, List.length_map]; omega)
      have hap : (step m done).map rowD ++ ((nexts m r).map fun q => r ++ [q]).map rowD = (step m (done ++ [r])).map rowD := by rw [step_snoc, List.map_append]
      rw [hap] at hadd
      have hro1 : rangeOk (2 * (m : Int) + 1 - least r).toNat (least r) = true := rangeOk_of (by omega) (by omega) (by omega)
      have hro2 : rangeOk (2 * (m : Int) + 1 - least r).toNat (2 * (m : Int) + 1) = true := rangeOk_of (by omega) (by omega) (by omega)
      clear he hap
      clear hf
      have hadr : ∀ q : Int, oAdd (rowD r) (.tup [.int q]) = some (rowD (r ++ [q])) := fun q => by
        have := oAdd_tup (xs := r.map D.int) (ys := [D.int q]) (by rw [List.length_map, hr1.len]; simp; omega)
        rw [snoc_int] at this
        exact this
      have hbody : ∀ z, lcD (gSet 7) tYes' (eOp oAdd (eVar 5) (eTup [eVar 7])) [.val (.int n), .val (.int m), .val (.lst (rs.map rowD)), .val (.int (0 + (pre.length : Nat))), .val (.lst ((step m done).map rowD)), .val (rowD r), .val (.int (least r)), z]
          (irange (least r) (2 * (m : Int) + 1 - least r).toNat) = .ok (((nexts m r).map fun q => r ++ [q]).map rowD) := fun z => by
        rw [irange_map]
        rw [lcD_map D.int (fun q => rowD (r ++ [q])) _ (fun q _ => ⟨_, rfl, rfl, by walk_at "ev"⟩)]
        unfold nexts
        rw [List.map_map, List.map_map, List.map_map]
        rfl
      have hif : sIf (asT (eVar 5)) (sSet 6 (eOp oAdd (eOp oIx (eVar 5) (eUn oNeg (eC (D.int 1)))) (eOp oMod (eOp oIx (eVar 5) (eUn oNeg (eC (D.int 1)))) (eC (D.int 2))))) sSkip
          [.val (.int n), .val (.int m), .val (.lst (rs.map rowD)), .val (.int (0 + (pre.length : Nat))), .val (.lst ((step m done).map rowD)), .val (rowD r), .val (.int 0), z7] =
          .nx [.val (.int n), .val (.int m), .val (.lst (rs.map rowD)), .val (.int (0 + (pre.length : Nat))), .val (.lst ((step m done).map rowD)), .val (rowD r), .val (.int (least r)), z7] := by
        by_cases hre : r = []
        · subst hre
          rfl
        · obtain ⟨x, e1, e2⟩ := row_last hre
          have e3 : least r = x + x % 2 := by unfold least; rw [e1]
          have e4 : (r.map D.int).isEmpty = false := by cases r with
            | nil => exact absurd rfl hre
            | cons _ _ => rfl
          rw [e3]
          clear hbody hadr e1 e3 hadd hre
          unfold rowD
          walk_at "ev"
      refine ⟨_, .inl (seq_step rfl (seq_step hif ?_)), .val (rowD r), .val (.int (least r)), z7, rfl⟩
      clear hif hadr
      walk_at "ev")
    walk_at "ev"
    exact ⟨_, .inl rfl, _, _, _, _, _, rfl⟩)
  walk_at "ev"
  rw [List.length_range]
theorem pplacings_eq (c1 m1 c2 m2 : Bool) (f e : Ms) (hn : (nums f).length ≤ 1000) (hm : (nums e).length ≤ 1000) (hb : (2 * (nums e).length + 1) ^ (nums f).length ≤ 100000) :
    f_placings [enc2 c1 m1 f, enc2 c2 m2 e] = .ok (.lst ((rowsN (nums e).length (nums f).length).map rowD)) := by
  have h1 := integers_eq c1 m1 f
  have h2 := integers_eq c2 m2 e
  have h3 := rows_eq _ _ hn hm hb
  have l1 : ((isort (nums f)).map D.int).length = (nums f).length := by rw [List.length_map, (isort_perm _).length_eq]
  have l2 : ((isort (nums e)).map D.int).length = (nums e).length := by rw [List.length_map, (isort_perm _).length_eq]
  unfold f_placings b_placings
  walk_at "ev"
/-- which positions go on a row -/
def fits (r : List Int) (q : Int) : Bool := decide (least r ≤ q)
theorem nexts_filter {n m : Nat} {r : List Int} (h : Row n m r) : ((List.range (2 * m + 1)).filter fun k : Nat => fits r (0 + (k : Int))).map (fun k : Nat => (0 : Int) + (k : Int)) = nexts m r := by
  obtain ⟨h1, h2⟩ := least_nn h
  obtain ⟨a, ha⟩ : ∃ a : Nat, least r = (a : Int) := ⟨(least r).toNat, by omega⟩
  have key : ∀ N : Nat, ((List.range N).filter fun k : Nat => decide (a ≤ k)) = (List.range (N - a)).map fun i => a + i := by
    intro N
    induction N with
    | zero => simp
    | succ N ih =>
      rw [List.range_succ, List.filter_append, ih]
      by_cases e : a ≤ N
      · rw [List.filter_cons_of_pos (by simpa using e), show N + 1 - a = (N - a) + 1 by omega, List.range_succ, List.map_append]
        simp [show a + (N - a) = N by omega]
      · rw [List.filter_cons_of_neg (by simpa using e), show N + 1 - a = 0 by omega, show N - a = 0 by omega]
        rfl
  have hf : ((List.range (2 * m + 1)).filter fun k : Nat => fits r (0 + (k : Int))) = (List.range (2 * m + 1)).filter fun k : Nat => decide (a ≤ k) := by
    apply List.filter_congr
    intro k _
    unfold fits
    exact decide_eq_decide.mpr (by omega)
  rw [hf, key]
  unfold nexts
  rw [ha, show (2 * (m : Int) + 1 - (a : Int)).toNat = 2 * m + 1 - a by omega, List.map_map]
  apply List.map_congr_left
  intro i _
  show (0 : Int) + ((a + i : Nat) : Int) = (a : Int) + (i : Int)
  omega
theorem fits_test (r : List Int) (k : Int) (hk : 0 ≤ k) (ρ : Rho) (h6 : ρ[6]? = some (.val (rowD r))) (h7 : ρ[7]? = some (.val (.int k))) : (tOr' (asB (eOp oEq (eCallB oLen [eVar 6]) (eC (D.int 0)))) (tOr' (asB (eOp oGt (eVar 7) (eOp oIx (eVar 6) (eUn oNeg (eC (D.int 1)))))) (tAnd' (asB (eOp oEq (eVar 7) (eOp oIx (eVar 6) (eUn oNeg (eC (D.int 1)))))) (asB (eOp oEq (eOp oMod (eVar 7) (eC (D.int 2))) (eC (D.int 0))))))) ρ = .ok (fits r k) := by
  unfold rowD at h6
  by_cases hre : r = []
  · subst hre
    have hf : fits [] k = true := decide_eq_true hk
    have hz : ((0 : Nat) : Int) = 0 := rfl
    walk_at "ev"
  · obtain ⟨x, e1, e2⟩ := row_last hre
    have e3 : least r = x + x % 2 := by unfold least; rw [e1]
    have hl : ¬ (((r.map D.int).length : Nat) : Int) = 0 := by
      rw [List.length_map]
      have := List.length_pos_iff.mpr hre
      omega
    have hf : fits r k = decide (x + x % 2 ≤ k) := by unfold fits; rw [e3]
    rw [hf]
    clear e1 e3 hf
    by_cases c1 : x < k
    · have c2 : x + x % 2 ≤ k := by omega
      walk_at "ev"
    · by_cases c2 : k = x
      · subst c2
        by_cases c3 : k % 2 = 0
        · have c4 : k + 0 ≤ k := by omega
          walk_at "ev"
        · have c4 : ¬ k + k % 2 ≤ k := by omega
          walk_at "ev"
      · have c4 : ¬ x + x % 2 ≤ k := by omega
        walk_at "ev"
theorem lplacings_eq (f e : Ms) (lf : f.length ≤ 1000) (le : e.length ≤ 1000) (hb : (2 * (nums e).length + 1) ^ (nums f).length ≤ 100000) :
    f__law_placings [.lst (f.map msg), .lst (e.map msg)] = .ok (.lst ((rowsN (nums e).length (nums f).length).map rowD)) := by
  have h1 := distinct_eq f (by omega)
  have h2 := distinct_eq e (by omega)
  have l1 : ((isort (nums f)).map D.int).length = (nums f).length := by rw [List.length_map, (isort_perm _).length_eq]
  have l2 : ((isort (nums e)).map D.int).length = (nums e).length := by rw [List.length_map, (isort_perm _).length_eq]
  have b1 := nums_len f
  have b2 := nums_len e
  generalize nums f = Sf at *
  generalize nums e = Se at *
  generalize Sf.length = n at *
  generalize Se.length = m at *
  have hr := rangeOk_nat (n := n) (by omega)
  have ht : ((n : Int)).toNat = n := by omega
  rw [ht] at hr
  have hr2 : rangeOk (2 * m + 1) (2 * (m : Int) + 1) = true := rangeOk_of (by omega) (by omega) (by omega)
  have ht2 : (2 * (m : Int) + 1).toNat = 2 * m + 1 := by omega
  unfold f__law_placings b__law_placings
  refine fn_rt ?_
  refine seq_step (by walk_at "ev"; rfl) ?_
  refine seq_step (by walk_at "ev"; rfl) ?_
  refine seq_some (fun ρ1 => ∃ (z4 z5 z6 z7 : Slot), ρ1 = [.val (.lst (f.map msg)), .val (.lst (e.map msg)), .val (.int m), .val (.lst ((rowsN m n).map rowD)), z4, z5, z6, z7]) ?_ ?_
  · walk_at "ev"
    refine forD_some (fun k : Nat => D.int (0 + (k : Int))) (List.range n) (fun pre ρ => ∃ (z4 z5 z6 z7 : Slot), ρ = [.val (.lst (f.map msg)), .val (.lst (e.map msg)), .val (.int m), .val (.lst ((rowsN m pre.length).map rowD)), z4, z5, z6, z7]) ⟨_, _, _, _, rfl⟩ ?_ (fun ρ h => by rw [List.length_range] at h; exact h)
    rintro pre k post ρ he ⟨z4, z5, z6, z7, rfl⟩
    obtain ⟨rfl, hk⟩ := range_split he
    refine ⟨_, rfl, ?_⟩
    have hB := pow_le (m := m) (show pre.length + 1 ≤ n by omega) hb
    have hrl := rows_len m pre.length
    have hrow : ∀ r ∈ rowsN m pre.length, Row pre.length m r := fun r hr => mem_rows.mp hr
    have hend : rowsN m (pre ++ [pre.length]).length = step m (rowsN m pre.length) := by rw [List.length_append]; rfl
    rw [hend]
    rw [Nat.pow_succ] at hB
    generalize rowsN m pre.length = rs at *
    clear he hend
    have hloop : ∀ T : Ts, (∀ (r : List Int) (k : Int), 0 ≤ k → ∀ ρ : Rho, ρ[6]? = some (.val (rowD r)) → ρ[7]? = some (.val (.int k)) → T ρ = .ok (fits r k)) → ∃ ρ1, sFor (iAny (eVar 3)) (gSet 6) (sFor (iRange1 (eOp oAdd (eOp oMul (eC (D.int 2)) (eVar 2)) (eC (D.int 1)))) (gSet 7)
        (sIf T
        (sApp 5 (eOp oAdd (eVar 6) (eTup [eVar 7]))) sSkip)) [.val (.lst (f.map msg)), .val (.lst (e.map msg)), .val (.int m), .val (.lst (rs.map rowD)), .val (.int (0 + (pre.length : Nat))), .own [], z6, z7] = .nx ρ1 ∧
        ∃ z6 z7, ρ1 = [.val (.lst (f.map msg)), .val (.lst (e.map msg)), .val (.int m), .val (.lst (rs.map rowD)), .val (.int (0 + (pre.length : Nat))), .own ((step m rs).map rowD), z6, z7] := by
      intro T hT
      walk_at "ev"
      refine forD_some rowD rs (fun done ρ => ∃ z6 z7, ρ = [.val (.lst (f.map msg)), .val (.lst (e.map msg)), .val (.int m), .val (.lst (rs.map rowD)), .val (.int (0 + (pre.length : Nat))), .own ((step m done).map rowD), z6, z7]) ⟨_, _, rfl⟩ ?_ (fun ρ h => h)
      rintro done r rest ρ he ⟨z6, z7, rfl⟩
      have hr1 : Row pre.length m r := hrow r (by rw [he]; simp)
      have hlen : done.length + 1 ≤ rs.length := by rw [he]; simp
      have hd : (step m done).length ≤ done.length * (2 * m + 1) := step_len fun q hq => hrow q (by rw [he]; exact List.mem_append_left _ hq)
      have hnx := nexts_len hr1
      have hmul : (done.length + 1) * (2 * m + 1) ≤ (2 * m + 1) ^ pre.length * (2 * m + 1) := Nat.mul_le_mul_right _ (by omega)
      rw [Nat.add_mul, Nat.one_mul] at hmul
      have hnf := nexts_filter hr1
      rw [step_snoc, ← hnf]
      clear he hnf
      refine ⟨_, rfl, ?_⟩
      walk_at "ev"
      refine forD_turn (fun k : Nat => D.int (0 + (k : Int))) (List.range (2 * m + 1)) (fun dn ρ => ∃ z7, ρ = [.val (.lst (f.map msg)), .val (.lst (e.map msg)), .val (.int m), .val (.lst (rs.map rowD)), .val (.int (0 + (pre.length : Nat))),
        .own ((step m done ++ ((dn.filter fun k : Nat => fits r (0 + (k : Int))).map fun k : Nat => (0 : Int) + (k : Int)).map fun q => r ++ [q]).map rowD), .val (rowD r), z7]) ⟨_, by rw [List.filter_nil, List.map_nil, List.map_nil, List.append_nil]⟩ ?_ (fun ρ ⟨z7, h⟩ => ⟨_, _, h⟩)
      rintro dn k post ρ he ⟨z7, rfl⟩
      obtain ⟨rfl, hk2⟩ := range_split he
      refine ⟨_, rfl, ?_⟩
      have htest := hT r (0 + (dn.length : Int)) (by omega) [.val (.lst (f.map msg)), .val (.lst (e.map msg)), .val (.int m), .val (.lst (rs.map rowD)), .val (.int (0 + (pre.length : Nat))),
        .own ((step m done ++ ((dn.filter fun k : Nat => fits r (0 + (k : Int))).map fun k : Nat => (0 : Int) + (k : Int)).map fun q => r ++ [q]).map rowD), .val (rowD r), .val (.int (0 + (dn.length : Int)))] rfl rfl
      have hsz : ((step m done ++ ((dn.filter fun k : Nat => fits r (0 + (k : Int))).map fun k : Nat => (0 : Int) + (k : Int)).map fun q => r ++ [q]).map rowD).length < sizeLine := by
        rw [List.length_map, List.length_append, List.length_map, List.length_map]
        have := List.length_filter_le (fun k : Nat => fits r (0 + (k : Int))) dn
        exact line_lt (by omega)
      have hadd := oAdd_tup (xs := r.map D.int) (ys := [D.int (0 + (dn.length : Int))]) (by rw [List.length_map, hr1.len]; simp; omega)
      rw [snoc_int] at hadd
      have hadd : oAdd (rowD r) (.tup [.int (0 + (dn.length : Int))]) = some (rowD (r ++ [0 + (dn.length : Int)])) := hadd
      rw [List.filter_append]
      clear he hr2 ht2 hr hb hrow
      cases hf : fits r (0 + (dn.length : Int)) with
      | true =>
        rw [hf] at htest
        rw [List.filter_cons_of_pos (by simpa using hf)]
        clear hT
        walk_at "ev"
        refine ⟨_, .inl rfl, _, by simp; rfl⟩
      | false =>
        rw [hf] at htest
        rw [List.filter_cons_of_neg (by simpa using hf)]
        clear hT
        walk_at "ev"
        refine ⟨_, .inl rfl, _, by simp; rfl⟩
    obtain ⟨ρ1, h1, z6', z7', rfl⟩ := hloop _ fits_test
    refine ⟨_, .inl (seq_step rfl (seq_step h1 rfl)), _, _, _, _, rfl⟩
  · rintro ρ1 ⟨z4, z5, z6, z7, rfl⟩
    walk_at "ev"
local macro_rules | `(tactic| walk_at "ev") => `(tactic| simp only [fnD, sSeq, sSet, sRet, sRetN, sIf, sSkip, sDrop, sOwn, sOwnD, sOwnT, sApp, sFor, sAug, Rthen, eVar, eC, eOp, eUn, eCall, eCallB, evs, eTup, eLst, ofO, asB, asT, eAnd, eOr, eNot, tAnd', tOr', tNot', eIf, R.bind, eLc, eDc, tYes', wipeR, iAny, iRange1, iRange2, iEnumD, gSet, gUnp, gsCons, gsNil, ePeek, tPeek, eIxOwn, freeze, Slot.frozen, eSl, pNone, pSome, oSl, R.quiet,
  oAdd_int, oSub, oMul, oFdiv, oMod, pow18, oLt, oLe, oGt, oGe, oEq_int, oNe_int, oEq_bl, oNe_bl, oIx_lst, oIx_scr, oIx_tup, at0, at1, at2, at3, at4, oLen, oInt, oNeg, oList, oTuple, oAddI, truD, oNot, oNotIn, smallI, List.map_cons, List.map_nil, List.cons_append, List.nil_append, List.replicate, List.getElem?_cons_zero, List.getElem?_cons_succ, List.set_cons_zero, List.set_cons_succ, List.length_cons, List.length_nil, Option.bind_some, Option.bind_none, Option.map_some, Option.map_none, if_true, if_false, decide_true, decide_false,
  Int.reducePow, Int.reduceNeg, Int.reduceLT, Int.reduceLE, and_self, and_true, true_and, Bool.or_true, Bool.true_or, Bool.or_false, Bool.false_or, Bool.and_true, Bool.true_and, Bool.false_eq_true, Bool.not_true, Bool.not_false, rangeOk_nat, irange_eq, snoc_int, snoc_str, *])
/-! ### joined inputs: what the code computes -/
theorem less_sort (ms : Ms) (x : Int) : less (isort (nums ms)) x = rk ms x := less_perm (isort_perm _) x
theorem sort_len (ms : Ms) : (isort (nums ms)).length = (nums ms).length := (isort_perm _).length_eq
theorem row_at {n m : Nat} {p : List Int} (h : Row n m p) {k : Nat} (hk : k < n) : atI (p.map D.int) (k : Int) = some (.int (p.getD k 0)) := by
  have hk' : k < p.length := by rw [h.len]; exact hk
  have e : p.getD k 0 = p[k] := by simp [List.getD, List.getElem?_eq_getElem hk']
  rw [atI_map, atI_nat (List.getElem?_eq_getElem hk'), e]; rfl
theorem va_law {n m : Nat} {p : List Int} (h : Row n m p) {k : Nat} (hk : k < n) : (p.getD k 0 % 2 = 0 ∧ 100 * (p.getD k 0 / 2) + ((k : Int) + 1) = va 100 p k) ∨ (p.getD k 0 % 2 = 1 ∧ 100 * (p.getD k 0 / 2) + 100 = va 100 p k) := by
  unfold va vq vr
  rcases mod2 (p.getD k 0) with e | e
  · refine .inl ⟨e, ?_⟩; rw [e]; omega
  · refine .inr ⟨e, ?_⟩; rw [e]; omega
theorem vb_law (k : Nat) : 100 + 100 * (k : Int) = vb 100 k := by unfold vb; omega
theorem mem_rk {ms pre post : Ms} {m : Str × Int} (h : ms = pre ++ m :: post) : rk ms m.2 < (nums ms).length := rk_lt (by rw [h]; simp)
theorem ljoined_eq {f e : Ms} {p : List Int} (h : Row (nums f).length (nums e).length p) (lf : f.length ≤ 1000) (le : e.length ≤ 1000) :
    f__law_joined [.lst (f.map msg), .lst (e.map msg), rowD p] = .ok (.lst ((ldense (Tv f e (va 100 p) (vb 100))).map msg)) := by
  have h1 := distinct_eq f (by omega)
  have h2 := distinct_eq e (by omega)
  have l2 : ∀ x, ((isort (nums e)).filter fun y => decide (y < x)).length = rk e x := fun x => less_sort e x
  have l1 : ∀ x, ((isort (nums f)).filter fun y => decide (y < x)).length = rk f x := fun x => less_sort f x
  unfold f__law_joined b__law_joined
  refine fn_rt ?_
  refine seq_step (by walk_at "ev"; rfl) ?_
  refine seq_step (by walk_at "ev"; rfl) ?_
  refine seq_step (by walk_at "ev"; rfl) ?_
  refine seq_some (fun ρ => ∃ (z6 z7 z8 : Slot), ρ = [.val (.lst (f.map msg)), .val (.lst (e.map msg)), .val (rowD p), .val (.lst ((isort (nums f)).map D.int)), .val (.lst ((isort (nums e)).map D.int)), .own ((Fv f (va 100 p)).map msg), z6, z7, z8, .none]) ?_ ?_
  · walk_at "ev"
    refine forD_some msg f (fun pre ρ => ∃ (z6 z7 z8 : Slot), ρ = [.val (.lst (f.map msg)), .val (.lst (e.map msg)), .val (rowD p), .val (.lst ((isort (nums f)).map D.int)), .val (.lst ((isort (nums e)).map D.int)), .own ((pre.map fun m => (m.1, va 100 p (rk f m.2))).map msg), z6, z7, z8, .none]) ⟨_, _, _, rfl⟩ ?_ (fun ρ h => h)
    rintro pre m post ρ he ⟨z6, z7, z8, rfl⟩
    have hk := mem_rk he
    have hlen : pre.length ≤ 1000 := by
      have := congrArg List.length he
      rw [List.length_append, List.length_cons] at this
      omega
    clear he h1 h2
    refine ⟨_, rfl, ?_⟩
    have hat := row_at h hk
    have hsz : ((pre.map fun m => (m.1, va 100 p (rk f m.2))).map msg).length < sizeLine := by rw [List.length_map, List.length_map]; exact line_lt (by omega)
    have hsn := snoc_msg (pre.map fun m => (m.1, va 100 p (rk f m.2))) (m.1, va 100 p (rk f m.2))
    have hfl := lt_filter (isort (nums f)) m.2
    have hv := va_law h hk
    unfold rowD
    rw [List.map_append]
    refine ⟨_, .inl (seq_step (ρ1 := [.val (.lst (f.map msg)), .val (.lst (e.map msg)), .val (.tup (p.map D.int)), .val (.lst ((isort (nums f)).map D.int)), .val (.lst ((isort (nums e)).map D.int)), .own ((pre.map fun m => (m.1, va 100 p (rk f m.2))).map msg), .val (msg m), .val (.int (rk f m.2 : Nat)), z8, .none]) ?_ (seq_step (ρ1 := [.val (.lst (f.map msg)), .val (.lst (e.map msg)), .val (.tup (p.map D.int)), .val (.lst ((isort (nums f)).map D.int)), .val (.lst ((isort (nums e)).map D.int)), .own ((pre.map fun m => (m.1, va 100 p (rk f m.2))).map msg), .val (msg m), .val (.int (rk f m.2 : Nat)), .val (.int (va 100 p (rk f m.2))), .none]) ?_ ?_)), .val (msg m), .val (.int (rk f m.2 : Nat)), .val (.int (va 100 p (rk f m.2))), rfl⟩
    · clear hfl hsn hsz hat hv
      unfold msg
      walk_at "ev"
      rw [lt_filter (isort (nums f)) m.2 _ _ _ _ (fun y => ⟨_, rfl, by walk_at "ev", fun _ => by walk_at "ev"⟩)]
      walk_at "ev"
      rw [List.length_map, l1]
    · clear hfl hsn hsz
      unfold msg
      rcases hv with ⟨hv1, hv2⟩ | ⟨hv1, hv2⟩
      · walk_at "ev"
      · walk_at "ev"
    · clear hfl hat hv
      unfold msg at *
      walk_at "ev"
  · rintro ρ1 ⟨z6, z7, z8, rfl⟩
    have hd := ldense_eq (Tv f e (va 100 p) (vb 100)) (by unfold Tv Fv; simp; omega)
    have hadd := oAdd_lst (xs := (Fv f (va 100 p)).map msg) (ys := (Fv e (vb 100)).map msg) (by unfold Fv; simp; omega)
    rw [← List.map_append] at hadd
    clear h1 h2
    have hap : Fv f (va 100 p) ++ Fv e (vb 100) = Tv f e (va 100 p) (vb 100) := rfl
    rw [hap] at hadd
    clear hap
    generalize Tv f e (va 100 p) (vb 100) = tt at *
    have hFv : (e.map fun m => msg (m.1, vb 100 (rk e m.2))) = (Fv e (vb 100)).map msg := by unfold Fv; rw [List.map_map]; rfl
    walk_at "ev"
    rw [lcD_map msg (fun m => msg (m.1, vb 100 (rk e m.2))) e (fun m _ => ⟨_, rfl, rfl, by
      clear hadd hd hFv
      unfold msg
      walk_at "ev"
      rw [lt_filter (isort (nums e)) m.2 _ _ _ _ (fun y => ⟨_, rfl, by walk_at "ev", fun _ => by walk_at "ev"⟩)]
      walk_at "ev"
      rw [List.length_map, l2, vb_law]⟩)]
    rw [hFv]
    walk_at "ev"
local macro_rules | `(tactic| walk_at "ev") => `(tactic| simp only [fnD, sSeq, sSet, sRet, sRetN, sIf, sSkip, sDrop, sOwn, sOwnD, sOwnT, sApp, sFor, sAug, Rthen, eVar, eC, eOp, eUn, eCall, eCallB, evs, eTup, eLst, ofO, asB, asT, eAnd, eOr, eNot, tAnd', tOr', tNot', eIf, R.bind, eLc, eDc, tYes', wipeR, iAny, iRange1, iRange2, iEnumD, gSet, gUnp, gsCons, gsNil, ePeek, tPeek, eIxOwn, freeze, Slot.frozen, eSl, pNone, pSome, oSl, R.quiet,
  oAdd_int, oSub, oMul, oFdiv, oMod, pow18, oLt, oLe, oGt, oGe, oEq_int, oNe_int, oEq_bl, oNe_bl, oIx_lst, oIx_scr, oIx_tup, at0, at1, at2, at3, at4, oLen, oInt, oNeg, oList, oTuple, oAddI, truD, oNot, oNotIn, smallI, List.map_cons, List.map_nil, List.cons_append, List.nil_append, List.replicate, List.getElem?_cons_zero, List.getElem?_cons_succ, List.set_cons_zero, List.set_cons_succ, List.length_cons, List.length_nil, Option.bind_some, Option.bind_none, Option.map_some, Option.map_none, if_true, if_false, decide_true, decide_false,
  Int.reducePow, Int.reduceNeg, Int.reduceLT, Int.reduceLE, and_self, and_true, true_and, Bool.or_true, Bool.true_or, Bool.or_false, Bool.false_or, Bool.and_true, Bool.true_and, Bool.false_eq_true, Bool.not_true, Bool.not_false, rangeOk_nat, irange_eq, snoc_int, snoc_str, *])
/-- a table by the sorted integers: what it holds -/
def tabE (S : List Int) (v : Nat → Int) : List (Key × D) := S.zipIdx.foldl (fun acc q => pt acc (Sum.inl q.1) (D.int (v q.2))) []
theorem tabE_get {ms : Ms} {v : Nat → Int} {m : Str × Int} (hm : m ∈ ms) : lk (tabE (isort (nums ms)) v) (Sum.inl m.2) = some (.int (v (rk ms m.2))) := by
  have h1 : m.2 ∈ isort (nums ms) := (isort_perm _).mem_iff.mpr (nums_in hm)
  obtain ⟨i, hi, e⟩ := List.mem_iff_getElem.mp h1
  have h2 : (isort (nums ms))[i]? = some m.2 := by rw [List.getElem?_eq_getElem hi, e]
  have hr : ∀ j, (isort (nums ms))[j]? = some m.2 → j = rk ms m.2 := fun j hj => (isort_rank (nums_nodup ms) hj).symm
  have h3 : (m.2, i) ∈ (isort (nums ms)).zipIdx := List.mk_mem_zipIdx_iff_getElem?.mpr h2
  have := lk_fold (fun p : Int × Nat => (Sum.inl p.1 : Key)) (fun p => D.int (v p.2)) (isort (nums ms)).zipIdx [] (m.2, i) h3 fun b hb e => by
    have e' : b.1 = m.2 := Sum.inl.inj e
    have hb2 := List.mk_mem_zipIdx_iff_getElem?.mp (show (b.1, b.2) ∈ (isort (nums ms)).zipIdx from hb)
    rw [e'] at hb2
    show D.int _ = D.int _
    rw [hr _ hb2, ← hr _ h2]
  rw [hr _ h2] at this
  exact this
theorem pt_len {κ β : Type} [DecidableEq κ] (es : List (κ × β)) (k : κ) (v : β) : (pt es k v).length ≤ es.length + 1 := by
  unfold pt; split <;> simp
theorem fold_len {α κ β : Type} [DecidableEq κ] (kf : α → κ) (f : α → β) : ∀ (as : List α) (acc : List (κ × β)), (as.foldl (fun acc a => pt acc (kf a) (f a)) acc).length ≤ acc.length + as.length
  | [], acc => Nat.le_refl _
  | a :: as, acc => by
    rw [List.foldl_cons, List.length_cons]
    have := fold_len kf f as (pt acc (kf a) (f a))
    have := pt_len acc (kf a) (f a)
    omega
theorem va_prog {n m : Nat} {p : List Int} (k : Nat) (w : Int) : w * ((p.getD k 0 + 1) / 2) + (1 - p.getD k 0 % 2) * ((k : Int) + 1) = va w p k := rfl
theorem vb_prog (k : Nat) (w : Int) : w * ((k : Int) + 1) = vb w k := rfl
theorem spread_v (ρ : Rho) (w : Int) (k : Nat) (w1 : (-18446744073709551616 : Int) < w) (w2 : w < (18446744073709551616 : Int)) (h5 : ρ[5]? = some (.val (.int w))) (h7 : ρ[7]? = some (.val (.int (k : Int)))) : eOp oMul (eVar 5) (eOp oAdd (eVar 7) (eC (D.int 1))) ρ = .ok (.int (vb w k)) := by
  have := vb_prog k w
  walk_at "ev"
theorem w_small {n l : Nat} (h1 : n ≤ l) (h2 : l ≤ 1000) {w : Int} (hw : (n : Int) + 1 = w) : (-18446744073709551616 : Int) < w ∧ w < (18446744073709551616 : Int) := by omega
theorem k_small {k n l : Nat} (h0 : k < n) (h1 : n ≤ l) (h2 : l ≤ 1000) : (-18446744073709551616 : Int) < (k : Int) + 1 ∧ (k : Int) + 1 < (18446744073709551616 : Int) := by omega
theorem spread_fold (S : List Int) (w : Int) (w1 : (-18446744073709551616 : Int) < w) (w2 : w < (18446744073709551616 : Int)) (a0 a1 a2 a3 a4 a6 a7 a8 a9 a10 a11 a12 : Slot) :
    dcD (gUnp 2 (gsCons (gSet 7) (gsCons (gSet 8) gsNil))) tYes' (eVar 8) (eOp oMul (eVar 5) (eOp oAdd (eVar 7) (eC (D.int 1)))) [a0, a1, a2, a3, a4, .val (.int w), a6, a7, a8, a9, a10, a11, a12] []
      (S.zipIdx.map fun p => D.tup [.int (p.2 : Nat), .int p.1]) = .ok (tabE S (vb w)) := by
  unfold tabE
  refine dcD_fold (fun q : Int × Nat => D.tup [.int (q.2 : Nat), .int q.1]) (fun q => Sum.inl q.1) (fun q => D.int (vb w q.2)) S.zipIdx [] fun q hq => ?_
  refine ⟨[a0, a1, a2, a3, a4, .val (.int w), a6, .val (.int (q.2 : Nat)), .val (.int q.1), a9, a10, a11, a12], .int q.1, unp2 (.inl rfl), rfl, rfl, rfl, ?_⟩
  exact spread_v _ w q.2 w1 w2 rfl rfl
theorem tab_v (ρ : Rho) (w y : Int) (k : Nat) (w1 : (-18446744073709551616 : Int) < w) (w2 : w < (18446744073709551616 : Int)) (w3 : (-18446744073709551616 : Int) < (k : Int) + 1) (w4 : (k : Int) + 1 < (18446744073709551616 : Int))
    (h5 : ρ[5]? = some (.val (.int w))) (h7 : ρ[7]? = some (.val (.int (k : Int)))) (h9 : ρ[9]? = some (.val (.int y))) :
    (eOp oAdd (eOp oMul (eVar 5) (eOp oFdiv (eOp oAdd (eVar 9) (eC (.int 1))) (eC (.int 2)))) (eOp oMul (eOp oSub (eC (.int 1)) (eOp oMod (eVar 9) (eC (.int 2)))) (eOp oAdd (eVar 7) (eC (.int 1))))) ρ = .ok (.int (w * ((y + 1) / 2) + (1 - y % 2) * ((k : Int) + 1))) := by
  walk_at "ev"
theorem tab_put (es : List (Key × D)) (hes : es.length < sizeLine) (w y x : Int) (k : Nat) (w1 : (-18446744073709551616 : Int) < w) (w2 : w < (18446744073709551616 : Int)) (w3 : (-18446744073709551616 : Int) < (k : Int) + 1) (w4 : (k : Int) + 1 < (18446744073709551616 : Int)) (a0 a1 a3 a4 a9 a10 a11 a12 : Slot) (P : D) (hat : oIx P (.int (k : Int)) = some (.int y)) :
    (sSeq (sSet 9 (eOp oIx (eVar 2) (eVar 7)))
      (sPut 6 (eVar 8) (eOp oAdd (eOp oMul (eVar 5) (eOp oFdiv (eOp oAdd (eVar 9) (eC (.int 1))) (eC (.int 2)))) (eOp oMul (eOp oSub (eC (.int 1)) (eOp oMod (eVar 9) (eC (.int 2)))) (eOp oAdd (eVar 7) (eC (.int 1)))))))
      [a0, a1, .val P, a3, a4, .val (.int w), .ownD es, .val (.int (k : Nat)), .val (.int x), a9, a10, a11, a12] =
    .nx [a0, a1, .val P, a3, a4, .val (.int w), .ownD (pt es (Sum.inl x) (D.int (w * ((y + 1) / 2) + (1 - y % 2) * ((k : Int) + 1)))), .val (.int (k : Nat)), .val (.int x), .val (.int y), a10, a11, a12] := by
  have hv := tab_v [a0, a1, .val P, a3, a4, .val (.int w), .ownD es, .val (.int (k : Nat)), .val (.int x), .val (.int y), a10, a11, a12] w y k w1 w2 w3 w4 rfl rfl rfl
  have hdk : dkey (.int x) = some (Sum.inl x) := rfl
  refine seq_step (ρ1 := [a0, a1, .val P, a3, a4, .val (.int w), .ownD es, .val (.int (k : Nat)), .val (.int x), .val (.int y), a10, a11, a12]) ?_ ?_
  · clear hv
    walk_at "ev"
  · unfold sPut
    simp only [List.getElem?_cons_zero, List.getElem?_cons_succ, hv, Rthen, eVar, hdk, ofO, hes, if_true, List.set_cons_zero, List.set_cons_succ]
theorem oIx_dic (es : List (Key × D)) (i : Int) : oIx (.dic es) (.int i) = lk es (Sum.inl i) := rfl
theorem joined_eq {f e : Ms} {p : List Int} (h : Row (nums f).length (nums e).length p) (lf : f.length ≤ 1000) (le : e.length ≤ 1000) (P : D) (hP : ∀ k : Int, oIx P (.int k) = atI (p.map D.int) k) :
    f_joined [.lst (f.map msg), .lst (e.map msg), P] = .ok (.lst ((join f e p).map msg)) := by
  have h1 : f_integers_of [.lst (f.map msg)] = _ := integers_eq true true f
  have h2 : f_integers_of [.lst (e.map msg)] = _ := integers_eq true true e
  have hl1 : ((((isort (nums f)).map D.int).length : Nat) : Int) = (nums f).length := by rw [List.length_map, sort_len]
  have nf := nums_len f
  unfold join
  generalize hw : ((nums f).length : Int) + 1 = w
  have hen1 := enumD_ints (isort (nums f))
  have hen2 := enumD_ints (isort (nums e))
  unfold f_joined b_joined
  refine fn_rt ?_
  refine seq_step (by walk_at "ev"; rfl) ?_
  refine seq_step (by walk_at "ev"; rfl) ?_
  refine seq_step (by walk_at "ev"; rfl) ?_
  refine seq_step (by walk_at "ev"; rfl) ?_
  clear h1 h2
  refine seq_some (fun ρ => ∃ (z7 z8 z9 : Slot), ρ = [.val (.lst (f.map msg)), .val (.lst (e.map msg)), .val P, .val (.lst ((isort (nums f)).map D.int)), .val (.lst ((isort (nums e)).map D.int)), .val (.int w), .ownD (tabE (isort (nums f)) (va w p)), z7, z8, z9, .none, .none, .none]) ?_ ?_
  · walk_at "ev"
    refine forD_some (fun q : Int × Nat => D.tup [.int (q.2 : Nat), .int q.1]) (isort (nums f)).zipIdx (fun pre ρ => ∃ (z7 z8 z9 : Slot), ρ = [.val (.lst (f.map msg)), .val (.lst (e.map msg)), .val P, .val (.lst ((isort (nums f)).map D.int)), .val (.lst ((isort (nums e)).map D.int)), .val (.int w), .ownD (pre.foldl (fun acc q => pt acc (Sum.inl q.1) (D.int (va w p q.2))) []), z7, z8, z9, .none, .none, .none]) ⟨_, _, _, rfl⟩ ?_ (fun ρ h => h)
    rintro pre ⟨x, k⟩ post ρ he ⟨z7, z8, z9, rfl⟩
    have hk : k < (nums f).length := by
      have h1 : (x, k) ∈ (isort (nums f)).zipIdx := by rw [he]; simp
      have h2 := List.mk_mem_zipIdx_iff_getElem?.mp h1
      rw [← sort_len]
      rcases Nat.lt_or_ge k (isort (nums f)).length with z | z
      · exact z
      · rw [List.getElem?_eq_none z] at h2; cases h2
    have hlen : pre.length ≤ 1000 := by
      have := congrArg List.length he
      rw [List.length_append, List.length_cons, List.length_zipIdx, sort_len] at this
      omega
    have hat := row_at h hk
    rw [← hP] at hat
    have hsz : (pre.foldl (fun acc q => pt acc (Sum.inl q.1) (D.int (va w p q.2))) ([] : List (Key × D))).length < sizeLine := by
      have := fold_len (fun q : Int × Nat => (Sum.inl q.1 : Key)) (fun q => D.int (va w p q.2)) pre []
      simp only [List.length_nil] at this
      exact line_lt (by omega)
    have hv := va_prog (n := (nums f).length) (m := (nums e).length) (p := p) k w
    clear he hen1 hen2 hP hl1
    refine ⟨_, unp2 (.inl rfl), ?_⟩
    rw [List.foldl_append]
    obtain ⟨w1, w2⟩ := w_small nf lf hw
    obtain ⟨w3, w4⟩ := k_small hk nf lf
    have hput := tab_put _ hsz w (p.getD k 0) x k w1 w2 w3 w4 (.val (.lst (f.map msg))) (.val (.lst (e.map msg))) (.val (.lst ((isort (nums f)).map D.int))) (.val (.lst ((isort (nums e)).map D.int))) z9 .none .none .none P hat
    rw [hv] at hput
    exact ⟨_, .inl hput, _, _, _, rfl⟩
  · rintro ρ1 ⟨z7, z8, z9, rfl⟩
    obtain ⟨w1, w2⟩ := w_small nf lf hw
    have hg1 : ∀ m ∈ f, lk (tabE (isort (nums f)) (va w p)) (Sum.inl m.2) = some (.int (va w p (rk f m.2))) := fun m hm => tabE_get hm
    have hg2 : ∀ m ∈ e, lk (tabE (isort (nums e)) (vb w)) (Sum.inl m.2) = some (.int (vb w (rk e m.2))) := fun m hm => tabE_get hm
    generalize tabE (isort (nums f)) (va w p) = R1 at *
    have hds := spread_fold (isort (nums e)) w w1 w2 (.val (.lst (f.map msg))) (.val (.lst (e.map msg))) (.val P) (.val (.lst ((isort (nums f)).map D.int))) (.val (.lst ((isort (nums e)).map D.int))) (.ownD R1) .none .none z9 .none .none .none
    rw [← hen2] at hds
    have hd : f_dense [.lst ((Tv f e (va w p) (vb w)).map msg)] = _ := dense_eq true true _
    have hadd := oAdd_lst (xs := (Fv f (va w p)).map msg) (ys := (Fv e (vb w)).map msg) (by unfold Fv; simp; omega)
    rw [← List.map_append] at hadd
    have hap : Fv f (va w p) ++ Fv e (vb w) = Tv f e (va w p) (vb w) := rfl
    rw [hap] at hadd
    have hF1 : (f.map fun m => msg (m.1, va w p (rk f m.2))) = (Fv f (va w p)).map msg := by unfold Fv; rw [List.map_map]; rfl
    have hF2 : (e.map fun m => msg (m.1, vb w (rk e m.2))) = (Fv e (vb w)).map msg := by unfold Fv; rw [List.map_map]; rfl
    clear hap hen1 hP
    generalize Tv f e (va w p) (vb w) = tt at *
    refine seq_step (ρ1 := [.val (.lst (f.map msg)), .val (.lst (e.map msg)), .val P, .val (.lst ((isort (nums f)).map D.int)), .val (.lst ((isort (nums e)).map D.int)), .val (.int w), .ownD R1, z7, z8, z9, .val (.dic (tabE (isort (nums e)) (vb w))), .none, .none]) ?_ ?_
    · clear hg1 hg2 hl1 hw hen2 hd hadd hF1 hF2
      walk_at "ev"
    refine seq_step (ρ1 := [.val (.lst (f.map msg)), .val (.lst (e.map msg)), .val P, .val (.lst ((isort (nums f)).map D.int)), .val (.lst ((isort (nums e)).map D.int)), .val (.int w), .val (.dic R1), z7, z8, z9, .val (.dic (tabE (isort (nums e)) (vb w))), .val (.lst ((Fv f (va w p)).map msg)), .none]) ?_ ?_
    · clear hg2 hl1 hw hen2 hd hadd hds
      walk_at "ev"
      rw [lcD_map msg (fun m => msg (m.1, va w p (rk f m.2))) f (fun m hm => ⟨_, rfl, rfl, by
        have hg := hg1 m hm
        rw [← oIx_dic] at hg
        clear hg1 hF1 hF2
        unfold msg
        walk_at "ev"⟩)]
      rw [hF1]
    · clear hg1 hl1 hw hen2 hds
      walk_at "ev"
      rw [lcD_map msg (fun m => msg (m.1, vb w (rk e m.2))) e (fun m hm => ⟨_, rfl, rfl, by
        have hg := hg2 m hm
        rw [← oIx_dic] at hg
        clear hg2 hF1 hF2 hd hadd
        unfold msg
        walk_at "ev"⟩)]
      rw [hF2]
      walk_at "ev"
local macro_rules | `(tactic| walk_at "ev") => `(tactic| simp only [fnD, sSeq, sSet, sRet, sRetN, sIf, sSkip, sDrop, sOwn, sOwnD, sOwnT, sApp, sFor, sAug, Rthen, eVar, eC, eOp, eUn, eCall, eCallB, evs, eTup, eLst, ofO, asB, asT, eAnd, eOr, eNot, tAnd', tOr', tNot', eIf, R.bind, eLc, eDc, tYes', wipeR, iAny, iRange1, iRange2, iEnumD, gSet, gUnp, gsCons, gsNil, ePeek, tPeek, eIxOwn, freeze, Slot.frozen, eSl, pNone, pSome, oSl, R.quiet,
  oAdd_int, oSub, oMul, oFdiv, oMod, pow18, oLt, oLe, oGt, oGe, oEq_int, oNe_int, oEq_bl, oNe_bl, oIx_lst, oIx_scr, oIx_tup, at0, at1, at2, at3, at4, oLen, oInt, oNeg, oList, oTuple, oAddI, truD, oNot, oNotIn, smallI, List.map_cons, List.map_nil, List.cons_append, List.nil_append, List.replicate, List.getElem?_cons_zero, List.getElem?_cons_succ, List.set_cons_zero, List.set_cons_succ, List.length_cons, List.length_nil, Option.bind_some, Option.bind_none, Option.map_some, Option.map_none, if_true, if_false, decide_true, decide_false,
  Int.reducePow, Int.reduceNeg, Int.reduceLT, Int.reduceLE, and_self, and_true, true_and, Bool.or_true, Bool.true_or, Bool.or_false, Bool.false_or, Bool.and_true, Bool.true_and, Bool.false_eq_true, Bool.not_true, Bool.not_false, rangeOk_nat, irange_eq, snoc_int, snoc_str, *])
/-! ### positions, spread inputs, small inputs: what the code computes -/
theorem bl_nodup {m : Nat} {b : Nat → Int} (hb : Up m b) : (bl m b).Nodup := by
  unfold bl
  refine List.pairwise_map.mpr (List.Pairwise.imp_of_mem ?_ (List.pairwise_lt_range (n := m)))
  intro x y _ hy h
  have := hb x y h (by simpa using hy)
  omega
theorem positions_eq {f e : Ms} {a b : Nat → Int} (ha : Up (nums f).length a) (hb : Up (nums e).length b) (lf : f.length ≤ 1000) (le : e.length ≤ 1000) :
    f__law_positions [.lst ((Tv f e a b).map msg), .int (f.length : Nat)] = .ok (rowD (place (nums f).length (nums e).length a b)) := by
  have t1 : cutD ((Tv f e a b).map msg) none (some (f.length : Int)) = (Fv f a).map msg := by
    rw [cut_to, ← List.map_take]
    unfold Tv
    rw [List.take_append_of_le_length (by unfold Fv; simp), List.take_of_length_le (by unfold Fv; simp)]
  have t2 : cutD ((Tv f e a b).map msg) (some (f.length : Int)) none = (Fv e b).map msg := by
    rw [cut_from, ← List.map_drop]
    unfold Tv
    rw [List.drop_append_of_le_length (by unfold Fv; simp), List.drop_eq_nil_of_le (by unfold Fv; simp)]; rfl
  have d1 := distinct_eq (Fv f a) (by unfold Fv; simp; omega)
  have d2 := distinct_eq (Fv e b) (by unfold Fv; simp; omega)
  rw [sort_Fv ha] at d1
  rw [sort_Fv hb] at d2
  have hp := lposition_nd (bl_nodup hb)
  unfold f__law_positions b__law_positions
  walk_at "ev"
  rw [lcD_map D.int (fun x => D.int (pos (bl (nums e).length b) x)) (bl (nums f).length a) (fun x _ => ⟨_, rfl, rfl, by walk_at "ev"⟩)]
  walk_at "ev"
  unfold rowD place bl
  rw [List.map_map, List.map_map]
  rfl
/-- ascending by at least one, from -3 on -/
def wides (rs : List Int) : Nat → Int
  | 0 => -3 + 1 + rs.getD 0 0 % 4
  | k + 1 => wides rs k + 1 + rs.getD (k + 1) 0 % 4
theorem wides_up (rs : List Int) (n : Nat) : Up n (wides rs) := by
  have h : ∀ d i, wides rs i < wides rs (i + d + 1) := by
    intro d
    induction d with
    | zero => intro i; show wides rs i < wides rs i + 1 + _; omega
    | succ d ih => intro i; have := ih i; show wides rs i < wides rs (i + d + 1) + 1 + _; omega
  intro i j hij _
  have := h (j - i - 1) i
  rwa [show i + (j - i - 1) + 1 = j by omega] at this
def lastW (rs : List Int) : Nat → Int
  | 0 => -3
  | k + 1 => wides rs k
theorem lastW_step (rs : List Int) (k : Nat) : lastW rs k + 1 + rs.getD k 0 % 4 = lastW rs (k + 1) := by cases k <;> rfl
theorem spread_eq (ms : Ms) (rs : List Int) (lm : ms.length ≤ 1000) (hr : (nums ms).length ≤ rs.length) :
    f__law_spread [.lst (ms.map msg), .lst (rs.map D.int)] = .ok (.lst ((Fv ms (wides rs)).map msg)) := by
  have d1 := distinct_eq ms (by omega)
  have hn := nums_len ms
  have l1 : ((isort (nums ms)).map D.int).length = (nums ms).length := by rw [List.length_map, sort_len]
  have hro : rangeOk (nums ms).length ((nums ms).length : Int) = true := rangeOk_nat (n := (nums ms).length) (by omega)
  have ht : (((nums ms).length : Nat) : Int).toNat = (nums ms).length := by omega
  have l2 : ∀ x, ((isort (nums ms)).filter fun y => decide (y < x)).length = rk ms x := fun x => less_sort ms x
  unfold f__law_spread b__law_spread
  refine fn_rt ?_
  refine seq_step (by walk_at "ev"; rfl) ?_
  refine seq_step (by walk_at "ev"; rfl) ?_
  refine seq_step (by walk_at "ev"; rfl) ?_
  refine seq_some (fun ρ => ∃ (z4 z5 : Slot), ρ = [.val (.lst (ms.map msg)), .val (.lst (rs.map D.int)), .val (.lst ((isort (nums ms)).map D.int)), .own (((List.range (nums ms).length).map (wides rs)).map D.int), z4, z5, .none, .none]) ?_ ?_
  · walk_at "ev"
    refine forD_some (fun k : Nat => D.int (0 + (k : Int))) (List.range (nums ms).length) (fun pre ρ => ∃ (z5 : Slot), ρ = [.val (.lst (ms.map msg)), .val (.lst (rs.map D.int)), .val (.lst ((isort (nums ms)).map D.int)), .own ((pre.map (wides rs)).map D.int), .val (.int (lastW rs pre.length)), z5, .none, .none]) ⟨_, rfl⟩ ?_ (fun ρ ⟨z, h⟩ => ⟨_, _, h⟩)
    rintro pre k post ρ he ⟨z5, rfl⟩
    obtain ⟨rfl, hk⟩ := range_split he
    have hlt : pre.length < rs.length := by omega
    have hat : atI (rs.map D.int) (0 + (pre.length : Int)) = some (.int (rs.getD pre.length 0)) := by
      rw [Int.zero_add, atI_map, atI_nat (List.getElem?_eq_getElem hlt)]
      simp [List.getD, List.getElem?_eq_getElem hlt]
    have hst := lastW_step rs pre.length
    have hsz : ((pre.map (wides rs)).map D.int).length < sizeLine := by rw [List.length_map, List.length_map]; exact line_lt (by omega)
    have hls : lastW rs (pre.length + 1) = wides rs pre.length := rfl
    rw [hls] at hst
    have hlen : (pre ++ [pre.length]).length = pre.length + 1 := by simp
    have hsn : (pre.map (wides rs)).map D.int ++ [D.int (wides rs pre.length)] = ((pre ++ [pre.length]).map (wides rs)).map D.int := by simp
    clear he d1 hro ht l1 l2 hn hls
    rw [hlen]
    refine ⟨_, rfl, ?_⟩
    have hl2 : lastW rs (pre.length + 1) = wides rs pre.length := rfl
    rw [hl2]
    clear hl2 hlen
    walk_at "ev"
    exact ⟨_, .inl rfl, _, rfl⟩
  · rintro ρ1 ⟨z4, z5, rfl⟩
    clear d1 hro ht l1
    have hF1 : (ms.map fun m => msg (m.1, wides rs (rk ms m.2))) = (Fv ms (wides rs)).map msg := by unfold Fv; rw [List.map_map]; rfl
    walk_at "ev"
    rw [lcD_map msg (fun m => msg (m.1, wides rs (rk ms m.2))) ms (fun m hm => ⟨_, rfl, rfl, by
      have hk := rk_lt hm
      have hat : atI (((List.range (nums ms).length).map (wides rs)).map D.int) ((rk ms m.2 : Nat) : Int) = some (.int (wides rs (rk ms m.2))) := by
        have : ((List.range (nums ms).length).map (wides rs))[rk ms m.2]? = some (wides rs (rk ms m.2)) := by rw [List.getElem?_map, List.getElem?_range hk]; rfl
        rw [atI_map, atI_nat this]; rfl
      have l3 : ∀ x, ((((isort (nums ms)).filter fun y => decide (y < x)).map D.int).length : Int) = (rk ms x : Nat) := fun x => by rw [List.length_map, l2]
      clear hF1 l2
      unfold msg
      walk_at "ev"
      rw [lt_filter (isort (nums ms)) m.2 _ _ _ _ (fun y => ⟨_, rfl, by walk_at "ev", fun _ => by walk_at "ev"⟩)]
      walk_at "ev"⟩)]
    rw [hF1]
local macro_rules | `(tactic| walk_at "ev") => `(tactic| simp only [fnD, sSeq, sSet, sRet, sRetN, sIf, sSkip, sDrop, sOwn, sOwnD, sOwnT, sApp, sFor, sAug, Rthen, eVar, eC, eOp, eUn, eCall, eCallB, evs, eTup, eLst, ofO, asB, asT, eAnd, eOr, eNot, tAnd', tOr', tNot', eIf, R.bind, eLc, eDc, tYes', wipeR, iAny, iRange1, iRange2, iEnumD, gSet, gUnp, gsCons, gsNil, ePeek, tPeek, eIxOwn, freeze, Slot.frozen, eSl, pNone, pSome, oSl, R.quiet,
  oAdd_int, oSub, oMul, oFdiv, oMod, pow18, oLt, oLe, oGt, oGe, oEq_int, oNe_int, oEq_bl, oNe_bl, oIx_lst, oIx_scr, oIx_tup, at0, at1, at2, at3, at4, oLen, oInt, oNeg, oList, oTuple, oAddI, truD, oNot, oNotIn, smallI, List.map_cons, List.map_nil, List.cons_append, List.nil_append, List.replicate, List.getElem?_cons_zero, List.getElem?_cons_succ, List.set_cons_zero, List.set_cons_succ, List.length_cons, List.length_nil, Option.bind_some, Option.bind_none, Option.map_some, Option.map_none, if_true, if_false, decide_true, decide_false,
  Int.reducePow, Int.reduceNeg, Int.reduceLT, Int.reduceLE, and_self, and_true, true_and, Bool.or_true, Bool.true_or, Bool.or_false, Bool.false_or, Bool.and_true, Bool.true_and, Bool.false_eq_true, Bool.not_true, Bool.not_false, rangeOk_nat, irange_eq, snoc_int, snoc_str, *])
/-! ### law k03 -/
theorem nums_small {ms : Ms} {c : Nat} (h : ∀ m ∈ ms, 0 ≤ m.2 ∧ m.2 < (c : Int)) : (nums ms).length ≤ c := by
  have h1 : ∀ x ∈ nums ms, x ∈ (List.range c).map fun i : Nat => (i : Int) := fun x hx => by
    obtain ⟨m, hm, rfl⟩ := List.mem_map.mp ((nums_mem _ _).mp hx)
    obtain ⟨a, b⟩ := h m hm
    exact List.mem_map.mpr ⟨m.2.toNat, by simp; omega, by omega⟩
  have := (nums_nodup ms).length_le_of_subset h1
  simpa using this
theorem small_eq {ws : List Str} (hw : 0 < ws.length) (c : Int) : ∃ ms : Ms, f__law_small [.tup (ws.map D.str), .int c] = .ok (.lst (ms.map msg)) ∧ ms.length ≤ 6 ∧ (nums ms).length ≤ 5 ∧ ∀ m ∈ ms, m.1 ∈ ws := by
  obtain ⟨k3, e3, b3⟩ := mod_nat (a := c / 7) (n := 3) (by decide)
  obtain ⟨k5, e5, b5⟩ := mod_nat (a := c / 7) (n := 5) (by decide)
  unfold f__law_small b__law_small
  by_cases h : c / 35 % 6 = 0
  · obtain ⟨ms, e, l, hm⟩ := input_eq ws hw c (4 + k3) (by omega)
    have e : f__law_input [.tup (ws.map D.str), .int c, .int (4 + (k3 : Int))] = .ok (.lst (ms.map msg)) := by rw [show (4 : Int) + k3 = ((4 + k3 : Nat) : Int) by omega]; exact e
    refine ⟨ms.map fun m => (m.1, m.2 % 5), ?_, by rw [List.length_map]; omega, nums_small (c := 5) fun m hx => ?_, fun m hx => ?_⟩
    · walk_at "ev"
      rw [lcD_map msg (fun m => msg (m.1, m.2 % 5)) ms (fun m hm => ⟨_, rfl, rfl, by unfold msg; walk_at "ev"⟩)]
      rw [List.map_map]
      rfl
    · obtain ⟨k, hk, rfl⟩ := List.mem_map.mp hx
      show 0 ≤ k.2 % 5 ∧ k.2 % 5 < 5
      omega
    · obtain ⟨k, hk, rfl⟩ := List.mem_map.mp hx
      exact hm k hk
  · obtain ⟨ms, e, l, hm⟩ := input_eq ws hw c k5 (by omega)
    refine ⟨ms.map fun m => (m.1, m.2 % 3), ?_, by rw [List.length_map]; omega, Nat.le_trans (nums_small (c := 3) fun m hx => ?_) (by decide), fun m hx => ?_⟩
    · walk_at "ev"
      rw [lcD_map msg (fun m => msg (m.1, m.2 % 3)) ms (fun m hm => ⟨_, rfl, rfl, by unfold msg; walk_at "ev"⟩)]
      rw [List.map_map]
      rfl
    · obtain ⟨k, hk, rfl⟩ := List.mem_map.mp hx
      show 0 ≤ k.2 % 3 ∧ k.2 % 3 < 3
      omega
    · obtain ⟨k, hk, rfl⟩ := List.mem_map.mp hx
      exact hm k hk
theorem count_one {α : Type} [DecidableEq α] {l : List α} (h : l.Nodup) {p : α} (hp : p ∈ l) (q : α → Bool) (hq : ∀ a ∈ l, q a = true ↔ a = p) : (l.filter q).length = 1 := by
  induction l with
  | nil => cases hp
  | cons a l ih =>
    have hn := List.nodup_cons.mp h
    by_cases e : a = p
    · have h0 : l.filter q = [] := by
        rw [List.filter_eq_nil_iff]
        intro b hb hqb
        have := (hq b (List.mem_cons_of_mem _ hb)).mp hqb
        exact hn.1 (by rw [e, ← this]; exact hb)
      rw [List.filter_cons_of_pos ((hq a List.mem_cons_self).mpr e), h0]; rfl
    · rw [List.filter_cons_of_neg (fun z => e ((hq a List.mem_cons_self).mp z))]
      exact ih hn.2 ((List.mem_cons.mp hp).resolve_left fun z => e z.symm) fun b hb => hq b (List.mem_cons_of_mem _ hb)
theorem EqE.mem {α : Type} [DecidableEq α] {enc : α → D} {ok : α → Prop} {n : Nat} (h : EqE enc ok n) {a : α} {as : List α} (ha : ok a) (has : ∀ x ∈ as, ok x) (hv : toV (enc a) = none) (hn : n ≤ 63 := by decide) :
    oIn (enc a) (.lst (as.map enc)) = some (.bl (decide (a ∈ as))) := by
  obtain ⟨py, h1, h2, h3, h4⟩ := h
  have s1 : SeqAt.shaped (py a) = true := by unfold SeqAt.shaped; rw [h2 a ha, decide_eq_true (by have := h3 a; omega)]; rfl
  have s2 : SeqAt.shaped (.list (as.map py)) = true := by
    have h5 := canLayAll_map as fun x hx => h2 x (has x hx)
    have h6 := depthAll_map h3 as
    unfold SeqAt.shaped
    simp only [PyData.canLay0, h5, PyData.depth, Bool.true_and]
    exact decide_eq_true (by omega)
  have hany : (as.map py).any (fun z => PyData.eqv z (py a)) = decide (a ∈ as) := by
    rw [List.any_map]
    have : ∀ x, (fun z => PyData.eqv z (py a)) (py x) = decide (x = a) := fun x => h4 x a
    induction as with
    | nil => rfl
    | cons x as ih =>
      have ih := ih (fun y hy => has y (List.mem_cons_of_mem _ hy))
        (by
          have h5 := canLayAll_map as fun y hy => h2 y (has y (List.mem_cons_of_mem _ hy))
          have h6 := depthAll_map h3 as
          unfold SeqAt.shaped
          simp only [PyData.canLay0, h5, PyData.depth, Bool.true_and]
          exact decide_eq_true (by omega))
      rw [List.any_cons, ih]
      show (PyData.eqv (py x) (py a) || _) = _
      rw [h4]
      by_cases e : x = a
      · subst e; simp
      · have e' : ¬ a = x := fun z => e z.symm
        simp [e, e']
  unfold oIn
  simp only [hv, h1, toPyL_map h1, Option.bind_some, s1, s2, Bool.and_self, if_true, hany]
theorem eqe_row : EqE rowD (fun _ => True) 1 := by
  obtain ⟨py, h1, h2, h3, h4⟩ := EqE.int.tup
  exact ⟨py, h1, fun a _ => h2 a fun _ _ => trivial, h3, h4⟩
theorem row_ne (p q : List Int) : oNe (rowD p) (rowD q) = some (.bl (!decide (p = q))) := eqe_row.ne trivial trivial
theorem rows_ne (p q : List (List Int)) : oNe (.lst (p.map rowD)) (.lst (q.map rowD)) = some (.bl (!decide (p = q))) := eqe_row.lst.ne (fun _ _ => trivial) (fun _ _ => trivial)
theorem okM_ldense {a : Ms} (h : okM a) : okM (ldense a) := okM_dense h
theorem okM_Fv {ms : Ms} {a : Nat → Int} (h : okM ms) : okM (Fv ms a) := fun m hm => by
  unfold Fv at hm
  obtain ⟨k, hk, rfl⟩ := List.mem_map.mp hm
  exact h k hk
theorem okM_Tv {f e : Ms} {a b : Nat → Int} (h : okM f) (k : okM e) : okM (Tv f e a b) := fun m hm => by
  rcases List.mem_append.mp hm with hm | hm
  · exact okM_Fv h m hm
  · exact okM_Fv k m hm
theorem okM_join {f e : Ms} {p : List Int} (h : okM f) (k : okM e) : okM (join f e p) := okM_dense (okM_Tv h k)
theorem mss_ne {a b : List Ms} (ha : ∀ x ∈ a, okM x) (hb : ∀ x ∈ b, okM x) : oNe (.lst (a.map fun x => D.lst (x.map msg))) (.lst (b.map fun x => D.lst (x.map msg))) = some (.bl (!decide (a = b))) :=
  eqe_ms.lst.ne (fun x hx m hm => ⟨ha x hx m hm, trivial⟩) (fun x hx m hm => ⟨hb x hx m hm, trivial⟩)
theorem ms_in {a : Ms} {b : List Ms} (ha : okM a) (hb : ∀ x ∈ b, okM x) : oIn (.lst (a.map msg)) (.lst (b.map fun x => D.lst (x.map msg))) = some (.bl (decide (a ∈ b))) :=
  (eqe_ms.mem (fun m hm => ⟨ha m hm, trivial⟩) (fun x hx m hm => ⟨hb x hx m hm, trivial⟩) rfl).trans (congrArg (fun b => some (D.bl b)) (decide_eq_decide.mpr Iff.rfl))
def jD (f e : Ms) (p : List Int) : D := .lst ((join f e p).map msg)
theorem loop1 {ns : List Int} {ws : List Str} {f e : Ms} (of : okM f) (oe : okM e) (lf : f.length ≤ 1000) (le : e.length ≤ 1000) (nn : (nums f).length ≤ 5) (hb : (2 * (nums e).length + 1) ^ (nums f).length ≤ 100000)
    {pre post : List (List Int)} {p : List Int} (he : rowsN (nums e).length (nums f).length = pre ++ p :: post) (z8 z9 : Slot) :
    (sSeq (sSet 9 (eCall f_joined [(eVar 2), (eVar 3), (eVar 8)]))
    (sSeq (sIf (tOr' (asB (eOp oNe (eVar 9) (eCall f__law_joined [(eVar 2), (eVar 3), (eVar 8)]))) (asB (eOp oNe (eCall f__law_positions [(eVar 9), (eCallB oLen [(eVar 2)])]) (eVar 8)))) (sRet (eC (.bl false))) sSkip)
    (sSeq (sIf (tOr' (tNot' (asT (eCall f_alike [(eSl (eVar 9) pNone (pSome (eCallB oLen [(eVar 2)]))), (eVar 2)]))) (tOr' (tNot' (asT (eCall f_alike [(eSl (eVar 9) (pSome (eCallB oLen [(eVar 2)])) pNone), (eVar 3)]))) (tPeek 7 (asB (eOp oIn (eVar 9) (eVar 7)))))) (sRet (eC (.bl false))) sSkip)
    (sSeq (sApp 7 (eVar 9))
    (sIf (tOr' (asB (eOp oNe (eCall f_joined [(eOp oIx (eVar 5) (eC (.int 0))), (eOp oIx (eVar 5) (eC (.int 1))), (eCallB oList [(eVar 8)])]) (eVar 9))) (asB (eOp oNe (eVar 5) (eLst [(eCallB oList [(eVar 2)]), (eCallB oList [(eVar 3)])])))) (sRet (eC (.bl false))) sSkip)))))
    [.val (.scr (ns.map D.int)), .val (.tup (ws.map D.str)), .val (.lst (f.map msg)), .val (.lst (e.map msg)), .val (.lst ((rowsN (nums e).length (nums f).length).map rowD)), .val (.lst [.lst (f.map msg), .lst (e.map msg)]), .val (.lst ((rowsN (nums e).length (nums f).length).map rowD)), .own (pre.map (jD f e)), .val (rowD p), z9, .none, .none, .none, .none]
    = .nx [.val (.scr (ns.map D.int)), .val (.tup (ws.map D.str)), .val (.lst (f.map msg)), .val (.lst (e.map msg)), .val (.lst ((rowsN (nums e).length (nums f).length).map rowD)), .val (.lst [.lst (f.map msg), .lst (e.map msg)]), .val (.lst ((rowsN (nums e).length (nums f).length).map rowD)), .own ((pre ++ [p]).map (jD f e)), .val (rowD p), .val (jD f e p), .none, .none, .none, .none] := by
  have hp : Row (nums f).length (nums e).length p := mem_rows.mp (by rw [he]; simp)
  have hpre : ∀ q ∈ pre, Row (nums f).length (nums e).length q := fun q hq => mem_rows.mp (by rw [he]; exact List.mem_append_left _ hq)
  have hnd := rows_nodup (nums e).length (nums f).length
  rw [he] at hnd
  have hnp : p ∉ pre := fun z => (List.nodup_append.mp hnd).2.2 p z p (by simp) rfl
  have hlen : pre.length ≤ 100000 := by
    have h1 := rows_len (nums e).length (nums f).length
    rw [he, List.length_append] at h1
    omega
  have nf := nums_len f
  have j1 : f_joined [.lst (f.map msg), .lst (e.map msg), rowD p] = .ok (jD f e p) := joined_eq hp lf le (rowD p) fun _ => rfl
  have j2 : f_joined [.lst (f.map msg), .lst (e.map msg), .lst (p.map D.int)] = .ok (jD f e p) := joined_eq hp lf le (.lst (p.map D.int)) fun _ => rfl
  have j3 : f__law_joined [.lst (f.map msg), .lst (e.map msg), rowD p] = .ok (jD f e p) := by
    rw [ljoined_eq hp lf le, join_w hp (by omega)]; rfl
  have oj : okM (join f e p) := okM_join of oe
  have n1 : oNe (jD f e p) (jD f e p) = some (.bl false) := by
    have := ms_ne oj oj
    rw [decide_eq_true rfl] at this
    exact this
  have n2 : oNe (rowD p) (rowD p) = some (.bl false) := by rw [row_ne, decide_eq_true rfl]; rfl
  have n3 : oNe (.lst [.lst (f.map msg), .lst (e.map msg)]) (.lst [.lst (f.map msg), .lst (e.map msg)]) = some (.bl false) := by
    have := mss_ne (a := [f, e]) (b := [f, e]) (fun x hx => by rcases List.mem_cons.mp hx with rfl | hx; exact of; rw [List.mem_singleton.mp hx]; exact oe) (fun x hx => by rcases List.mem_cons.mp hx with rfl | hx; exact of; rw [List.mem_singleton.mp hx]; exact oe)
    rw [decide_eq_true rfl] at this
    exact this
  have hlf : (((f.map msg).length : Nat) : Int) = f.length := by rw [List.length_map]
  have hol : oList [rowD p] = some (.lst (p.map D.int)) := rfl
  obtain ⟨a, b, ua, ub, hab, hpl⟩ := join_parts hp
  have hpos : f__law_positions [jD f e p, .int (f.length : Nat)] = .ok (rowD p) := by
    unfold jD
    rw [hab, positions_eq ua ub lf le, hpl]
  have c1 : cutD ((join f e p).map msg) none (some (f.length : Int)) = (Fv f a).map msg := by
    rw [hab, cut_to, ← List.map_take]
    unfold Tv
    rw [List.take_append_of_le_length (by unfold Fv; simp), List.take_of_length_le (by unfold Fv; simp)]
  have c2 : cutD ((join f e p).map msg) (some (f.length : Int)) none = (Fv e b).map msg := by
    rw [hab, cut_from, ← List.map_drop]
    unfold Tv
    rw [List.drop_append_of_le_length (by unfold Fv; simp), List.drop_eq_nil_of_le (by unfold Fv; simp)]; rfl
  have a1 : f_alike [.lst ((Fv f a).map msg), .lst (f.map msg)] = .ok (.bl true) := by
    rw [show f_alike [.lst ((Fv f a).map msg), .lst (f.map msg)] = _ from alike_eq true true true true (okM_Fv of) of, decide_eq_true (Fv_alike ua)]
  have a2 : f_alike [.lst ((Fv e b).map msg), .lst (e.map msg)] = .ok (.bl true) := by
    rw [show f_alike [.lst ((Fv e b).map msg), .lst (e.map msg)] = _ from alike_eq true true true true (okM_Fv oe) oe, decide_eq_true (Fv_alike ub)]
  have hin : oIn (jD f e p) (.lst (pre.map (jD f e))) = some (.bl false) := by
    have h1 := ms_in (a := join f e p) (b := pre.map (join f e)) oj fun x hx => by obtain ⟨q, _, rfl⟩ := List.mem_map.mp hx; exact okM_join of oe
    rw [List.map_map] at h1
    have h2 : ¬ join f e p ∈ pre.map (join f e) := fun z => by
      obtain ⟨q, hq, e1⟩ := List.mem_map.mp z
      have := join_inj (hpre q hq) hp e1
      exact hnp (this ▸ hq)
    rw [decide_eq_false h2] at h1
    exact h1
  have hsz : (pre.map (jD f e)).length < sizeLine := snoc_len hlen (by decide)
  have hsn : pre.map (jD f e) ++ [jD f e p] = (pre ++ [p]).map (jD f e) := by simp
  clear he hnd hab hpl hb
  obtain ⟨mm, hm1, hm2⟩ : ∃ mm, (join f e p).map msg = mm ∧ jD f e p = .lst mm := ⟨_, rfl, rfl⟩
  rw [hm1] at c1 c2
  rw [hm2] at j1 j2 j3 n1 hpos hin hsn ⊢
  clear hm1 hm2 oj
  have hrd : rowD p = .tup (p.map D.int) := rfl
  rw [hrd] at j1 j3 n2 hpos ⊢
  clear hrd hol
  refine seq_step (by walk_at "ev"; rfl) ?_
  clear j1
  refine seq_step (by walk_at "ev"; rfl) ?_
  clear hpos j3
  refine seq_step (by walk_at "ev"; rfl) ?_
  clear hin a1 a2 c1 c2
  refine seq_step (by walk_at "ev"; rfl) ?_
  walk_at "ev"
theorem cut_list (xs : List D) (k : Nat) (h : k ≤ xs.length) : cutD xs none (some (k : Int)) = xs.take k := cut_to xs k
theorem loop2 {ns : List Int} {ws : List Str} {f e : Ms} (of : okM f) (oe : okM e) (lf : f.length ≤ 1000) (le : e.length ≤ 1000) (nn : (nums f).length ≤ 5) (nm : (nums e).length ≤ 5) (hb : (2 * (nums e).length + 1) ^ (nums f).length ≤ 100000)
    (c : Int) (z8 z9 z11 z12 : Slot) : ∃ r w,
    (sSeq (sSet 11 (eCall f__law_row [(eVar 10), (eC (.int 12))]))
    (sSeq (sSet 12 (eCall f__law_dense [(eOp oAdd (eCall f__law_spread [(eVar 2), (eSl (eVar 11) pNone (pSome (eC (.int 6))))]) (eCall f__law_spread [(eVar 3), (eSl (eVar 11) (pSome (eC (.int 6))) pNone)]))]))
    (sIf (tPeek 7 (asB (eOp oNe (eCallB oLen [(eLc (iAny (eVar 7)) (gSet 9) (asB (eOp oEq (eVar 9) (eVar 12))) (eC (.int 1)) [9])]) (eC (.int 1))))) (sRet (eC (.bl false))) sSkip)))
    [.val (.scr (ns.map D.int)), .val (.tup (ws.map D.str)), .val (.lst (f.map msg)), .val (.lst (e.map msg)), .val (.lst ((rowsN (nums e).length (nums f).length).map rowD)), .val (.lst [.lst (f.map msg), .lst (e.map msg)]), .val (.lst ((rowsN (nums e).length (nums f).length).map rowD)), .own ((rowsN (nums e).length (nums f).length).map (jD f e)), z8, z9, .val (.int c), z11, z12, .none]
    = .nx [.val (.scr (ns.map D.int)), .val (.tup (ws.map D.str)), .val (.lst (f.map msg)), .val (.lst (e.map msg)), .val (.lst ((rowsN (nums e).length (nums f).length).map rowD)), .val (.lst [.lst (f.map msg), .lst (e.map msg)]), .val (.lst ((rowsN (nums e).length (nums f).length).map rowD)), .own ((rowsN (nums e).length (nums f).length).map (jD f e)), z8, z9, .val (.int c), r, w, .none] := by
  obtain ⟨rs, er, lr, hr⟩ := row_eq c 12 (by decide)
  have er : f__law_row [.int c, .int 12] = _ := er
  have t1 : cutD (rs.map D.int) none (some 6) = (rs.take 6).map D.int := by rw [show (some (6 : Int)) = some ((6 : Nat) : Int) from rfl, cut_to, List.map_take]
  have t2 : cutD (rs.map D.int) (some 6) none = (rs.drop 6).map D.int := by rw [show (some (6 : Int)) = some ((6 : Nat) : Int) from rfl, cut_from, List.map_drop]
  have s1 := spread_eq f (rs.take 6) lf (by rw [List.length_take]; omega)
  have s2 := spread_eq e (rs.drop 6) le (by rw [List.length_drop]; omega)
  have ua := wides_up (rs.take 6) (nums f).length
  have ub := wides_up (rs.drop 6) (nums e).length
  have hj := join_of ua ub
  have hrow := place_row ua ub
  generalize place (nums f).length (nums e).length (wides (rs.take 6)) (wides (rs.drop 6)) = p at *
  have hadd := oAdd_lst (xs := (Fv f (wides (rs.take 6))).map msg) (ys := (Fv e (wides (rs.drop 6))).map msg) (by unfold Fv; simp; omega)
  rw [← List.map_append] at hadd
  have hap : Fv f (wides (rs.take 6)) ++ Fv e (wides (rs.drop 6)) = Tv f e (wides (rs.take 6)) (wides (rs.drop 6)) := rfl
  rw [hap] at hadd
  have hd := ldense_eq (Tv f e (wides (rs.take 6)) (wides (rs.drop 6))) (by unfold Tv Fv; simp; omega)
  rw [hj] at hd
  clear hap hj ua ub hr
  generalize Tv f e (wides (rs.take 6)) (wides (rs.drop 6)) = tt at *
  refine ⟨.val (.lst (rs.map D.int)), .val (jD f e p), ?_⟩
  refine seq_step (by walk_at "ev"; rfl) ?_
  clear er
  refine seq_step (ρ1 := [.val (.scr (ns.map D.int)), .val (.tup (ws.map D.str)), .val (.lst (f.map msg)), .val (.lst (e.map msg)), .val (.lst ((rowsN (nums e).length (nums f).length).map rowD)), .val (.lst [.lst (f.map msg), .lst (e.map msg)]), .val (.lst ((rowsN (nums e).length (nums f).length).map rowD)), .own ((rowsN (nums e).length (nums f).length).map (jD f e)), z8, z9, .val (.int c), .val (.lst (rs.map D.int)), .val (jD f e p), .none]) ?_ ?_
  · unfold jD
    walk_at "ev"
  · clear s1 s2 t1 t2 hadd hd
    have hnd := rows_nodup (nums e).length (nums f).length
    have hp : p ∈ rowsN (nums e).length (nums f).length := mem_rows.mpr hrow
    have hone := count_one hnd hp (fun q => decide (join f e q = join f e p)) (fun q hq => by
      rw [decide_eq_true_iff]
      exact ⟨fun z => join_inj (mem_rows.mp hq) hrow z, fun z => by rw [z]⟩)
    have hlc : ∀ q, oEq (jD f e q) (jD f e p) = some (.bl (decide (join f e q = join f e p))) := fun q => ms_eq (okM_join of oe) (okM_join of oe)
    have h1 : ((1 : Nat) : Int) = 1 := rfl
    generalize hR : rowsN (nums e).length (nums f).length = R at *
    clear hR hrow hb hnd hp
    walk_at "ev"
    rw [lcD_filter (jD f e) (fun q => decide (join f e q = join f e p)) (fun _ => D.int 1) R (fun q _ => ⟨_, rfl, by walk_at "ev", fun _ => by walk_at "ev"⟩)]
    have hl2 : ((R.filter fun q => decide (join f e q = join f e p)).map fun _ => D.int 1).length = 1 := by rw [List.length_map]; exact hone
    walk_at "ev"
theorem law_true (ns : List Int) (hl : ns.length ≤ 63) : f_law [.scr (ns.map D.int)] = .ok (.bl true) := by
  have c0 : f__law_cell [.scr (ns.map D.int), .int 0] = _ := cell_eq ns 0
  have c1 : f__law_cell [.scr (ns.map D.int), .int 1] = _ := cell_eq ns 1
  have c2 : f__law_cell [.scr (ns.map D.int), .int 2] = _ := cell_eq ns 2
  have c3 : f__law_cell [.scr (ns.map D.int), .int 3] = _ := cell_eq ns 3
  have c4 : f__law_cell [.scr (ns.map D.int), .int 4] = _ := cell_eq ns 4
  have c5 : f__law_cell [.scr (ns.map D.int), .int 5] = _ := cell_eq ns 5
  generalize ns.getD 0 0 = v0 at *
  generalize ns.getD 1 0 = v1 at *
  generalize ns.getD 2 0 = v2 at *
  generalize ns.getD 3 0 = v3 at *
  generalize ns.getD 4 0 = v4 at *
  generalize ns.getD 5 0 = v5 at *
  obtain ⟨rs, er, lr, hr⟩ := row_eq v0 4 (by decide)
  obtain ⟨k1, e1, b1⟩ := mod_nat (a := v1) (n := 3) (by decide)
  obtain ⟨ws, ew, lw, nw, hw⟩ := words_eq rs (1 + k1) (by omega) (by omega)
  have hw0 : 0 < ws.length := by omega
  have ew : f__law_words [.lst (rs.map D.int), .int (1 + (k1 : Int))] = .ok (.tup (ws.map D.str)) := by rw [show (1 : Int) + k1 = ((1 + k1 : Nat) : Int) by omega]; exact ew
  have er : f__law_row [.int v0, .int 4] = _ := er
  obtain ⟨f, ef, lf, nf, wf⟩ := small_eq hw0 v2
  obtain ⟨e0, ee, le0, ne0, we0⟩ := small_eq hw0 v3
  have hcut6 : cutD (ns.map D.int) (some 6) (some 14) = ((ns.drop 6).take 8).map D.int := by
    unfold cutD
    rw [show (some (6 : Int)) = some ((6 : Nat) : Int) from rfl, show (some (14 : Int)) = some ((14 : Nat) : Int) from rfl, HT.sIx_nat, HT.sIx_nat, List.length_map]
    by_cases h : 6 ≤ ns.length
    · rw [Nat.min_eq_left h]
      by_cases h2 : 14 ≤ ns.length
      · rw [Nat.min_eq_left h2, List.map_take, List.map_drop]
      · rw [Nat.min_eq_right (by omega), List.map_take, List.map_drop, List.take_of_length_le (by simp), List.take_of_length_le (by simp; omega)]
    · rw [Nat.min_eq_right (by omega : ns.length ≤ 6), List.map_take, List.map_drop, List.drop_eq_nil_of_le (by simp), List.drop_eq_nil_of_le (by simp; omega), List.take_nil, List.take_nil]
  unfold f_law b_law
  refine fn_rt ?_
  refine seq_step (by walk_at "ev"; rfl) ?_
  refine seq_step (by walk_at "ev"; rfl) ?_
  refine seq_step (by walk_at "ev"; rfl) ?_
  clear c0 c1 c2 c3 er ew ef ee
  have d1 := distinct_eq f (by omega)
  have hl1 : ((((isort (nums f)).map D.int).length : Nat) : Int) = (nums f).length := by rw [List.length_map, sort_len]
  refine seq_some (fun ρ => ∃ e : Ms, ρ = [.val (.scr (ns.map D.int)), .val (.tup (ws.map D.str)), .val (.lst (f.map msg)), .val (.lst (e.map msg)), .none, .none, .none, .none, .none, .none, .none, .none, .none, .none] ∧ e.length ≤ 6 ∧ (nums e).length ≤ 5 ∧ (∀ m ∈ e, m.1 ∈ ws) ∧ ((nums f).length ≤ 3 ∨ (nums e).length ≤ 2)) ?_ ?_
  · by_cases h3 : (3 : Int) < (nums f).length
    · have hc : cutD (e0.map msg) none (some 2) = (e0.take 2).map msg := by rw [show (some (2 : Int)) = some ((2 : Nat) : Int) from rfl, cut_to, List.map_take]
      walk_at "ev"
      refine ⟨_, rfl, e0.take 2, rfl, by simp; omega, ?_, fun m h => we0 m (List.mem_of_mem_take h), .inr ?_⟩
      · have := nums_len (e0.take 2); rw [List.length_take] at this; omega
      · have := nums_len (e0.take 2); rw [List.length_take] at this; omega
    · walk_at "ev"
      exact ⟨_, rfl, e0, rfl, le0, ne0, we0, .inl (by omega)⟩
  · rintro ρ1 ⟨e, rfl, le, ne, we, hsz⟩
    have of : okM f := fun m h => (hw _ (wf m h)).ok
    have oe : okM e := fun m h => (hw _ (we m h)).ok
    have hb : (2 * (nums e).length + 1) ^ (nums f).length ≤ 100000 := by
      rcases hsz with h | h
      · refine Nat.le_trans (Nat.pow_le_pow_left (show 2 * (nums e).length + 1 ≤ 11 by omega) _) ?_
        exact Nat.le_trans (Nat.pow_le_pow_right (by decide) h) (by decide)
      · refine Nat.le_trans (Nat.pow_le_pow_left (show 2 * (nums e).length + 1 ≤ 5 by omega) _) ?_
        exact Nat.le_trans (Nat.pow_le_pow_right (by decide) nf) (by decide)
    clear d1 hl1
    have p1 := lplacings_eq f e (by omega) (by omega) hb
    have p2 : f_placings [.lst (f.map msg), .lst (e.map msg)] = _ := pplacings_eq true true true true f e (by omega) (by omega) hb
    have p3 : f_placings [.tup (f.map msgL), .lst (e.map msg)] = _ := pplacings_eq false false true true f e (by omega) (by omega) hb
    have n1 := rows_ne (rowsN (nums e).length (nums f).length) (rowsN (nums e).length (nums f).length)
    rw [decide_eq_true rfl] at n1
    refine seq_step (by walk_at "ev"; rfl) ?_
    refine seq_step (by walk_at "ev"; rfl) ?_
    refine seq_step (by walk_at "ev"; rfl) ?_
    refine seq_step (by
      walk_at "ev"
      rw [lcD_map msg msgL f (fun m hm => ⟨_, rfl, rfl, by unfold msg msgL; walk_at "ev"⟩)]
      walk_at "ev"
      rfl) ?_
    clear p1 p2 p3 n1
    refine seq_step (by walk_at "ev"; rfl) ?_
    refine seq_some (fun ρ => ∃ z8 z9, ρ = [.val (.scr (ns.map D.int)), .val (.tup (ws.map D.str)), .val (.lst (f.map msg)), .val (.lst (e.map msg)), .val (.lst ((rowsN (nums e).length (nums f).length).map rowD)), .val (.lst [.lst (f.map msg), .lst (e.map msg)]), .val (.lst ((rowsN (nums e).length (nums f).length).map rowD)), .own ((rowsN (nums e).length (nums f).length).map (jD f e)), z8, z9, .none, .none, .none, .none]) ?_ ?_
    · walk_at "ev"
      refine forD_some rowD (rowsN (nums e).length (nums f).length) (fun pre ρ => ∃ z8 z9, ρ = [.val (.scr (ns.map D.int)), .val (.tup (ws.map D.str)), .val (.lst (f.map msg)), .val (.lst (e.map msg)), .val (.lst ((rowsN (nums e).length (nums f).length).map rowD)), .val (.lst [.lst (f.map msg), .lst (e.map msg)]), .val (.lst ((rowsN (nums e).length (nums f).length).map rowD)), .own (pre.map (jD f e)), z8, z9, .none, .none, .none, .none]) ⟨_, _, rfl⟩ ?_ (fun ρ h => h)
      rintro pre p post ρ he ⟨z8, z9, rfl⟩
      exact ⟨_, rfl, _, .inl (loop1 of oe (by omega) (by omega) nf hb he z8 z9), _, _, rfl⟩
    · rintro ρ1 ⟨z8, z9, rfl⟩
      have hcs : oAdd (.lst [.int v4, .int v5]) (.lst (((ns.drop 6).take 8).map D.int)) = some (.lst ((v4 :: v5 :: (ns.drop 6).take 8).map D.int)) := by
        rw [oAdd_lst (by simp; omega)]; rfl
      refine seq_some (fun ρ => ∃ z8 z9 z10 z11 z12, ρ = [.val (.scr (ns.map D.int)), .val (.tup (ws.map D.str)), .val (.lst (f.map msg)), .val (.lst (e.map msg)), .val (.lst ((rowsN (nums e).length (nums f).length).map rowD)), .val (.lst [.lst (f.map msg), .lst (e.map msg)]), .val (.lst ((rowsN (nums e).length (nums f).length).map rowD)), .own ((rowsN (nums e).length (nums f).length).map (jD f e)), z8, z9, z10, z11, z12, .none]) ?_ ?_
      · generalize hcells : v4 :: v5 :: (ns.drop 6).take 8 = cs at *
        clear hcells
        walk_at "ev"
        refine forD_some D.int cs (fun _ ρ => ∃ z8 z9 z10 z11 z12, ρ = [.val (.scr (ns.map D.int)), .val (.tup (ws.map D.str)), .val (.lst (f.map msg)), .val (.lst (e.map msg)), .val (.lst ((rowsN (nums e).length (nums f).length).map rowD)), .val (.lst [.lst (f.map msg), .lst (e.map msg)]), .val (.lst ((rowsN (nums e).length (nums f).length).map rowD)), .own ((rowsN (nums e).length (nums f).length).map (jD f e)), z8, z9, z10, z11, z12, .none]) ⟨_, _, _, _, _, rfl⟩ ?_ (fun ρ h => h)
        rintro pre c post ρ he ⟨z8, z9, z10, z11, z12, rfl⟩
        obtain ⟨r, w, h⟩ := loop2 (ns := ns) (ws := ws) of oe (by omega) (by omega) nf ne hb c z8 z9 z11 z12
        exact ⟨_, rfl, _, .inl h, _, _, _, _, _, rfl⟩
      · rintro ρ1 ⟨z8, z9, z10, z11, z12, rfl⟩
        walk_at "ev"
def topS (i : Nat) : Stmt := PySem.Challenge.pw_leastlearnt_k03_placings.main.body.getD i (.Pass ⟨0, 0, 0, 0⟩)
abbrev s__law_cell : Stmt := topS 8
theorem sc__law_cell : FnScope ["_law_script", "_law_k"] ["_law_script", "_law_k"] (defScope s__law_cell) := ⟨rfl, rfl, rfl, by decide +kernel, rfl, by decide +kernel, by decide +kernel⟩
abbrev s__law_dense : Stmt := topS 13
theorem sc__law_dense : FnScope ["_law_messages", "_law_numbers", "_law_message", "_law_n"] ["_law_messages"] (defScope s__law_dense) := ⟨rfl, rfl, rfl, by decide +kernel, rfl, by decide +kernel, by decide +kernel⟩
abbrev s__law_distinct : Stmt := topS 17
theorem sc__law_distinct : FnScope ["_law_messages", "_law_numbers", "_law_message"] ["_law_messages"] (defScope s__law_distinct) := ⟨rfl, rfl, rfl, by decide +kernel, rfl, by decide +kernel, by decide +kernel⟩
abbrev s__law_joined : Stmt := topS 19
theorem sc__law_joined : FnScope ["_law_first", "_law_ending", "_law_placing", "_law_inner", "_law_outer", "_law_messages", "_law_message", "_law_k", "_law_value", "_law_n"] ["_law_first", "_law_ending", "_law_placing"] (defScope s__law_joined) := ⟨rfl, rfl, rfl, by decide +kernel, rfl, by decide +kernel, by decide +kernel⟩
abbrev s__law_placings : Stmt := topS 18
theorem sc__law_placings : FnScope ["_law_first", "_law_ending", "_law_size", "_law_rows", "_law_k", "_law_longer", "_law_row_here", "_law_position_here"] ["_law_first", "_law_ending"] (defScope s__law_placings) := ⟨rfl, rfl, rfl, by decide +kernel, rfl, by decide +kernel, by decide +kernel⟩
abbrev s__law_position : Stmt := topS 14
theorem sc__law_position : FnScope ["_law_number", "_law_others", "_law_less", "_law_value"] ["_law_number", "_law_others"] (defScope s__law_position) := ⟨rfl, rfl, rfl, by decide +kernel, rfl, by decide +kernel, by decide +kernel⟩
abbrev s__law_positions : Stmt := topS 21
theorem sc__law_positions : FnScope ["_law_messages", "_law_size", "_law_first", "_law_others", "_law_n"] ["_law_messages", "_law_size"] (defScope s__law_positions) := ⟨rfl, rfl, rfl, by decide +kernel, rfl, by decide +kernel, by decide +kernel⟩
abbrev s__law_row : Stmt := topS 9
theorem sc__law_row : FnScope ["_law_cell_here", "_law_count", "_law_row_here", "_law_rest", "_law_seed", "_law_k"] ["_law_cell_here", "_law_count"] (defScope s__law_row) := ⟨rfl, rfl, rfl, by decide +kernel, rfl, by decide +kernel, by decide +kernel⟩
abbrev s__law_input : Stmt := topS 12
theorem sc__law_input : FnScope ["_law_names", "_law_cell_here", "_law_size", "_law_messages", "_law_number", "_law_message"] ["_law_names", "_law_cell_here", "_law_size"] (defScope s__law_input) := ⟨rfl, rfl, rfl, by decide +kernel, rfl, by decide +kernel, by decide +kernel⟩
abbrev s__law_small : Stmt := topS 20
theorem sc__law_small : FnScope ["_law_names", "_law_cell_here", "_law_message"] ["_law_names", "_law_cell_here"] (defScope s__law_small) := ⟨rfl, rfl, rfl, by decide +kernel, rfl, by decide +kernel, by decide +kernel⟩
abbrev s__law_spread : Stmt := topS 22
theorem sc__law_spread : FnScope ["_law_messages", "_law_row_here", "_law_numbers", "_law_wide", "_law_last", "_law_k", "_law_message", "_law_n"] ["_law_messages", "_law_row_here"] (defScope s__law_spread) := ⟨rfl, rfl, rfl, by decide +kernel, rfl, by decide +kernel, by decide +kernel⟩
abbrev s__law_word : Stmt := topS 10
theorem sc__law_word : FnScope ["_law_number", "_law_letters", "_law_word_here"] ["_law_number"] (defScope s__law_word) := ⟨rfl, rfl, rfl, by decide +kernel, rfl, by decide +kernel, by decide +kernel⟩
abbrev s__law_words : Stmt := topS 11
theorem sc__law_words : FnScope ["_law_row_here", "_law_count", "_law_words_here", "_law_k", "_law_word_here", "_law_turn"] ["_law_row_here", "_law_count"] (defScope s__law_words) := ⟨rfl, rfl, rfl, by decide +kernel, rfl, by decide +kernel, by decide +kernel⟩
abbrev s_integers_of : Stmt := topS 1
theorem sc_integers_of : FnScope ["messages", "name", "integer"] ["messages"] (defScope s_integers_of) := ⟨rfl, rfl, rfl, by decide +kernel, rfl, by decide +kernel, by decide +kernel⟩
abbrev s_dense : Stmt := topS 2
theorem sc_dense : FnScope ["messages", "ranks", "rank", "integer", "message"] ["messages"] (defScope s_dense) := ⟨rfl, rfl, rfl, by decide +kernel, rfl, by decide +kernel, by decide +kernel⟩
abbrev s_alike : Stmt := topS 3
theorem sc_alike : FnScope ["first", "second"] ["first", "second"] (defScope s_alike) := ⟨rfl, rfl, rfl, by decide +kernel, rfl, by decide +kernel, by decide +kernel⟩
abbrev s_joined : Stmt := topS 6
theorem sc_joined : FnScope ["first", "ending", "placing", "inner", "outer", "wide", "table", "k", "integer", "place", "spread", "messages", "message"] ["first", "ending", "placing"] (defScope s_joined) := ⟨rfl, rfl, rfl, by decide +kernel, rfl, by decide +kernel, by decide +kernel⟩
abbrev s_position_rows : Stmt := topS 4
theorem sc_position_rows : FnScope ["count", "size", "rows", "k", "longer", "row", "least", "position"] ["count", "size"] (defScope s_position_rows) := ⟨rfl, rfl, rfl, by decide +kernel, rfl, by decide +kernel, by decide +kernel⟩
abbrev s_placings : Stmt := topS 5
theorem sc_placings : FnScope ["first", "ending"] ["first", "ending"] (defScope s_placings) := ⟨rfl, rfl, rfl, by decide +kernel, rfl, by decide +kernel, by decide +kernel⟩
abbrev s_law : Stmt := topS 23
theorem sc_law : FnScope ["_law_script", "_law_names", "_law_first", "_law_ending", "_law_due", "_law_given", "_law_told", "_law_results", "_law_placing", "_law_made", "_law_cell_here", "_law_row_here", "_law_whole", "_law_message"] ["_law_script"] (defScope s_law) := ⟨rfl, rfl, rfl, by decide +kernel, rfl, by decide +kernel, by decide +kernel⟩
structure Tx (K : PySem.W.Frag) (mg : Str → Option Value) (c : String → Addr) : Prop where
  b_enumerate : mg "enumerate" = none
  b_int : mg "int" = none
  b_len : mg "len" = none
  b_list : mg "list" = none
  b_range : mg "range" = none
  b_sorted : mg "sorted" = none
  b_tuple : mg "tuple" = none
section
variable {P : Program} {w : World} {K : PySem.W.Frag} {mg : Str → Option Value} {base : Heap} {c : String → Addr}
theorem d__law_cell (T : Tx K mg c) (A : DefAt K mg "_law_cell" s__law_cell ["_law_script", "_law_k"])  : DFn P w K mg base c "_law_cell" 1 2 f__law_cell :=
  fn_at A sc__law_cell rfl rfl fun f cdv A outer s H E Hf hr tk hp => have nd := sc__law_cell.nd; have hu := hu65 hr;
    (dss_cons (ds_if (dt_cmp do_lt (de_var 1) (de_callB dc_len T.b_len (da_cons (de_var 0) da_nil)) (nomark _)) (dss_one (ds_ret (de_ix hu (de_var 0) (de_var 1)))) dss_nil)
    (dss_one (ds_ret de_int)))
theorem d__law_dense (T : Tx K mg c) (A : DefAt K mg "_law_dense" s__law_dense ["_law_messages"])  : DFn P w K mg base c "_law_dense" 1 1 f__law_dense :=
  fn_at A sc__law_dense rfl rfl fun f cdv A outer s H E Hf hr tk hp => have nd := sc__law_dense.nd; have hu := hu65 hr;
    (dss_cons (ds_own nd 1 da_nil)
    (dss_cons (ds_for (vs := [2]) hp rfl (di_any (de_var 0)) (dg_name nd 2)
    (dss_one (ds_if (dt_peek 1 (dt_cmp (do_notIn hu) (de_ix hu (de_var 2) de_int) (de_var 1) (by rfl))) (dss_one (ds_app 1 (de_ix hu (de_var 2) de_int))) dss_nil)))
    (dss_one (ds_ret (de_lc [("_law_message", 2)] rfl nd (blkOk_by (N := ["_law_messages", "_law_numbers", "_law_message", "_law_n"]) (sc := defScope s__law_dense) (by decide +kernel)) (di_any (de_var 0)) (fun _ _ _ _ _ => (dg_name nd 2)) (fun _ _ _ _ _ => dts_nil) (fun _ _ _ _ _ => (de_tup (da_cons (de_ix hu (de_var 2) de_int) (da_cons (de_peek 1 (de_callB dc_len T.b_len (da_cons (de_lc [("_law_n", 3)] rfl nd (blkOk_by (by kernel_rfl)) (di_any (de_var 1)) (fun _ _ _ _ _ => (dg_name nd 3)) (fun _ _ _ _ _ => (dts_one (dt_cmp do_lt (de_var 3) (de_ix hu (de_var 2) de_int) (nomark _)))) (fun _ _ _ _ _ => (de_var 3))) da_nil))) da_nil)))))))))
theorem d__law_distinct (T : Tx K mg c) (A : DefAt K mg "_law_distinct" s__law_distinct ["_law_messages"])  : DFn P w K mg base c "_law_distinct" 1 1 f__law_distinct :=
  fn_at A sc__law_distinct rfl rfl fun f cdv A outer s H E Hf hr tk hp => have nd := sc__law_distinct.nd; have hu := hu65 hr;
    (dss_cons (ds_own nd 1 da_nil)
    (dss_cons (ds_for (vs := [2]) hp rfl (di_any (de_var 0)) (dg_name nd 2)
    (dss_one (ds_if (dt_peek 1 (dt_cmp (do_notIn hu) (de_ix hu (de_var 2) de_int) (de_var 1) (by rfl))) (dss_one (ds_app 1 (de_ix hu (de_var 2) de_int))) dss_nil)))
    (dss_one (ds_freeze 1 (ds_ret (de_callB (dc_sorted rfl) T.b_sorted (da_cons (de_var 1) da_nil)))))))
theorem d__law_joined (T : Tx K mg c) (A : DefAt K mg "_law_joined" s__law_joined ["_law_first", "_law_ending", "_law_placing"]) (G__law_dense : DFn P w K mg base c "_law_dense" 1 1 f__law_dense) (G__law_distinct : DFn P w K mg base c "_law_distinct" 1 1 f__law_distinct) : DFn P w K mg base c "_law_joined" 2 3 f__law_joined :=
  fn_at A sc__law_joined rfl rfl fun f cdv A outer s H E Hf hr tk hp => have nd := sc__law_joined.nd; have hu := hu65 hr;
    (dss_cons (ds_set nd 3 (de_call G__law_distinct (hr.mono (by decide)) tk (da_cons (de_var 0) da_nil)))
    (dss_cons (ds_set nd 4 (de_call G__law_distinct (hr.mono (by decide)) tk (da_cons (de_var 1) da_nil)))
    (dss_cons (ds_own nd 5 da_nil)
    (dss_cons (ds_for (vs := [6]) hp rfl (di_any (de_var 0)) (dg_name nd 6)
    (dss_cons (ds_set nd 7 (de_callB dc_len T.b_len (da_cons (de_lc [("_law_n", 9)] rfl nd (blkOk_by (N := ["_law_first", "_law_ending", "_law_placing", "_law_inner", "_law_outer", "_law_messages", "_law_message", "_law_k", "_law_value", "_law_n"]) (sc := defScope s__law_joined) (by decide +kernel)) (di_any (de_var 3)) (fun _ _ _ _ _ => (dg_name nd 9)) (fun _ _ _ _ _ => (dts_one (dt_cmp do_lt (de_var 9) (de_ix hu (de_var 6) de_int) (nomark _)))) (fun _ _ _ _ _ => (de_var 9))) da_nil)))
    (dss_cons (ds_set nd 8 (de_bin do_add (de_bin do_mul de_int (de_bin do_fdiv (de_ix hu (de_var 2) (de_var 7)) de_int)) (de_ix hu (de_lst (da_cons (de_bin do_add (de_var 7) de_int) (da_cons de_int da_nil))) (de_bin do_mod (de_ix hu (de_var 2) (de_var 7)) de_int))))
    (dss_one (ds_app 5 (de_tup (da_cons (de_ix hu (de_var 6) de_int) (da_cons (de_var 8) da_nil))))))))
    (dss_one (ds_freeze 5 (ds_ret (de_call G__law_dense (hr.mono (by decide)) tk (da_cons (de_bin do_add (de_var 5) (de_lc [("_law_message", 6)] rfl nd (blkOk_by (N := ["_law_first", "_law_ending", "_law_placing", "_law_inner", "_law_outer", "_law_messages", "_law_message", "_law_k", "_law_value", "_law_n"]) (sc := defScope s__law_joined) (by decide +kernel)) (di_any (de_var 1)) (fun _ _ _ _ _ => (dg_name nd 6)) (fun _ _ _ _ _ => dts_nil) (fun _ _ _ _ _ => (de_tup (da_cons (de_ix hu (de_var 6) de_int) (da_cons (de_bin do_add de_int (de_bin do_mul de_int (de_callB dc_len T.b_len (da_cons (de_lc [("_law_n", 9)] rfl nd (blkOk_by (by kernel_rfl)) (di_any (de_var 4)) (fun _ _ _ _ _ => (dg_name nd 9)) (fun _ _ _ _ _ => (dts_one (dt_cmp do_lt (de_var 9) (de_ix hu (de_var 6) de_int) (nomark _)))) (fun _ _ _ _ _ => (de_var 9))) da_nil)))) da_nil)))))) da_nil)))))))))
theorem d__law_placings (T : Tx K mg c) (A : DefAt K mg "_law_placings" s__law_placings ["_law_first", "_law_ending"]) (G__law_distinct : DFn P w K mg base c "_law_distinct" 1 1 f__law_distinct) : DFn P w K mg base c "_law_placings" 2 2 f__law_placings :=
  fn_at A sc__law_placings rfl rfl fun f cdv A outer s H E Hf hr tk hp => have nd := sc__law_placings.nd; have hu := hu65 hr;
    (dss_cons (ds_set nd 2 (de_callB dc_len T.b_len (da_cons (de_call G__law_distinct (hr.mono (by decide)) tk (da_cons (de_var 1) da_nil)) da_nil)))
    (dss_cons (ds_set nd 3 (de_lst (da_cons (de_tup da_nil) da_nil)))
    (dss_cons (ds_for (vs := [4]) hp rfl (di_range1 T.b_range (de_callB dc_len T.b_len (da_cons (de_call G__law_distinct (hr.mono (by decide)) tk (da_cons (de_var 0) da_nil)) da_nil))) (dg_name nd 4)
    (dss_cons (ds_own nd 5 da_nil)
    (dss_cons (ds_for (vs := [6]) hp rfl (di_any (de_var 3)) (dg_name nd 6)
    (dss_one (ds_for (vs := [7]) hp rfl (di_range1 T.b_range (de_bin do_add (de_bin do_mul de_int (de_var 2)) de_int)) (dg_name nd 7)
    (dss_one (ds_if (dt_bool (dw_or (dt_cmp (do_eq hu) (de_callB dc_len T.b_len (da_cons (de_var 6) da_nil)) de_int (nomark _)) (dw_or (dt_cmp do_gt (de_var 7) (de_ix hu (de_var 6) (de_un du_neg de_int)) (nomark _)) (dw_or1 (dt_bool (dw_and (dt_cmp (do_eq hu) (de_var 7) (de_ix hu (de_var 6) (de_un du_neg de_int)) (nomark _)) (dw_and1 (dt_cmp (do_eq hu) (de_bin do_mod (de_var 7) de_int) de_int (nomark _))))))))) (dss_one (ds_app 5 (de_bin do_add (de_var 6) (de_tup (da_cons (de_var 7) da_nil))))) dss_nil)))))
    (dss_one (ds_freeze 5 (ds_set nd 3 (de_var 5)))))))
    (dss_one (ds_ret (de_var 3))))))
theorem d__law_position (T : Tx K mg c) (A : DefAt K mg "_law_position" s__law_position ["_law_number", "_law_others"])  : DFn P w K mg base c "_law_position" 1 2 f__law_position :=
  fn_at A sc__law_position rfl rfl fun f cdv A outer s H E Hf hr tk hp => have nd := sc__law_position.nd; have hu := hu65 hr;
    (dss_cons (ds_set nd 2 (de_callB dc_len T.b_len (da_cons (de_lc [("_law_value", 3)] rfl nd (blkOk_by (N := ["_law_number", "_law_others", "_law_less", "_law_value"]) (sc := defScope s__law_position) (by decide +kernel)) (di_any (de_var 1)) (fun _ _ _ _ _ => (dg_name nd 3)) (fun _ _ _ _ _ => (dts_one (dt_cmp do_lt (de_var 3) (de_var 0) (nomark _)))) (fun _ _ _ _ _ => (de_var 3))) da_nil)))
    (dss_one (ds_ret (de_bin do_add (de_bin do_mul de_int (de_var 2)) (de_callB dc_len T.b_len (da_cons (de_lc [("_law_value", 3)] rfl nd (blkOk_by (N := ["_law_number", "_law_others", "_law_less", "_law_value"]) (sc := defScope s__law_position) (by decide +kernel)) (di_any (de_var 1)) (fun _ _ _ _ _ => (dg_name nd 3)) (fun _ _ _ _ _ => (dts_one (dt_cmp (do_eq hu) (de_var 3) (de_var 0) (nomark _)))) (fun _ _ _ _ _ => (de_var 3))) da_nil))))))
theorem d__law_positions (T : Tx K mg c) (A : DefAt K mg "_law_positions" s__law_positions ["_law_messages", "_law_size"]) (G__law_distinct : DFn P w K mg base c "_law_distinct" 1 1 f__law_distinct) (G__law_position : DFn P w K mg base c "_law_position" 1 2 f__law_position) : DFn P w K mg base c "_law_positions" 2 2 f__law_positions :=
  fn_at A sc__law_positions rfl rfl fun f cdv A outer s H E Hf hr tk hp => have nd := sc__law_positions.nd; have hu := hu65 hr;
    (dss_cons (ds_set nd 2 (de_call G__law_distinct (hr.mono (by decide)) tk (da_cons (de_slice (de_var 0) do_none (do_some (de_var 1))) da_nil)))
    (dss_cons (ds_set nd 3 (de_call G__law_distinct (hr.mono (by decide)) tk (da_cons (de_slice (de_var 0) (do_some (de_var 1)) do_none) da_nil)))
    (dss_one (ds_ret (de_callTy dc_tuple T.b_tuple (da_cons (de_lc [("_law_n", 4)] rfl nd (blkOk_by (N := ["_law_messages", "_law_size", "_law_first", "_law_others", "_law_n"]) (sc := defScope s__law_positions) (by decide +kernel)) (di_any (de_var 2)) (fun _ _ _ _ _ => (dg_name nd 4)) (fun _ _ _ _ _ => dts_nil) (fun _ _ _ _ _ => (de_call G__law_position (hr.mono (by decide)) takes0 (da_cons (de_var 4) (da_cons (de_var 3) da_nil))))) da_nil))))))
theorem d__law_row (T : Tx K mg c) (A : DefAt K mg "_law_row" s__law_row ["_law_cell_here", "_law_count"])  : DFn P w K mg base c "_law_row" 1 2 f__law_row :=
  fn_at A sc__law_row rfl rfl fun f cdv A outer s H E Hf hr tk hp => have nd := sc__law_row.nd; have hu := hu65 hr;
    (dss_cons (ds_own nd 2 da_nil)
    (dss_cons (ds_set nd 3 (de_var 0))
    (dss_cons (ds_set nd 4 (de_bin do_add (de_bin do_mod (de_callTy dc_int T.b_int (da_cons (de_var 0) da_nil)) de_int) de_int))
    (dss_cons (ds_for (vs := [5]) hp rfl (di_range1 T.b_range (de_var 1)) (dg_name nd 5)
    (dss_one (ds_if (dt_cmp do_ge (de_var 0) (de_bin do_pow de_int de_int) (nomark _)) (dss_cons (ds_app 2 (de_bin do_mod (de_callTy dc_int T.b_int (da_cons (de_var 3) da_nil)) de_int))
    (dss_one (ds_set nd 3 (de_bin do_fdiv (de_var 3) de_int)))) (dss_cons (ds_set nd 4 (de_bin do_mod (de_callTy dc_int T.b_int (da_cons (de_bin do_add (de_bin do_mul (de_var 4) de_int) (de_var 5)) da_nil)) de_int))
    (dss_one (ds_app 2 (de_bin do_mod (de_bin do_fdiv (de_bin do_mod (de_callTy dc_int T.b_int (da_cons (de_bin do_mul (de_var 4) de_int) da_nil)) de_int) de_int) de_int)))))))
    (dss_one (ds_freeze 2 (ds_ret (de_var 2))))))))
theorem d__law_input (T : Tx K mg c) (A : DefAt K mg "_law_input" s__law_input ["_law_names", "_law_cell_here", "_law_size"]) (G__law_row : DFn P w K mg base c "_law_row" 1 2 f__law_row) : DFn P w K mg base c "_law_input" 2 3 f__law_input :=
  fn_at A sc__law_input rfl rfl fun f cdv A outer s H E Hf hr tk hp => have nd := sc__law_input.nd; have hu := hu65 hr;
    (dss_cons (ds_own nd 3 da_nil)
    (dss_cons (ds_for (vs := [4]) hp rfl (di_any (de_call G__law_row (hr.mono (by decide)) tk (da_cons (de_var 1) (da_cons (de_var 2) da_nil)))) (dg_name nd 4)
    (dss_one (ds_app 3 (de_tup (da_cons (de_ix hu (de_var 0) (de_bin do_mod (de_var 4) (de_callB dc_len T.b_len (da_cons (de_var 0) da_nil)))) (da_cons (de_bin do_sub (de_bin do_mod (de_bin do_fdiv (de_var 4) de_int) de_int) de_int) da_nil))))))
    (dss_cons (ds_freeze 3 (ds_if (dt_cmp (do_eq hu) (de_bin do_mod (de_callTy dc_int T.b_int (da_cons (de_var 1) da_nil)) de_int) de_int (nomark _)) (dss_one (ds_setLc [("_law_message", 5)] 3 rfl nd (sw_true rfl rfl rfl (by decide +kernel)) (blkOk_by (N := ["_law_names", "_law_cell_here", "_law_size", "_law_messages", "_law_number", "_law_message"]) (sc := defScope s__law_input) (by decide +kernel)) (di_any (de_var 3)) (fun _ _ _ _ _ => (dg_name nd 5)) (fun _ _ _ _ _ => dts_nil) (fun _ _ _ _ _ => (de_tup (da_cons (de_ix hu (de_var 5) de_int) (da_cons (de_bin do_add (de_bin do_mul (de_ix hu (de_var 5) de_int) de_int) de_int) da_nil)))))) dss_nil))
    (dss_one (ds_ret (de_var 3))))))
theorem d__law_small (T : Tx K mg c) (A : DefAt K mg "_law_small" s__law_small ["_law_names", "_law_cell_here"]) (G__law_input : DFn P w K mg base c "_law_input" 2 3 f__law_input) : DFn P w K mg base c "_law_small" 3 2 f__law_small :=
  fn_at A sc__law_small rfl rfl fun f cdv A outer s H E Hf hr tk hp => have nd := sc__law_small.nd; have hu := hu65 hr;
    (dss_cons (ds_if (dt_cmp (do_eq hu) (de_bin do_mod (de_bin do_fdiv (de_callTy dc_int T.b_int (da_cons (de_var 1) da_nil)) de_int) de_int) de_int (nomark _)) (dss_one (ds_ret (de_lc [("_law_message", 2)] rfl nd (blkOk_by (N := ["_law_names", "_law_cell_here", "_law_message"]) (sc := defScope s__law_small) (by decide +kernel)) (di_any (de_call G__law_input (hr.mono (by decide)) tk (da_cons (de_var 0) (da_cons (de_var 1) (da_cons (de_bin do_add de_int (de_bin do_mod (de_bin do_fdiv (de_callTy dc_int T.b_int (da_cons (de_var 1) da_nil)) de_int) de_int)) da_nil))))) (fun _ _ _ _ _ => (dg_name nd 2)) (fun _ _ _ _ _ => dts_nil) (fun _ _ _ _ _ => (de_tup (da_cons (de_ix hu (de_var 2) de_int) (da_cons (de_bin do_mod (de_ix hu (de_var 2) de_int) de_int) da_nil))))))) dss_nil)
    (dss_one (ds_ret (de_lc [("_law_message", 2)] rfl nd (blkOk_by (N := ["_law_names", "_law_cell_here", "_law_message"]) (sc := defScope s__law_small) (by decide +kernel)) (di_any (de_call G__law_input (hr.mono (by decide)) tk (da_cons (de_var 0) (da_cons (de_var 1) (da_cons (de_bin do_mod (de_bin do_fdiv (de_callTy dc_int T.b_int (da_cons (de_var 1) da_nil)) de_int) de_int) da_nil))))) (fun _ _ _ _ _ => (dg_name nd 2)) (fun _ _ _ _ _ => dts_nil) (fun _ _ _ _ _ => (de_tup (da_cons (de_ix hu (de_var 2) de_int) (da_cons (de_bin do_mod (de_ix hu (de_var 2) de_int) de_int) da_nil))))))))
theorem d__law_spread (T : Tx K mg c) (A : DefAt K mg "_law_spread" s__law_spread ["_law_messages", "_law_row_here"]) (G__law_distinct : DFn P w K mg base c "_law_distinct" 1 1 f__law_distinct) : DFn P w K mg base c "_law_spread" 2 2 f__law_spread :=
  fn_at A sc__law_spread rfl rfl fun f cdv A outer s H E Hf hr tk hp => have nd := sc__law_spread.nd; have hu := hu65 hr;
    (dss_cons (ds_set nd 2 (de_call G__law_distinct (hr.mono (by decide)) tk (da_cons (de_var 0) da_nil)))
    (dss_cons (ds_own nd 3 da_nil)
    (dss_cons (ds_set nd 4 (de_un du_neg de_int))
    (dss_cons (ds_for (vs := [5]) hp rfl (di_range1 T.b_range (de_callB dc_len T.b_len (da_cons (de_var 2) da_nil))) (dg_name nd 5)
    (dss_cons (ds_set nd 4 (de_bin do_add (de_bin do_add (de_var 4) de_int) (de_bin do_mod (de_ix hu (de_var 1) (de_var 5)) de_int)))
    (dss_one (ds_app 3 (de_var 4)))))
    (dss_one (ds_ret (de_lc [("_law_message", 6)] rfl nd (blkOk_by (N := ["_law_messages", "_law_row_here", "_law_numbers", "_law_wide", "_law_last", "_law_k", "_law_message", "_law_n"]) (sc := defScope s__law_spread) (by decide +kernel)) (di_any (de_var 0)) (fun _ _ _ _ _ => (dg_name nd 6)) (fun _ _ _ _ _ => dts_nil) (fun _ _ _ _ _ => (de_tup (da_cons (de_ix hu (de_var 6) de_int) (da_cons (de_ixOwn 3 (de_callB dc_len T.b_len (da_cons (de_lc [("_law_n", 7)] rfl nd (blkOk_by (by kernel_rfl)) (di_any (de_var 2)) (fun _ _ _ _ _ => (dg_name nd 7)) (fun _ _ _ _ _ => (dts_one (dt_cmp do_lt (de_var 7) (de_ix hu (de_var 6) de_int) (nomark _)))) (fun _ _ _ _ _ => (de_var 7))) da_nil))) da_nil)))))))))))
theorem d__law_word (T : Tx K mg c) (A : DefAt K mg "_law_word" s__law_word ["_law_number"])  : DFn P w K mg base c "_law_word" 1 1 f__law_word :=
  fn_at A sc__law_word rfl rfl fun f cdv A outer s H E Hf hr tk hp => have nd := sc__law_word.nd; have hu := hu65 hr;
    (dss_cons (ds_set nd 1 de_str)
    (dss_cons (ds_set nd 2 (de_ix hu (de_var 1) (de_bin do_mod (de_var 0) de_int)))
    (dss_cons (ds_if (dt_cmp do_gt (de_bin do_mod (de_bin do_fdiv (de_var 0) de_int) de_int) de_int (nomark _)) (dss_one (ds_set nd 2 (de_bin do_add (de_var 2) (de_ix hu (de_var 1) (de_bin do_mod (de_bin do_fdiv (de_var 0) de_int) de_int))))) dss_nil)
    (dss_cons (ds_if (dt_cmp (do_eq hu) (de_bin do_mod (de_bin do_fdiv (de_var 0) de_int) de_int) de_int (nomark _)) (dss_one (ds_set nd 2 (de_bin do_add (de_bin do_add (de_bin do_add (de_var 2) (de_ix hu (de_var 1) (de_bin do_mod (de_bin do_fdiv (de_var 0) de_int) de_int))) (de_ix hu (de_var 1) (de_bin do_mod (de_bin do_fdiv (de_var 0) de_int) de_int))) (de_ix hu (de_var 1) (de_bin do_mod (de_bin do_fdiv (de_var 0) de_int) de_int))))) dss_nil)
    (dss_one (ds_ret (de_var 2)))))))
theorem d__law_words (T : Tx K mg c) (A : DefAt K mg "_law_words" s__law_words ["_law_row_here", "_law_count"]) (G__law_word : DFn P w K mg base c "_law_word" 1 1 f__law_word) : DFn P w K mg base c "_law_words" 2 2 f__law_words :=
  fn_at A sc__law_words rfl rfl fun f cdv A outer s H E Hf hr tk hp => have nd := sc__law_words.nd; have hu := hu65 hr;
    (dss_cons (ds_own nd 2 da_nil)
    (dss_cons (ds_for (vs := [3]) hp rfl (di_range1 T.b_range (de_var 1)) (dg_name nd 3)
    (dss_cons (ds_set nd 4 (de_call G__law_word (hr.mono (by decide)) tk (da_cons (de_ix hu (de_var 0) (de_var 3)) da_nil)))
    (dss_cons (ds_for (vs := [5]) hp rfl (di_range1 T.b_range de_int) (dg_name nd 5)
    (dss_one (ds_if (dt_peek 2 (dt_cmp (do_in hu) (de_var 4) (de_var 2) (by rfl))) (dss_one (ds_set nd 4 (de_bin do_add (de_var 4) de_str))) dss_nil)))
    (dss_one (ds_app 2 (de_var 4))))))
    (dss_one (ds_freeze 2 (ds_ret (de_callTy dc_tuple T.b_tuple (da_cons (de_var 2) da_nil)))))))
theorem d_integers_of (T : Tx K mg c) (A : DefAt K mg "integers_of" s_integers_of ["messages"])  : DFn P w K mg base c "integers_of" 1 1 f_integers_of :=
  fn_at A sc_integers_of rfl rfl fun f cdv A outer s H E Hf hr tk hp => have nd := sc_integers_of.nd; have hu := hu65 hr;
    (dss_one (ds_ret (de_callB (dc_sorted rfl) T.b_sorted (da_cons (de_dc [("name", 1), ("integer", 2)] rfl nd (blkOk_by (N := ["messages", "name", "integer"]) (sc := defScope s_integers_of) (by decide +kernel)) (di_any (de_var 0)) (fun _ _ _ _ _ => (dg_tup rfl (dgs_cons (dg_name nd 1) (dgs_cons (dg_name nd 2) dgs_nil)))) (fun _ _ _ _ _ => dts_nil) (fun _ _ _ _ _ => (de_var 2)) (fun _ _ _ _ _ => de_bl)) da_nil))))
theorem d_dense (T : Tx K mg c) (A : DefAt K mg "dense" s_dense ["messages"]) (G_integers_of : DFn P w K mg base c "integers_of" 1 1 f_integers_of) : DFn P w K mg base c "dense" 2 1 f_dense :=
  fn_at A sc_dense rfl rfl fun f cdv A outer s H E Hf hr tk hp => have nd := sc_dense.nd; have hu := hu65 hr;
    (dss_cons (ds_set nd 1 (de_dc [("rank", 2), ("integer", 3)] rfl nd (blkOk_by (N := ["messages", "ranks", "rank", "integer", "message"]) (sc := defScope s_dense) (by decide +kernel)) (di_enum T.b_enumerate (de_call G_integers_of (hr.mono (by decide)) tk (da_cons (de_var 0) da_nil))) (fun _ _ _ _ _ => (dg_tup rfl (dgs_cons (dg_name nd 2) (dgs_cons (dg_name nd 3) dgs_nil)))) (fun _ _ _ _ _ => dts_nil) (fun _ _ _ _ _ => (de_var 3)) (fun _ _ _ _ _ => (de_var 2))))
    (dss_one (ds_ret (de_lc [("message", 4)] rfl nd (blkOk_by (N := ["messages", "ranks", "rank", "integer", "message"]) (sc := defScope s_dense) (by decide +kernel)) (di_any (de_var 0)) (fun _ _ _ _ _ => (dg_name nd 4)) (fun _ _ _ _ _ => dts_nil) (fun _ _ _ _ _ => (de_tup (da_cons (de_ix hu (de_var 4) de_int) (da_cons (de_ix hu (de_var 1) (de_ix hu (de_var 4) de_int)) da_nil))))))))
theorem d_alike (T : Tx K mg c) (A : DefAt K mg "alike" s_alike ["first", "second"]) (G_dense : DFn P w K mg base c "dense" 2 1 f_dense) : DFn P w K mg base c "alike" 3 2 f_alike :=
  fn_at A sc_alike rfl rfl fun f cdv A outer s H E Hf hr tk hp => have nd := sc_alike.nd; have hu := hu65 hr;
    (dss_one (ds_ret (de_cmp (do_eq hu) (de_call G_dense (hr.mono (by decide)) tk (da_cons (de_var 0) da_nil)) (de_call G_dense (hr.mono (by decide)) tk (da_cons (de_var 1) da_nil)) (nomark _))))
theorem d_joined (T : Tx K mg c) (A : DefAt K mg "joined" s_joined ["first", "ending", "placing"]) (G_dense : DFn P w K mg base c "dense" 2 1 f_dense) (G_integers_of : DFn P w K mg base c "integers_of" 1 1 f_integers_of) : DFn P w K mg base c "joined" 3 3 f_joined :=
  fn_at A sc_joined rfl rfl fun f cdv A outer s H E Hf hr tk hp => have nd := sc_joined.nd; have hu := hu65 hr;
    (dss_cons (ds_set nd 3 (de_call G_integers_of (hr.mono (by decide)) tk (da_cons (de_var 0) da_nil)))
    (dss_cons (ds_set nd 4 (de_call G_integers_of (hr.mono (by decide)) tk (da_cons (de_var 1) da_nil)))
    (dss_cons (ds_set nd 5 (de_bin do_add (de_callB dc_len T.b_len (da_cons (de_var 3) da_nil)) de_int))
    (dss_cons (ds_ownD nd 6)
    (dss_cons (ds_for (vs := [7, 8]) hp rfl (di_enum T.b_enumerate (de_var 3)) (dg_tup rfl (dgs_cons (dg_name nd 7) (dgs_cons (dg_name nd 8) dgs_nil)))
    (dss_cons (ds_set nd 9 (de_ix hu (de_var 2) (de_var 7)))
    (dss_one (ds_put 6 hu (de_var 8) (de_bin do_add (de_bin do_mul (de_var 5) (de_bin do_fdiv (de_bin do_add (de_var 9) de_int) de_int)) (de_bin do_mul (de_bin do_sub de_int (de_bin do_mod (de_var 9) de_int)) (de_bin do_add (de_var 7) de_int)))))))
    (dss_cons (ds_set nd 10 (de_dc [("k", 7), ("integer", 8)] rfl nd (blkOk_by (N := ["first", "ending", "placing", "inner", "outer", "wide", "table", "k", "integer", "place", "spread", "messages", "message"]) (sc := defScope s_joined) (by decide +kernel)) (di_enum T.b_enumerate (de_var 4)) (fun _ _ _ _ _ => (dg_tup rfl (dgs_cons (dg_name nd 7) (dgs_cons (dg_name nd 8) dgs_nil)))) (fun _ _ _ _ _ => dts_nil) (fun _ _ _ _ _ => (de_var 8)) (fun _ _ _ _ _ => (de_bin do_mul (de_var 5) (de_bin do_add (de_var 7) de_int)))))
    (dss_cons (ds_freeze 6 (ds_setLc [("message", 12)] 11 rfl nd (sw_true rfl rfl rfl (by decide +kernel)) (blkOk_by (N := ["first", "ending", "placing", "inner", "outer", "wide", "table", "k", "integer", "place", "spread", "messages", "message"]) (sc := defScope s_joined) (by decide +kernel)) (di_any (de_var 0)) (fun _ _ _ _ _ => (dg_name nd 12)) (fun _ _ _ _ _ => dts_nil) (fun _ _ _ _ _ => (de_tup (da_cons (de_ix hu (de_var 12) de_int) (da_cons (de_ix hu (de_var 6) (de_ix hu (de_var 12) de_int)) da_nil))))))
    (dss_one (ds_ret (de_call G_dense (hr.mono (by decide)) tk (da_cons (de_bin do_add (de_var 11) (de_lc [("message", 12)] rfl nd (blkOk_by (N := ["first", "ending", "placing", "inner", "outer", "wide", "table", "k", "integer", "place", "spread", "messages", "message"]) (sc := defScope s_joined) (by decide +kernel)) (di_any (de_var 1)) (fun _ _ _ _ _ => (dg_name nd 12)) (fun _ _ _ _ _ => dts_nil) (fun _ _ _ _ _ => (de_tup (da_cons (de_ix hu (de_var 12) de_int) (da_cons (de_ix hu (de_var 10) (de_ix hu (de_var 12) de_int)) da_nil)))))) da_nil)))))))))))
theorem d_position_rows (T : Tx K mg c) (A : DefAt K mg "position_rows" s_position_rows ["count", "size"])  : DFn P w K mg base c "position_rows" 1 2 f_position_rows :=
  fn_at A sc_position_rows rfl rfl fun f cdv A outer s H E Hf hr tk hp => have nd := sc_position_rows.nd; have hu := hu65 hr;
    (dss_cons (ds_set nd 2 (de_lst (da_cons (de_tup da_nil) da_nil)))
    (dss_cons (ds_for (vs := [3]) hp rfl (di_range1 T.b_range (de_var 0)) (dg_name nd 3)
    (dss_cons (ds_set nd 4 (de_lst da_nil))
    (dss_cons (ds_for (vs := [5]) hp rfl (di_any (de_var 2)) (dg_name nd 5)
    (dss_cons (ds_set nd 6 de_int)
    (dss_cons (ds_if (dt_truth (de_var 5)) (dss_one (ds_set nd 6 (de_bin do_add (de_ix hu (de_var 5) (de_un du_neg de_int)) (de_bin do_mod (de_ix hu (de_var 5) (de_un du_neg de_int)) de_int)))) dss_nil)
    (dss_one (ds_set nd 4 (de_bin do_add (de_var 4) (de_lc [("position", 7)] rfl nd (blkOk_by (N := ["count", "size", "rows", "k", "longer", "row", "least", "position"]) (sc := defScope s_position_rows) (by decide +kernel)) (di_range2 T.b_range (de_var 6) (de_bin do_add (de_bin do_mul de_int (de_var 1)) de_int)) (fun _ _ _ _ _ => (dg_name nd 7)) (fun _ _ _ _ _ => dts_nil) (fun _ _ _ _ _ => (de_bin do_add (de_var 5) (de_tup (da_cons (de_var 7) da_nil)))))))))))
    (dss_one (ds_set nd 2 (de_var 4))))))
    (dss_one (ds_ret (de_var 2)))))
theorem d_placings (T : Tx K mg c) (A : DefAt K mg "placings" s_placings ["first", "ending"]) (G_integers_of : DFn P w K mg base c "integers_of" 1 1 f_integers_of) (G_position_rows : DFn P w K mg base c "position_rows" 1 2 f_position_rows) : DFn P w K mg base c "placings" 2 2 f_placings :=
  fn_at A sc_placings rfl rfl fun f cdv A outer s H E Hf hr tk hp => have nd := sc_placings.nd; have hu := hu65 hr;
    (dss_one (ds_ret (de_call G_position_rows (hr.mono (by decide)) tk (da_cons (de_callB dc_len T.b_len (da_cons (de_call G_integers_of (hr.mono (by decide)) tk (da_cons (de_var 0) da_nil)) da_nil)) (da_cons (de_callB dc_len T.b_len (da_cons (de_call G_integers_of (hr.mono (by decide)) tk (da_cons (de_var 1) da_nil)) da_nil)) da_nil)))))
theorem law_fn (T : Tx K mg c) {f : Addr} {fd : FuncData} (F : Fun K "law" "law" s_law f fd) (_ : mg "law" = some (.ref f)) (_ : Binds K fd ["_law_script"] []) (G__law_cell : DFn P w K mg base c "_law_cell" 1 2 f__law_cell) (G__law_dense : DFn P w K mg base c "_law_dense" 1 1 f__law_dense) (G__law_distinct : DFn P w K mg base c "_law_distinct" 1 1 f__law_distinct) (G__law_joined : DFn P w K mg base c "_law_joined" 2 3 f__law_joined) (G__law_placings : DFn P w K mg base c "_law_placings" 2 2 f__law_placings) (G__law_positions : DFn P w K mg base c "_law_positions" 2 2 f__law_positions) (G__law_row : DFn P w K mg base c "_law_row" 1 2 f__law_row) (G__law_small : DFn P w K mg base c "_law_small" 3 2 f__law_small) (G__law_spread : DFn P w K mg base c "_law_spread" 2 2 f__law_spread) (G__law_words : DFn P w K mg base c "_law_words" 2 2 f__law_words) (G_alike : DFn P w K mg base c "alike" 3 2 f_alike) (G_joined : DFn P w K mg base c "joined" 3 3 f_joined) (G_placings : DFn P w K mg base c "placings" 2 2 f_placings) : FnOk P w K mg base (L2.CX P w) 4 f fd ["_law_script"] (spD ⟨K, c⟩ 1 f_law) :=
  fn_keep F sc_law rfl rfl fun cdv A outer s H E Hf hr tk hp => have nd := sc_law.nd; have hu := hu65 hr;
    (dss_cons (ds_set nd 1 (de_call G__law_words (hr.mono (by decide)) tk (da_cons (de_call G__law_row (hr.mono (by decide)) tk (da_cons (de_call G__law_cell (hr.mono (by decide)) tk (da_cons (de_var 0) (da_cons de_int da_nil))) (da_cons de_int da_nil))) (da_cons (de_bin do_add de_int (de_bin do_mod (de_call G__law_cell (hr.mono (by decide)) tk (da_cons (de_var 0) (da_cons de_int da_nil))) de_int)) da_nil))))
    (dss_cons (ds_set nd 2 (de_call G__law_small (hr.mono (by decide)) tk (da_cons (de_var 1) (da_cons (de_call G__law_cell (hr.mono (by decide)) tk (da_cons (de_var 0) (da_cons de_int da_nil))) da_nil))))
    (dss_cons (ds_set nd 3 (de_call G__law_small (hr.mono (by decide)) tk (da_cons (de_var 1) (da_cons (de_call G__law_cell (hr.mono (by decide)) tk (da_cons (de_var 0) (da_cons de_int da_nil))) da_nil))))
    (dss_cons (ds_if (dt_cmp do_gt (de_callB dc_len T.b_len (da_cons (de_call G__law_distinct (hr.mono (by decide)) tk (da_cons (de_var 2) da_nil)) da_nil)) de_int (nomark _)) (dss_one (ds_set nd 3 (de_slice (de_var 3) do_none (do_some de_int)))) dss_nil)
    (dss_cons (ds_set nd 4 (de_call G__law_placings (hr.mono (by decide)) tk (da_cons (de_var 2) (da_cons (de_var 3) da_nil))))
    (dss_cons (ds_set nd 5 (de_lst (da_cons (de_callTy dc_list T.b_list (da_cons (de_var 2) da_nil)) (da_cons (de_callTy dc_list T.b_list (da_cons (de_var 3) da_nil)) da_nil))))
    (dss_cons (ds_set nd 6 (de_call G_placings (hr.mono (by decide)) tk (da_cons (de_ix hu (de_var 5) de_int) (da_cons (de_ix hu (de_var 5) de_int) da_nil))))
    (dss_cons (ds_if (dt_bool (dw_or (dt_cmp (do_ne hu) (de_var 6) (de_var 4) (nomark _)) (dw_or1 (dt_cmp (do_ne hu) (de_call G_placings (hr.mono (by decide)) tk (da_cons (de_callTy dc_tuple T.b_tuple (da_cons (de_lc [("_law_message", 13)] rfl nd (blkOk_by (N := ["_law_script", "_law_names", "_law_first", "_law_ending", "_law_due", "_law_given", "_law_told", "_law_results", "_law_placing", "_law_made", "_law_cell_here", "_law_row_here", "_law_whole", "_law_message"]) (sc := defScope s_law) (by decide +kernel)) (di_any (de_var 2)) (fun _ _ _ _ _ => (dg_name nd 13)) (fun _ _ _ _ _ => dts_nil) (fun _ _ _ _ _ => (de_callTy dc_list T.b_list (da_cons (de_var 13) da_nil)))) da_nil)) (da_cons (de_var 3) da_nil))) (de_var 4) (nomark _))))) (dss_one (ds_ret de_bl)) dss_nil)
    (dss_cons (ds_own nd 7 da_nil)
    (dss_cons (ds_for (vs := [8]) hp rfl (di_any (de_var 4)) (dg_name nd 8)
    (dss_cons (ds_set nd 9 (de_call G_joined (hr.mono (by decide)) tk (da_cons (de_var 2) (da_cons (de_var 3) (da_cons (de_var 8) da_nil)))))
    (dss_cons (ds_if (dt_bool (dw_or (dt_cmp (do_ne hu) (de_var 9) (de_call G__law_joined (hr.mono (by decide)) tk (da_cons (de_var 2) (da_cons (de_var 3) (da_cons (de_var 8) da_nil)))) (nomark _)) (dw_or1 (dt_cmp (do_ne hu) (de_call G__law_positions (hr.mono (by decide)) tk (da_cons (de_var 9) (da_cons (de_callB dc_len T.b_len (da_cons (de_var 2) da_nil)) da_nil))) (de_var 8) (nomark _))))) (dss_one (ds_ret de_bl)) dss_nil)
    (dss_cons (ds_if (dt_bool (dw_or (dt_not (dt_truth (de_call G_alike (hr.mono (by decide)) tk (da_cons (de_slice (de_var 9) do_none (do_some (de_callB dc_len T.b_len (da_cons (de_var 2) da_nil)))) (da_cons (de_var 2) da_nil))))) (dw_or (dt_not (dt_truth (de_call G_alike (hr.mono (by decide)) tk (da_cons (de_slice (de_var 9) (do_some (de_callB dc_len T.b_len (da_cons (de_var 2) da_nil))) do_none) (da_cons (de_var 3) da_nil))))) (dw_or1 (dt_peek 7 (dt_cmp (do_in hu) (de_var 9) (de_var 7) (by rfl))))))) (dss_one (ds_ret de_bl)) dss_nil)
    (dss_cons (ds_app 7 (de_var 9))
    (dss_one (ds_if (dt_bool (dw_or (dt_cmp (do_ne hu) (de_call G_joined (hr.mono (by decide)) tk (da_cons (de_ix hu (de_var 5) de_int) (da_cons (de_ix hu (de_var 5) de_int) (da_cons (de_callTy dc_list T.b_list (da_cons (de_var 8) da_nil)) da_nil)))) (de_var 9) (nomark _)) (dw_or1 (dt_cmp (do_ne hu) (de_var 5) (de_lst (da_cons (de_callTy dc_list T.b_list (da_cons (de_var 2) da_nil)) (da_cons (de_callTy dc_list T.b_list (da_cons (de_var 3) da_nil)) da_nil))) (nomark _))))) (dss_one (ds_ret de_bl)) dss_nil)))))))
    (dss_cons (ds_for (vs := [10]) hp rfl (di_any (de_bin do_add (de_lst (da_cons (de_call G__law_cell (hr.mono (by decide)) tk (da_cons (de_var 0) (da_cons de_int da_nil))) (da_cons (de_call G__law_cell (hr.mono (by decide)) tk (da_cons (de_var 0) (da_cons de_int da_nil))) da_nil))) (de_slice (de_var 0) (do_some de_int) (do_some de_int)))) (dg_name nd 10)
    (dss_cons (ds_set nd 11 (de_call G__law_row (hr.mono (by decide)) tk (da_cons (de_var 10) (da_cons de_int da_nil))))
    (dss_cons (ds_set nd 12 (de_call G__law_dense (hr.mono (by decide)) tk (da_cons (de_bin do_add (de_call G__law_spread (hr.mono (by decide)) tk (da_cons (de_var 2) (da_cons (de_slice (de_var 11) do_none (do_some de_int)) da_nil))) (de_call G__law_spread (hr.mono (by decide)) tk (da_cons (de_var 3) (da_cons (de_slice (de_var 11) (do_some de_int) do_none) da_nil)))) da_nil)))
    (dss_one (ds_if (dt_peek 7 (dt_cmp (do_ne hu) (de_callB dc_len T.b_len (da_cons (de_lc [("_law_made", 9)] rfl nd (blkOk_by (N := ["_law_script", "_law_names", "_law_first", "_law_ending", "_law_due", "_law_given", "_law_told", "_law_results", "_law_placing", "_law_made", "_law_cell_here", "_law_row_here", "_law_whole", "_law_message"]) (sc := defScope s_law) (by decide +kernel)) (di_any (de_var 7)) (fun _ _ _ _ _ => (dg_name nd 9)) (fun _ _ _ _ _ => (dts_one (dt_cmp (do_eq hu) (de_var 9) (de_var 12) (nomark _)))) (fun _ _ _ _ _ => de_int)) da_nil)) de_int (nomark _))) (dss_one (ds_ret de_bl)) dss_nil)))))
    (dss_one (ds_ret de_bl)))))))))))))
end
theorem all_mk {w : World} {K : PySem.W.Frag} {h : Heap} {mg : Str → Option Value} {fa : Addr} {c : String → Addr} (X : K.In h) (G : h.Ns mainGlobals mg) (hfa : mg "law" = some (.ref fa))
    {f0 : Addr} {od0 an0 : Option Addr} {sl0 : Array (Option Value)} {oc0 kV0 dc0 pm0 cd0 ct0 : Value}
    (a0 : PySem.W.nsIn K mainGlobals "_law_cell" = some (some (.ref f0))) (l0 : K.lookup f0 = some ⟨oc0, od0, .func (PySem.W.fnOf "_law_cell" "_law_cell" (defArgs s__law_cell) (defBody s__law_cell) (defScope s__law_cell) .none kV0 dc0 pm0 an0 cd0 ct0), sl0⟩) (c0 : PySem.W.codeIn K cd0 "_law_cell" = true) (k0 : PySem.W.keepIn K (.ref f0) = true)
    {f1 : Addr} {od1 an1 : Option Addr} {sl1 : Array (Option Value)} {oc1 kV1 dc1 pm1 cd1 ct1 : Value}
    (a1 : PySem.W.nsIn K mainGlobals "_law_dense" = some (some (.ref f1))) (l1 : K.lookup f1 = some ⟨oc1, od1, .func (PySem.W.fnOf "_law_dense" "_law_dense" (defArgs s__law_dense) (defBody s__law_dense) (defScope s__law_dense) .none kV1 dc1 pm1 an1 cd1 ct1), sl1⟩) (c1 : PySem.W.codeIn K cd1 "_law_dense" = true) (k1 : PySem.W.keepIn K (.ref f1) = true)
    {f2 : Addr} {od2 an2 : Option Addr} {sl2 : Array (Option Value)} {oc2 kV2 dc2 pm2 cd2 ct2 : Value}
    (a2 : PySem.W.nsIn K mainGlobals "_law_distinct" = some (some (.ref f2))) (l2 : K.lookup f2 = some ⟨oc2, od2, .func (PySem.W.fnOf "_law_distinct" "_law_distinct" (defArgs s__law_distinct) (defBody s__law_distinct) (defScope s__law_distinct) .none kV2 dc2 pm2 an2 cd2 ct2), sl2⟩) (c2 : PySem.W.codeIn K cd2 "_law_distinct" = true) (k2 : PySem.W.keepIn K (.ref f2) = true)
    {f3 : Addr} {od3 an3 : Option Addr} {sl3 : Array (Option Value)} {oc3 kV3 dc3 pm3 cd3 ct3 : Value}
    (a3 : PySem.W.nsIn K mainGlobals "_law_joined" = some (some (.ref f3))) (l3 : K.lookup f3 = some ⟨oc3, od3, .func (PySem.W.fnOf "_law_joined" "_law_joined" (defArgs s__law_joined) (defBody s__law_joined) (defScope s__law_joined) .none kV3 dc3 pm3 an3 cd3 ct3), sl3⟩) (c3 : PySem.W.codeIn K cd3 "_law_joined" = true) (k3 : PySem.W.keepIn K (.ref f3) = true)
    {f4 : Addr} {od4 an4 : Option Addr} {sl4 : Array (Option Value)} {oc4 kV4 dc4 pm4 cd4 ct4 : Value}
    (a4 : PySem.W.nsIn K mainGlobals "_law_placings" = some (some (.ref f4))) (l4 : K.lookup f4 = some ⟨oc4, od4, .func (PySem.W.fnOf "_law_placings" "_law_placings" (defArgs s__law_placings) (defBody s__law_placings) (defScope s__law_placings) .none kV4 dc4 pm4 an4 cd4 ct4), sl4⟩) (c4 : PySem.W.codeIn K cd4 "_law_placings" = true) (k4 : PySem.W.keepIn K (.ref f4) = true)
    {f5 : Addr} {od5 an5 : Option Addr} {sl5 : Array (Option Value)} {oc5 kV5 dc5 pm5 cd5 ct5 : Value}
    (a5 : PySem.W.nsIn K mainGlobals "_law_position" = some (some (.ref f5))) (l5 : K.lookup f5 = some ⟨oc5, od5, .func (PySem.W.fnOf "_law_position" "_law_position" (defArgs s__law_position) (defBody s__law_position) (defScope s__law_position) .none kV5 dc5 pm5 an5 cd5 ct5), sl5⟩) (c5 : PySem.W.codeIn K cd5 "_law_position" = true) (k5 : PySem.W.keepIn K (.ref f5) = true)
    {f6 : Addr} {od6 an6 : Option Addr} {sl6 : Array (Option Value)} {oc6 kV6 dc6 pm6 cd6 ct6 : Value}
    (a6 : PySem.W.nsIn K mainGlobals "_law_positions" = some (some (.ref f6))) (l6 : K.lookup f6 = some ⟨oc6, od6, .func (PySem.W.fnOf "_law_positions" "_law_positions" (defArgs s__law_positions) (defBody s__law_positions) (defScope s__law_positions) .none kV6 dc6 pm6 an6 cd6 ct6), sl6⟩) (c6 : PySem.W.codeIn K cd6 "_law_positions" = true) (k6 : PySem.W.keepIn K (.ref f6) = true)
    {f7 : Addr} {od7 an7 : Option Addr} {sl7 : Array (Option Value)} {oc7 kV7 dc7 pm7 cd7 ct7 : Value}
    (a7 : PySem.W.nsIn K mainGlobals "_law_row" = some (some (.ref f7))) (l7 : K.lookup f7 = some ⟨oc7, od7, .func (PySem.W.fnOf "_law_row" "_law_row" (defArgs s__law_row) (defBody s__law_row) (defScope s__law_row) .none kV7 dc7 pm7 an7 cd7 ct7), sl7⟩) (c7 : PySem.W.codeIn K cd7 "_law_row" = true) (k7 : PySem.W.keepIn K (.ref f7) = true)
    {f8 : Addr} {od8 an8 : Option Addr} {sl8 : Array (Option Value)} {oc8 kV8 dc8 pm8 cd8 ct8 : Value}
    (a8 : PySem.W.nsIn K mainGlobals "_law_input" = some (some (.ref f8))) (l8 : K.lookup f8 = some ⟨oc8, od8, .func (PySem.W.fnOf "_law_input" "_law_input" (defArgs s__law_input) (defBody s__law_input) (defScope s__law_input) .none kV8 dc8 pm8 an8 cd8 ct8), sl8⟩) (c8 : PySem.W.codeIn K cd8 "_law_input" = true) (k8 : PySem.W.keepIn K (.ref f8) = true)
    {f9 : Addr} {od9 an9 : Option Addr} {sl9 : Array (Option Value)} {oc9 kV9 dc9 pm9 cd9 ct9 : Value}
    (a9 : PySem.W.nsIn K mainGlobals "_law_small" = some (some (.ref f9))) (l9 : K.lookup f9 = some ⟨oc9, od9, .func (PySem.W.fnOf "_law_small" "_law_small" (defArgs s__law_small) (defBody s__law_small) (defScope s__law_small) .none kV9 dc9 pm9 an9 cd9 ct9), sl9⟩) (c9 : PySem.W.codeIn K cd9 "_law_small" = true) (k9 : PySem.W.keepIn K (.ref f9) = true)
    {f10 : Addr} {od10 an10 : Option Addr} {sl10 : Array (Option Value)} {oc10 kV10 dc10 pm10 cd10 ct10 : Value}
    (a10 : PySem.W.nsIn K mainGlobals "_law_spread" = some (some (.ref f10))) (l10 : K.lookup f10 = some ⟨oc10, od10, .func (PySem.W.fnOf "_law_spread" "_law_spread" (defArgs s__law_spread) (defBody s__law_spread) (defScope s__law_spread) .none kV10 dc10 pm10 an10 cd10 ct10), sl10⟩) (c10 : PySem.W.codeIn K cd10 "_law_spread" = true) (k10 : PySem.W.keepIn K (.ref f10) = true)
    {f11 : Addr} {od11 an11 : Option Addr} {sl11 : Array (Option Value)} {oc11 kV11 dc11 pm11 cd11 ct11 : Value}
    (a11 : PySem.W.nsIn K mainGlobals "_law_word" = some (some (.ref f11))) (l11 : K.lookup f11 = some ⟨oc11, od11, .func (PySem.W.fnOf "_law_word" "_law_word" (defArgs s__law_word) (defBody s__law_word) (defScope s__law_word) .none kV11 dc11 pm11 an11 cd11 ct11), sl11⟩) (c11 : PySem.W.codeIn K cd11 "_law_word" = true) (k11 : PySem.W.keepIn K (.ref f11) = true)
    {f12 : Addr} {od12 an12 : Option Addr} {sl12 : Array (Option Value)} {oc12 kV12 dc12 pm12 cd12 ct12 : Value}
    (a12 : PySem.W.nsIn K mainGlobals "_law_words" = some (some (.ref f12))) (l12 : K.lookup f12 = some ⟨oc12, od12, .func (PySem.W.fnOf "_law_words" "_law_words" (defArgs s__law_words) (defBody s__law_words) (defScope s__law_words) .none kV12 dc12 pm12 an12 cd12 ct12), sl12⟩) (c12 : PySem.W.codeIn K cd12 "_law_words" = true) (k12 : PySem.W.keepIn K (.ref f12) = true)
    {f13 : Addr} {od13 an13 : Option Addr} {sl13 : Array (Option Value)} {oc13 kV13 dc13 pm13 cd13 ct13 : Value}
    (a13 : PySem.W.nsIn K mainGlobals "integers_of" = some (some (.ref f13))) (l13 : K.lookup f13 = some ⟨oc13, od13, .func (PySem.W.fnOf "integers_of" "integers_of" (defArgs s_integers_of) (defBody s_integers_of) (defScope s_integers_of) .none kV13 dc13 pm13 an13 cd13 ct13), sl13⟩) (c13 : PySem.W.codeIn K cd13 "integers_of" = true) (k13 : PySem.W.keepIn K (.ref f13) = true)
    {f14 : Addr} {od14 an14 : Option Addr} {sl14 : Array (Option Value)} {oc14 kV14 dc14 pm14 cd14 ct14 : Value}
    (a14 : PySem.W.nsIn K mainGlobals "dense" = some (some (.ref f14))) (l14 : K.lookup f14 = some ⟨oc14, od14, .func (PySem.W.fnOf "dense" "dense" (defArgs s_dense) (defBody s_dense) (defScope s_dense) .none kV14 dc14 pm14 an14 cd14 ct14), sl14⟩) (c14 : PySem.W.codeIn K cd14 "dense" = true) (k14 : PySem.W.keepIn K (.ref f14) = true)
    {f15 : Addr} {od15 an15 : Option Addr} {sl15 : Array (Option Value)} {oc15 kV15 dc15 pm15 cd15 ct15 : Value}
    (a15 : PySem.W.nsIn K mainGlobals "alike" = some (some (.ref f15))) (l15 : K.lookup f15 = some ⟨oc15, od15, .func (PySem.W.fnOf "alike" "alike" (defArgs s_alike) (defBody s_alike) (defScope s_alike) .none kV15 dc15 pm15 an15 cd15 ct15), sl15⟩) (c15 : PySem.W.codeIn K cd15 "alike" = true) (k15 : PySem.W.keepIn K (.ref f15) = true)
    {f16 : Addr} {od16 an16 : Option Addr} {sl16 : Array (Option Value)} {oc16 kV16 dc16 pm16 cd16 ct16 : Value}
    (a16 : PySem.W.nsIn K mainGlobals "joined" = some (some (.ref f16))) (l16 : K.lookup f16 = some ⟨oc16, od16, .func (PySem.W.fnOf "joined" "joined" (defArgs s_joined) (defBody s_joined) (defScope s_joined) .none kV16 dc16 pm16 an16 cd16 ct16), sl16⟩) (c16 : PySem.W.codeIn K cd16 "joined" = true) (k16 : PySem.W.keepIn K (.ref f16) = true)
    {f17 : Addr} {od17 an17 : Option Addr} {sl17 : Array (Option Value)} {oc17 kV17 dc17 pm17 cd17 ct17 : Value}
    (a17 : PySem.W.nsIn K mainGlobals "position_rows" = some (some (.ref f17))) (l17 : K.lookup f17 = some ⟨oc17, od17, .func (PySem.W.fnOf "position_rows" "position_rows" (defArgs s_position_rows) (defBody s_position_rows) (defScope s_position_rows) .none kV17 dc17 pm17 an17 cd17 ct17), sl17⟩) (c17 : PySem.W.codeIn K cd17 "position_rows" = true) (k17 : PySem.W.keepIn K (.ref f17) = true)
    {f18 : Addr} {od18 an18 : Option Addr} {sl18 : Array (Option Value)} {oc18 kV18 dc18 pm18 cd18 ct18 : Value}
    (a18 : PySem.W.nsIn K mainGlobals "placings" = some (some (.ref f18))) (l18 : K.lookup f18 = some ⟨oc18, od18, .func (PySem.W.fnOf "placings" "placings" (defArgs s_placings) (defBody s_placings) (defScope s_placings) .none kV18 dc18 pm18 an18 cd18 ct18), sl18⟩) (c18 : PySem.W.codeIn K cd18 "placings" = true) (k18 : PySem.W.keepIn K (.ref f18) = true)
    {f19 : Addr} {od19 an19 : Option Addr} {sl19 : Array (Option Value)} {oc19 kV19 dc19 pm19 cd19 ct19 : Value}
    (a19 : PySem.W.nsIn K mainGlobals "law" = some (some (.ref f19))) (l19 : K.lookup f19 = some ⟨oc19, od19, .func (PySem.W.fnOf "law" "law" (defArgs s_law) (defBody s_law) (defScope s_law) .none kV19 dc19 pm19 an19 cd19 ct19), sl19⟩) (c19 : PySem.W.codeIn K cd19 "law" = true) (k19 : PySem.W.keepIn K (.ref f19) = true)
    (z_enumerate : PySem.W.nsIn K mainGlobals "enumerate" = some none)
    (z_int : PySem.W.nsIn K mainGlobals "int" = some none)
    (z_len : PySem.W.nsIn K mainGlobals "len" = some none)
    (z_list : PySem.W.nsIn K mainGlobals "list" = some none)
    (z_range : PySem.W.nsIn K mainGlobals "range" = some none)
    (z_sorted : PySem.W.nsIn K mainGlobals "sorted" = some none)
    (z_tuple : PySem.W.nsIn K mainGlobals "tuple" = some none)
    (hlaw : ∀ ns : List Int, ns.length ≤ 63 → f_law [.scr (ns.map D.int)] = .ok (.bl true)) :
    ∃ fd : FuncData, (∀ (s : Shared) (v : Value), BindsTo s fd ⟨[v], []⟩ [("_law_script", v)]) ∧ ∀ base : Heap, K.In base → base.Ns mainGlobals mg → FnOk PySem.Challenge.pw_leastlearnt_k03_placings w K mg base (L2.CX PySem.Challenge.pw_leastlearnt_k03_placings w) 4 fa fd ["_law_script"] (spLaw K) := by
  have e := hfa.symm.trans (PySem.W.mg_of X G a19)
  cases e
  have T : Tx K mg c := ⟨PySem.W.mg_none_of X G z_enumerate, PySem.W.mg_none_of X G z_int, PySem.W.mg_none_of X G z_len, PySem.W.mg_none_of X G z_list, PySem.W.mg_none_of X G z_range, PySem.W.mg_none_of X G z_sorted, PySem.W.mg_none_of X G z_tuple⟩
  have A0 : DefAt K mg "_law_cell" s__law_cell ["_law_script", "_law_k"] := defAt_mk (PySem.W.mg_of X G a0) l0 c0 k0 fun _ _ _ _ _ _ us hl => match us, hl with | [_, _], _ => rfl
  have A1 : DefAt K mg "_law_dense" s__law_dense ["_law_messages"] := defAt_mk (PySem.W.mg_of X G a1) l1 c1 k1 fun _ _ _ _ _ _ us hl => match us, hl with | [_], _ => rfl
  have A2 : DefAt K mg "_law_distinct" s__law_distinct ["_law_messages"] := defAt_mk (PySem.W.mg_of X G a2) l2 c2 k2 fun _ _ _ _ _ _ us hl => match us, hl with | [_], _ => rfl
  have A3 : DefAt K mg "_law_joined" s__law_joined ["_law_first", "_law_ending", "_law_placing"] := defAt_mk (PySem.W.mg_of X G a3) l3 c3 k3 fun _ _ _ _ _ _ us hl => match us, hl with | [_, _, _], _ => rfl
  have A4 : DefAt K mg "_law_placings" s__law_placings ["_law_first", "_law_ending"] := defAt_mk (PySem.W.mg_of X G a4) l4 c4 k4 fun _ _ _ _ _ _ us hl => match us, hl with | [_, _], _ => rfl
  have A5 : DefAt K mg "_law_position" s__law_position ["_law_number", "_law_others"] := defAt_mk (PySem.W.mg_of X G a5) l5 c5 k5 fun _ _ _ _ _ _ us hl => match us, hl with | [_, _], _ => rfl
  have A6 : DefAt K mg "_law_positions" s__law_positions ["_law_messages", "_law_size"] := defAt_mk (PySem.W.mg_of X G a6) l6 c6 k6 fun _ _ _ _ _ _ us hl => match us, hl with | [_, _], _ => rfl
  have A7 : DefAt K mg "_law_row" s__law_row ["_law_cell_here", "_law_count"] := defAt_mk (PySem.W.mg_of X G a7) l7 c7 k7 fun _ _ _ _ _ _ us hl => match us, hl with | [_, _], _ => rfl
  have A8 : DefAt K mg "_law_input" s__law_input ["_law_names", "_law_cell_here", "_law_size"] := defAt_mk (PySem.W.mg_of X G a8) l8 c8 k8 fun _ _ _ _ _ _ us hl => match us, hl with | [_, _, _], _ => rfl
  have A9 : DefAt K mg "_law_small" s__law_small ["_law_names", "_law_cell_here"] := defAt_mk (PySem.W.mg_of X G a9) l9 c9 k9 fun _ _ _ _ _ _ us hl => match us, hl with | [_, _], _ => rfl
  have A10 : DefAt K mg "_law_spread" s__law_spread ["_law_messages", "_law_row_here"] := defAt_mk (PySem.W.mg_of X G a10) l10 c10 k10 fun _ _ _ _ _ _ us hl => match us, hl with | [_, _], _ => rfl
  have A11 : DefAt K mg "_law_word" s__law_word ["_law_number"] := defAt_mk (PySem.W.mg_of X G a11) l11 c11 k11 fun _ _ _ _ _ _ us hl => match us, hl with | [_], _ => rfl
  have A12 : DefAt K mg "_law_words" s__law_words ["_law_row_here", "_law_count"] := defAt_mk (PySem.W.mg_of X G a12) l12 c12 k12 fun _ _ _ _ _ _ us hl => match us, hl with | [_, _], _ => rfl
  have A13 : DefAt K mg "integers_of" s_integers_of ["messages"] := defAt_mk (PySem.W.mg_of X G a13) l13 c13 k13 fun _ _ _ _ _ _ us hl => match us, hl with | [_], _ => rfl
  have A14 : DefAt K mg "dense" s_dense ["messages"] := defAt_mk (PySem.W.mg_of X G a14) l14 c14 k14 fun _ _ _ _ _ _ us hl => match us, hl with | [_], _ => rfl
  have A15 : DefAt K mg "alike" s_alike ["first", "second"] := defAt_mk (PySem.W.mg_of X G a15) l15 c15 k15 fun _ _ _ _ _ _ us hl => match us, hl with | [_, _], _ => rfl
  have A16 : DefAt K mg "joined" s_joined ["first", "ending", "placing"] := defAt_mk (PySem.W.mg_of X G a16) l16 c16 k16 fun _ _ _ _ _ _ us hl => match us, hl with | [_, _, _], _ => rfl
  have A17 : DefAt K mg "position_rows" s_position_rows ["count", "size"] := defAt_mk (PySem.W.mg_of X G a17) l17 c17 k17 fun _ _ _ _ _ _ us hl => match us, hl with | [_, _], _ => rfl
  have A18 : DefAt K mg "placings" s_placings ["first", "ending"] := defAt_mk (PySem.W.mg_of X G a18) l18 c18 k18 fun _ _ _ _ _ _ us hl => match us, hl with | [_, _], _ => rfl
  have F := fun_mk (st := s_law) l19 c19 k19
  have hb : Binds K _ ["_law_script"] [] := F.binds fun _ _ _ _ _ _ us hl => match us, hl with | [_], _ => rfl
  refine ⟨PySem.W.fnOf "law" "law" (defArgs s_law) (defBody s_law) (defScope s_law) .none kV19 dc19 pm19 an19 cd19 ct19, fun s v => .of_eq rfl, fun base _ _ => ?_⟩
  have G0 := d__law_cell (P := PySem.Challenge.pw_leastlearnt_k03_placings) (w := w) (base := base) T A0 
  have G1 := d__law_dense (P := PySem.Challenge.pw_leastlearnt_k03_placings) (w := w) (base := base) T A1 
  have G2 := d__law_distinct (P := PySem.Challenge.pw_leastlearnt_k03_placings) (w := w) (base := base) T A2 
  have G3 := d__law_joined (P := PySem.Challenge.pw_leastlearnt_k03_placings) (w := w) (base := base) T A3 G1 G2
  have G4 := d__law_placings (P := PySem.Challenge.pw_leastlearnt_k03_placings) (w := w) (base := base) T A4 G2
  have G5 := d__law_position (P := PySem.Challenge.pw_leastlearnt_k03_placings) (w := w) (base := base) T A5 
  have G6 := d__law_positions (P := PySem.Challenge.pw_leastlearnt_k03_placings) (w := w) (base := base) T A6 G2 G5
  have G7 := d__law_row (P := PySem.Challenge.pw_leastlearnt_k03_placings) (w := w) (base := base) T A7 
  have G8 := d__law_input (P := PySem.Challenge.pw_leastlearnt_k03_placings) (w := w) (base := base) T A8 G7
  have G9 := d__law_small (P := PySem.Challenge.pw_leastlearnt_k03_placings) (w := w) (base := base) T A9 G8
  have G10 := d__law_spread (P := PySem.Challenge.pw_leastlearnt_k03_placings) (w := w) (base := base) T A10 G2
  have G11 := d__law_word (P := PySem.Challenge.pw_leastlearnt_k03_placings) (w := w) (base := base) T A11 
  have G12 := d__law_words (P := PySem.Challenge.pw_leastlearnt_k03_placings) (w := w) (base := base) T A12 G11
  have G13 := d_integers_of (P := PySem.Challenge.pw_leastlearnt_k03_placings) (w := w) (base := base) T A13 
  have G14 := d_dense (P := PySem.Challenge.pw_leastlearnt_k03_placings) (w := w) (base := base) T A14 G13
  have G15 := d_alike (P := PySem.Challenge.pw_leastlearnt_k03_placings) (w := w) (base := base) T A15 G14
  have G16 := d_joined (P := PySem.Challenge.pw_leastlearnt_k03_placings) (w := w) (base := base) T A16 G14 G13
  have G17 := d_position_rows (P := PySem.Challenge.pw_leastlearnt_k03_placings) (w := w) (base := base) T A17 
  have G18 := d_placings (P := PySem.Challenge.pw_leastlearnt_k03_placings) (w := w) (base := base) T A18 G13 G17
  exact law_ok (k := 4) (law_fn (P := PySem.Challenge.pw_leastlearnt_k03_placings) (w := w) (base := base) T F (PySem.W.mg_of X G a19) hb G0 G1 G2 G3 G4 G6 G7 G9 G10 G12 G15 G16 G18) hlaw
end DL
open PySem PySem.W PyProof.Rows
set_option maxRecDepth 100000 in
set_option maxHeartbeats 0 in
theorem PySem.Challenge.cw_leastlearnt_k03_placings_holds : PySem.Challenge.rw_leastlearnt_k03_placings.Holds := by
  w_on; o_law; k_head; (case hw => w_witness2)
  k_fill
  refine L2.walk_of (l := PySem.Challenge.rw_leastlearnt_k03_placings) (n := 63) (k := 4) (x := "_law_script") (CX := fun w => L2.CX PySem.Challenge.pw_leastlearnt_k03_placings w) (sp := fun w => DL.spLaw _) rfl (by decide) rfl ⟨rfl, by decide, by decide⟩ (fun w h Y => PySem.W.kIn_of Y) ?F (fun _ _ a ns hl _ hS => ⟨a, ns, rfl, hS, hl, fun _ => rfl⟩) (fun _ _ _ _ _ h => DL.cx_no h)
  case F =>
    intro w mg fa h KX G hmg
    refine' DL.all_mk (c := fun _ => 0) KX G hmg ?a0 ?l0 ?c0 ?k0 ?a1 ?l1 ?c1 ?k1 ?a2 ?l2 ?c2 ?k2 ?a3 ?l3 ?c3 ?k3 ?a4 ?l4 ?c4 ?k4 ?a5 ?l5 ?c5 ?k5 ?a6 ?l6 ?c6 ?k6 ?a7 ?l7 ?c7 ?k7 ?a8 ?l8 ?c8 ?k8 ?a9 ?l9 ?c9 ?k9 ?a10 ?l10 ?c10 ?k10 ?a11 ?l11 ?c11 ?k11 ?a12 ?l12 ?c12 ?k12 ?a13 ?l13 ?c13 ?k13 ?a14 ?l14 ?c14 ?k14 ?a15 ?l15 ?c15 ?k15 ?a16 ?l16 ?c16 ?k16 ?a17 ?l17 ?c17 ?k17 ?a18 ?l18 ?c18 ?k18 ?a19 ?l19 ?c19 ?k19 ?z_enumerate ?z_int ?z_len ?z_list ?z_range ?z_sorted ?z_tuple DL.law_true
    (case a0 => k_is)
    (case l0 => k_is)
    (case c0 => k_is)
    (case k0 => k_is)
    (case a1 => k_is)
    (case l1 => k_is)
    (case c1 => k_is)
    (case k1 => k_is)
    (case a2 => k_is)
    (case l2 => k_is)
    (case c2 => k_is)
    (case k2 => k_is)
    (case a3 => k_is)
    (case l3 => k_is)
    (case c3 => k_is)
    (case k3 => k_is)
    (case a4 => k_is)
    (case l4 => k_is)
    (case c4 => k_is)
    (case k4 => k_is)
    (case a5 => k_is)
    (case l5 => k_is)
    (case c5 => k_is)
    (case k5 => k_is)
    (case a6 => k_is)
    (case l6 => k_is)
    (case c6 => k_is)
    (case k6 => k_is)
    (case a7 => k_is)
    (case l7 => k_is)
    (case c7 => k_is)
    (case k7 => k_is)
    (case a8 => k_is)
    (case l8 => k_is)
    (case c8 => k_is)
    (case k8 => k_is)
    (case a9 => k_is)
    (case l9 => k_is)
    (case c9 => k_is)
    (case k9 => k_is)
    (case a10 => k_is)
    (case l10 => k_is)
    (case c10 => k_is)
    (case k10 => k_is)
    (case a11 => k_is)
    (case l11 => k_is)
    (case c11 => k_is)
    (case k11 => k_is)
    (case a12 => k_is)
    (case l12 => k_is)
    (case c12 => k_is)
    (case k12 => k_is)
    (case a13 => k_is)
    (case l13 => k_is)
    (case c13 => k_is)
    (case k13 => k_is)
    (case a14 => k_is)
    (case l14 => k_is)
    (case c14 => k_is)
    (case k14 => k_is)
    (case a15 => k_is)
    (case l15 => k_is)
    (case c15 => k_is)
    (case k15 => k_is)
    (case a16 => k_is)
    (case l16 => k_is)
    (case c16 => k_is)
    (case k16 => k_is)
    (case a17 => k_is)
    (case l17 => k_is)
    (case c17 => k_is)
    (case k17 => k_is)
    (case a18 => k_is)
    (case l18 => k_is)
    (case c18 => k_is)
    (case k18 => k_is)
    (case a19 => k_is)
    (case l19 => k_is)
    (case c19 => k_is)
    (case k19 => k_is)
    (case z_enumerate => k_is)
    (case z_int => k_is)
    (case z_len => k_is)
    (case z_list => k_is)
    (case z_range => k_is)
    (case z_sorted => k_is)
    (case z_tuple => k_is)
